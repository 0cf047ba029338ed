/- Blocks enciphered and deciphered. Conditions: those that each theorem states. -/
import Derived.Test.YtcmgadjnammahaaE5
namespace Go.Proofs.Ytcmgadjnammahaa
open Go.Vc Go.Ax Go.RowKit
set_option linter.unusedVariables false
set_option linter.unusedSimpArgs false
set_option maxRecDepth 20000
theorem dec_len {keys tb blk : List UInt8} (hk : keys.length = 176) (hb : blk.length = 16) : (dec keys tb blk).length = 16 := xorL_len (decN_len hb 10) (keyR_len hk (by omega))
theorem c_EncipherR (keys tb blk : List UInt8) (hks : keys.length = 176) (htb : tb.length = 256) (hbl : blk.length = 16) (w : World) :
    Cs Try.prog 61 [(.agg ⟨keys.map vu8⟩), (.agg ⟨blk.map vu8⟩), (.agg ⟨tb.map vu8⟩)].toArray w (fun v w1 => v = (.agg ⟨(encN keys tb blk 10).map vu8⟩) ∧ Chg w w1 []) := by
  refine Cs.of (n := 55) (args := [(.agg ⟨keys.map vu8⟩), (.agg ⟨blk.map vu8⟩), (.agg ⟨tb.map vu8⟩)]) Try.func61 rfl rfl rfl ?_
  have h_0 := HP.init w
  refine WP.seq ?_
  refine WP.reg ?_
  refine WL.box (v := (.agg ⟨keys.map vu8⟩)) (segs := [(176, keys.map vu8)]) h_0 rfl rfl (SsOk.cons (SOk.u8 hks) SsOk.nil) rfl (fun b_1 w_2 h_3 => ?_)
  refine WL.box (v := (.agg ⟨blk.map vu8⟩)) (segs := [(16, blk.map vu8)]) h_3 rfl rfl (SsOk.cons (SOk.u8 hbl) SsOk.nil) rfl (fun b_4 w_5 h_6 => ?_)
  refine WL.box (v := (.agg ⟨tb.map vu8⟩)) (segs := [(256, tb.map vu8)]) h_6 rfl rfl (SsOk.cons (SOk.u8 htb) SsOk.nil) rfl (fun b_7 w_8 h_9 => ?_)
  refine WL.alloc (segs := [(16, (List.replicate 16 (0 : UInt8)).map vu8)]) h_9 (zv Try.typeInfo66 rfl) rfl (SsOk.cons (SOk.u8 (List.length_replicate ..)) SsOk.nil) rfl (fun b_10 w_11 h_12 => ?_)
  refine WL.nil ?_
  refine thn_n ?_
  refine WP.seq ?_
  refine WP.reg ?_
  refine WL.q (Wn.no rfl) rfl rfl (R.loadA (b := b_4) (off := 0) [] [(16, blk.map vu8)] [] (cs := blk.map vu8) rfl Try.isAgg66 Try.sizeOf66 (h_12.ok _ (.tail _ (.tail _ (.head _)))) rfl rfl rfl rfl) ?_
  refine WL.q (Wn.no rfl) rfl rfl (R.indexA (b := b_1) (off := 0) (off' := 0) (i := 0) rfl rfl rfl (by decide) Try.underlying74 Try.sizeOf66 rfl) ?_
  refine WL.q (Wn.no rfl) rfl rfl (R.loadEA (b := b_1) (off := 0) (i := 0) (xs := ((keys.drop 0).take 16).map vu8) rfl Try.isAgg66 Try.sizeOf66 (h_12.ok _ (.tail _ (.tail _ (.tail _ (.head _))))) Sg.h rfl (by rw [List.map_take, List.map_drop]) (len_map (subLen (K := 176) hks (by omega) : List.length ((keys.drop 0).take 16) = 16))) ?_
  refine WL.call (al := [(.agg ⟨blk.map vu8⟩), (.agg ⟨((keys.drop 0).take 16).map vu8⟩)]) Try.call84 rfl rfl (c_xorR blk ((keys.drop 0).take 16) hbl (subLen (K := 176) hks (by omega) : List.length ((keys.drop 0).take 16) = 16) _ ) rfl ?_
  rintro _ w_14 ⟨rfl, hc_13⟩
  have h_15 := h_12.same hc_13
  refine WL.alloc (segs := [(16, (List.replicate 16 (0 : UInt8)).map vu8)]) h_15 (zv Try.typeInfo66 rfl) rfl (SsOk.cons (SOk.u8 (List.length_replicate ..)) SsOk.nil) rfl (fun b_16 w_17 h_18 => ?_)
  refine WL.storeA (b := b_16) (off := 0) [] [(16, (List.replicate 16 (0 : UInt8)).map vu8)] [(16, (xorL blk ((keys.drop 0).take 16)).map vu8)] [] (ys := (xorL blk ((keys.drop 0).take 16)).map vu8) h_18 rfl rfl Try.sizeOf66 At.h (by decide) rfl rfl rfl rfl rfl rfl (SsOk.cons (SOk.u8 (xorL_len hbl (subLen (K := 176) hks (by omega) : List.length ((keys.drop 0).take 16) = 16))) SsOk.nil) (fun w_19 h_20 => ?_)
  refine WL.nil ?_
  refine thn_n ?_
  refine WP.seq ?_
  refine WP.seq ?_
  refine WP.reg ?_
  refine WL.q (Wn.no rfl) rfl rfl (R.assign (v := (vi 1)) rfl) ?_
  refine WL.nil ?_
  refine thn_n ?_
  refine WP.block ?_
  refine WP.loopG (G := Nat) [8, 9, 10, 11, 16, 17, 18, 19, 20, 21, 22, 23, 24, 25, 26, 27, 28, 29, 30, 31, 32, 33, 34, 35, 36, 37, 38, 39, 40, 41, 42, 43, 44, 45, 46, 47, 48, 49, 50, 51, 52, 53] (fun q => [(8, (vi ((q : Nat) : Int)))]) (fun q m w1 => HP w w1 [.blk b_16 .nw 66 [(16, (encN keys tb blk (q - 1)).map vu8)], .blk b_10 .nw 66 [(16, (List.replicate 16 (0 : UInt8)).map vu8)], .blk b_7 .nw 72 [(256, tb.map vu8)], .blk b_4 .nw 66 [(16, blk.map vu8)], .blk b_1 .nw 74 [(176, keys.map vu8)]] ∧ (1 ≤ q) ∧ (q ≤ 11) ∧ m = 11 - q) ⟨1, _, ⟨rfl, trivial⟩, h_20, (by omega), (by omega), rfl⟩ ?_
  rintro q m_23 J_24 w_21 ⟨h_22, hq, hq2, rfl⟩
  refine WP.seq ?_
  refine WP.seq ?_
  refine WP.reg ?_
  refine WL.q (Wn.no rfl) rfl rfl (R.move (v := (vi ((q : Nat) : Int))) rfl) ?_
  refine WL.q (Wn.no rfl) rfl rfl (R.bin (v := (.bool (decide ((((q : Nat) : Int) : Int) ≤ 10)))) rfl rfl (bi_leq (r := decide ((((q : Nat) : Int) : Int) ≤ 10)) rfl)) ?_
  refine WL.nil ?_
  refine thn_n ?_
  refine WP.cond (b := decide ((((q : Nat) : Int) : Int) ≤ 10)) rfl (fun c_25 => ?_) (fun c_25 => ?_)
  · have p_26 := of_decide_eq_true c_25
    refine WP.skip ?_
    refine thn_n ?_
    refine WP.seq ?_
    refine WP.block ?_
    refine WP.seq ?_
    refine WP.reg ?_
    refine WL.alloc (segs := [(16, (List.replicate 16 (0 : UInt8)).map vu8)]) h_22 (zv Try.typeInfo66 rfl) rfl (SsOk.cons (SOk.u8 (List.length_replicate ..)) SsOk.nil) rfl (fun b_27 w_28 h_29 => ?_)
    refine WL.nil ?_
    refine thn_n ?_
    refine WP.seq ?_
    refine WP.seq ?_
    refine WP.reg ?_
    refine WL.q (Wn.no rfl) rfl rfl (R.assign (v := (vi 0)) rfl) ?_
    refine WL.nil ?_
    refine thn_n ?_
    refine WP.block ?_
    refine WP.loopG (G := Nat) [10, 11, 20, 21, 22, 23, 24, 25, 26, 27, 28, 29, 30, 31, 32, 33, 34, 35, 36, 37, 38, 39, 40, 41, 42, 43] (fun c => [(10, (vi ((c : Nat) : Int)))]) (fun c m w1 => HP w w1 [.blk b_27 .nw 66 [(16, (pre 16 (shb tb (encN keys tb blk (q - 1))) (4 * c)).map vu8)], .blk b_16 .nw 66 [(16, (encN keys tb blk (q - 1)).map vu8)], .blk b_10 .nw 66 [(16, (List.replicate 16 (0 : UInt8)).map vu8)], .blk b_7 .nw 72 [(256, tb.map vu8)], .blk b_4 .nw 66 [(16, blk.map vu8)], .blk b_1 .nw 74 [(176, keys.map vu8)]] ∧ (c ≤ 4) ∧ m = 4 - c) ⟨0, _, ⟨rfl, trivial⟩, (by rw [Nat.mul_zero, pre_0]; exact h_29), (by omega), rfl⟩ ?_
    rintro c m_32 J_33 w_30 ⟨h_31, hc, rfl⟩
    refine WP.seq ?_
    refine WP.seq ?_
    refine WP.reg ?_
    refine WL.q (Wn.no rfl) rfl rfl (R.move (v := (vi ((c : Nat) : Int))) rfl) ?_
    refine WL.q (Wn.no rfl) rfl rfl (R.bin (v := (.bool (decide ((((c : Nat) : Int) : Int) < 4)))) rfl rfl (bi_lss (r := decide ((((c : Nat) : Int) : Int) < 4)) rfl)) ?_
    refine WL.nil ?_
    refine thn_n ?_
    refine WP.cond (b := decide ((((c : Nat) : Int) : Int) < 4)) rfl (fun c_34 => ?_) (fun c_34 => ?_)
    · have p_35 := of_decide_eq_true c_34
      refine WP.skip ?_
      refine thn_n ?_
      refine WP.seq ?_
      refine WP.block ?_
      refine WP.seq ?_
      refine WP.reg ?_
      refine WL.q (Wn.no rfl) rfl rfl (R.assign (v := (vi 0)) rfl) ?_
      refine WL.nil ?_
      refine thn_n ?_
      refine WP.block ?_
      refine WP.loopG (G := Nat) [11, 24, 25, 26, 27, 28, 29, 30, 31, 32, 33, 34, 35, 36, 37, 38, 39, 40, 41, 42, 43] (fun r => [(11, (vi ((r : Nat) : Int)))]) (fun r m w1 => HP w w1 [.blk b_27 .nw 66 [(16, (pre 16 (shb tb (encN keys tb blk (q - 1))) (4 * c + r)).map vu8)], .blk b_16 .nw 66 [(16, (encN keys tb blk (q - 1)).map vu8)], .blk b_10 .nw 66 [(16, (List.replicate 16 (0 : UInt8)).map vu8)], .blk b_7 .nw 72 [(256, tb.map vu8)], .blk b_4 .nw 66 [(16, blk.map vu8)], .blk b_1 .nw 74 [(176, keys.map vu8)]] ∧ (r ≤ 4) ∧ m = 4 - r) ⟨0, _, ⟨rfl, trivial⟩, h_31, (by omega), rfl⟩ ?_
      rintro r m_38 J_39 w_36 ⟨h_37, hr, rfl⟩
      refine WP.seq ?_
      refine WP.seq ?_
      refine WP.reg ?_
      refine WL.q (Wn.no rfl) rfl rfl (R.move (v := (vi ((r : Nat) : Int))) rfl) ?_
      refine WL.q (Wn.no rfl) rfl rfl (R.bin (v := (.bool (decide ((((r : Nat) : Int) : Int) < 4)))) rfl rfl (bi_lss (r := decide ((((r : Nat) : Int) : Int) < 4)) rfl)) ?_
      refine WL.nil ?_
      refine thn_n ?_
      refine WP.cond (b := decide ((((r : Nat) : Int) : Int) < 4)) rfl (fun c_40 => ?_) (fun c_40 => ?_)
      · have p_41 := of_decide_eq_true c_40
        refine WP.skip ?_
        refine thn_n ?_
        refine WP.seq ?_
        refine WP.block ?_
        refine WP.reg ?_
        refine WL.q (Wn.no rfl) rfl rfl (R.move (v := (vi ((c : Nat) : Int))) rfl) ?_
        refine WL.q (Wn.no rfl) rfl rfl (R.bin (v := (vi ((4 * c : Nat) : Int))) rfl rfl (bi_mul (c := ((4 * c : Nat) : Int)) (by omega) (by omega))) ?_
        refine WL.q (Wn.no rfl) rfl rfl (R.move (v := (vi ((r : Nat) : Int))) rfl) ?_
        refine WL.q (Wn.no rfl) rfl rfl (R.bin (v := (vi ((4 * c + r : Nat) : Int))) rfl rfl (bi_add (c := ((4 * c + r : Nat) : Int)) (by omega) (by omega))) ?_
        refine WL.q (Wn.no rfl) rfl rfl (R.move (v := (vi ((c : Nat) : Int))) rfl) ?_
        refine WL.q (Wn.no rfl) rfl rfl (R.move (v := (vi ((r : Nat) : Int))) rfl) ?_
        refine WL.q (Wn.no rfl) rfl rfl (R.bin (v := (vi ((c + r : Nat) : Int))) rfl rfl (bi_add (c := ((c + r : Nat) : Int)) (by omega) (by omega))) ?_
        refine WL.q (Wn.no rfl) rfl rfl (R.bin (v := (vi (((c + r) % 4 : Nat) : Int))) rfl rfl (bi_rem (c := (((c + r) % 4 : Nat) : Int)) (Int.natCast_nonneg _) (by omega) (by first | omega | rfl))) ?_
        refine WL.q (Wn.no rfl) rfl rfl (R.bin (v := (vi ((4 * ((c + r) % 4) : Nat) : Int))) rfl rfl (bi_mul (c := ((4 * ((c + r) % 4) : Nat) : Int)) (by omega) (by omega))) ?_
        refine WL.q (Wn.no rfl) rfl rfl (R.move (v := (vi ((r : Nat) : Int))) rfl) ?_
        refine WL.q (Wn.no rfl) rfl rfl (R.bin (v := (vi ((4 * ((c + r) % 4) + r : Nat) : Int))) rfl rfl (bi_add (c := ((4 * ((c + r) % 4) + r : Nat) : Int)) (by omega) (by omega))) ?_
        refine WL.q (Wn.no rfl) rfl rfl (R.indexA (b := b_16) (off := 0) (off' := (0 + (4 * ((c + r) % 4) + r))) (i := 4 * ((c + r) % 4) + r) rfl rfl rfl (by omega) Try.underlying66 Try.sizeOf5 (by rw [Nat.mul_one])) ?_
        refine WL.q (Wn.no rfl) rfl rfl (R.loadE (b := b_16) (off := (0 + (4 * ((c + r) % 4) + r))) (i := 4 * ((c + r) % 4) + r) (v := (vu8 ((encN keys tb blk (q - 1)).getD (4 * ((c + r) % 4) + r) 0))) rfl Try.isAgg5 (h_37.ok _ (.tail _ (.head _))) Sg.h rfl (get_u8 (lt_len (K := 16) (encN_len hks hbl (by omega)) (by omega)))) ?_
        refine WL.q (Wn.no rfl) rfl rfl (R.indexA (b := b_7) (off := 0) (off' := (0 + (((encN keys tb blk (q - 1)).getD (4 * ((c + r) % 4) + r) 0).toNat))) (i := ((encN keys tb blk (q - 1)).getD (4 * ((c + r) % 4) + r) 0).toNat) rfl rfl rfl (UInt8.toNat_lt _) Try.underlying72 Try.sizeOf5 (by rw [Nat.mul_one])) ?_
        refine WL.q (Wn.no rfl) rfl rfl (R.loadE (b := b_7) (off := (0 + (((encN keys tb blk (q - 1)).getD (4 * ((c + r) % 4) + r) 0).toNat))) (i := ((encN keys tb blk (q - 1)).getD (4 * ((c + r) % 4) + r) 0).toNat) (v := (vu8 (tb.getD (((encN keys tb blk (q - 1)).getD (4 * ((c + r) % 4) + r) 0).toNat) 0))) rfl Try.isAgg5 (h_37.ok _ (.tail _ (.tail _ (.tail _ (.head _))))) Sg.h rfl (get_u8 (lt_len (K := 256) htb (UInt8.toNat_lt _)))) ?_
        refine WL.q (Wn.no rfl) rfl rfl (R.indexA (b := b_27) (off := 0) (off' := (0 + (4 * c + r))) (i := 4 * c + r) rfl rfl rfl (by omega) Try.underlying66 Try.sizeOf5 (by rw [Nat.mul_one])) ?_
        refine WL.storeE (b := b_27) (off := (0 + (4 * c + r))) (i := 4 * c + r) (v := (vu8 (tb.getD (((encN keys tb blk (q - 1)).getD (4 * ((c + r) % 4) + r) 0).toNat) 0))) (cs' := ((pre 16 (shb tb (encN keys tb blk (q - 1))) (4 * c + r)).set (4 * c + r) (tb.getD (((encN keys tb blk (q - 1)).getD (4 * ((c + r) % 4) + r) 0).toNat) 0)).map vu8) h_37 rfl rfl Try.sizeOf5 rfl At.h (by decide) Sg.h rfl (lt_len (K := 16) (len_map (pre_len (by omega))) (by omega)) (set_u8 _ _ _) (fun w_42 h_43 => ?_)
        refine WL.nil ?_
        refine inb_n ?_
        refine thn_n ?_
        refine WP.reg ?_
        refine WL.q (Wn.no rfl) rfl rfl (R.move (v := (vi ((r : Nat) : Int))) rfl) ?_
        refine WL.q (Wn.no rfl) rfl rfl (R.bin (v := (vi ((r + 1 : Nat) : Int))) rfl rfl (bi_add (c := ((r + 1 : Nat) : Int)) (by omega) (by omega))) ?_
        refine WL.q (Wn.no rfl) rfl rfl (R.assign (v := (vi ((r + 1 : Nat) : Int))) rfl) ?_
        refine WL.nil ?_
        refine thn_n ?_
        have es := pre_set (n := 16) (g := shb tb (encN keys tb blk (q - 1))) (i := 4 * c + r) (by omega) (shb_cr (tb := tb) (s := encN keys tb blk (q - 1)) (c := c) (r := r) (by omega) (by omega))
        rw [es] at h_43
        exact ⟨r + 1, _, (by omega), (Ag.upd rfl (Ag.upd rfl (Ag.upd rfl (Ag.upd rfl (Ag.upd rfl (Ag.upd rfl (Ag.upd rfl (Ag.upd rfl (Ag.upd rfl (Ag.upd rfl (Ag.upd rfl (Ag.upd rfl (Ag.upd rfl (Ag.upd rfl (Ag.upd rfl (Ag.upd rfl (Ag.upd rfl (Ag.upd rfl (Ag.upd rfl (Ag.upd rfl (Ag.upd rfl (Ag.updL rfl (Ag.mix _ _ _))))))))))))))))))))))), ⟨rfl, trivial⟩, h_43, (by omega), rfl⟩
      · have p_44 := of_decide_eq_false c_40
        refine WP.exit ?_
        refine thn_x ?_
        refine thn_x ?_
        refine inb_hit ?_
        refine inb_n ?_
        refine thn_n ?_
        refine WP.reg ?_
        refine WL.q (Wn.no rfl) rfl rfl (R.move (v := (vi ((c : Nat) : Int))) rfl) ?_
        refine WL.q (Wn.no rfl) rfl rfl (R.bin (v := (vi ((c + 1 : Nat) : Int))) rfl rfl (bi_add (c := ((c + 1 : Nat) : Int)) (by omega) (by omega))) ?_
        refine WL.q (Wn.no rfl) rfl rfl (R.assign (v := (vi ((c + 1 : Nat) : Int))) rfl) ?_
        refine WL.nil ?_
        refine thn_n ?_
        have hr4 : r = 4 := by omega
        subst hr4
        rw [show 4 * c + 4 = 4 * (c + 1) by omega] at h_37
        exact ⟨c + 1, _, (by omega), (Ag.upd rfl (Ag.upd rfl (Ag.upd rfl (Ag.upd rfl (Ag.upd rfl (Ag.updL rfl (Ag.trans (Ag.sub rfl (Ag.mix _ _ _)) (Ag.upd rfl (Ag.upd rfl (Ag.upd rfl (Ag.updL rfl (Ag.mix _ _ _)))))))))))), ⟨rfl, trivial⟩, h_37, (by omega), rfl⟩
    · have p_45 := of_decide_eq_false c_34
      refine WP.exit ?_
      refine thn_x ?_
      refine thn_x ?_
      refine inb_hit ?_
      refine thn_n ?_
      refine WP.seq ?_
      refine WP.seq ?_
      refine WP.reg ?_
      refine WL.q (Wn.no rfl) rfl rfl (R.move (v := (vi ((q : Nat) : Int))) rfl) ?_
      refine WL.q (Wn.no rfl) rfl rfl (R.bin (v := (.bool (decide ((((q : Nat) : Int) : Int) < 10)))) rfl rfl (bi_lss (r := decide ((((q : Nat) : Int) : Int) < 10)) rfl)) ?_
      refine WL.nil ?_
      refine thn_n ?_
      refine WP.cond (b := decide ((((q : Nat) : Int) : Int) < 10)) rfl (fun c_46 => ?_) (fun c_46 => ?_)
      · have p_47 := of_decide_eq_true c_46
        refine WP.reg ?_
        refine WL.q (Wn.no rfl) rfl rfl (R.loadA (b := b_27) (off := 0) [] [(16, (pre 16 (shb tb (encN keys tb blk (q - 1))) (4 * c)).map vu8)] [] (cs := (pre 16 (shb tb (encN keys tb blk (q - 1))) (4 * c)).map vu8) rfl Try.isAgg66 Try.sizeOf66 (h_31.ok _ (.head _)) rfl rfl rfl rfl) ?_
        refine WL.q (Wn.no rfl) rfl rfl (R.buildA (vs := [(0, (vu8 2)), (1, (vu8 3)), (2, (vu8 1)), (3, (vu8 1))]) (cs := ([2, 3, 1, 1] : List UInt8).map vu8) Try.underlying100 Try.sizeOf5 (zv Try.typeInfo100 rfl) rfl rfl) ?_
        refine WL.call (al := [(.agg ⟨(pre 16 (shb tb (encN keys tb blk (q - 1))) (4 * c)).map vu8⟩), (.agg ⟨([2, 3, 1, 1] : List UInt8).map vu8⟩)]) Try.call85 rfl rfl (c_mixR (pre 16 (shb tb (encN keys tb blk (q - 1))) (4 * c)) ([2, 3, 1, 1] : List UInt8) (pre_len (by omega)) (rfl : List.length ([2, 3, 1, 1] : List UInt8) = 4) _ ) rfl ?_
        rintro _ w_49 ⟨rfl, hc_48⟩
        have h_50 := h_31.same hc_48
        refine WL.storeA (b := b_27) (off := 0) [] [(16, (pre 16 (shb tb (encN keys tb blk (q - 1))) (4 * c)).map vu8)] [(16, (mixL (pre 16 (shb tb (encN keys tb blk (q - 1))) (4 * c)) ([2, 3, 1, 1] : List UInt8)).map vu8)] [] (ys := (mixL (pre 16 (shb tb (encN keys tb blk (q - 1))) (4 * c)) ([2, 3, 1, 1] : List UInt8)).map vu8) h_50 rfl rfl Try.sizeOf66 At.h (by decide) rfl rfl rfl rfl rfl rfl (SsOk.cons (SOk.u8 (mixL_len ..)) SsOk.nil) (fun w_51 h_52 => ?_)
        refine WL.nil ?_
        refine thn_n ?_
        refine WP.drawZ 5 (SL w.heap.size [.blk b_27 .nw 66 [(16, (mixL (pre 16 (shb tb (encN keys tb blk (q - 1))) (4 * c)) ([2, 3, 1, 1] : List UInt8)).map vu8)], .blk b_16 .nw 66 [(16, (encN keys tb blk (q - 1)).map vu8)], .blk b_10 .nw 66 [(16, (List.replicate 16 (0 : UInt8)).map vu8)], .blk b_7 .nw 72 [(256, tb.map vu8)], .blk b_4 .nw 66 [(16, blk.map vu8)], .blk b_1 .nw 74 [(176, keys.map vu8)]]) (.q 0 (.q 1 (.q 2 (.q 3 (.s 4 (.s 5 .nil)))))) (by kernel_rfl) (by kernel_rfl) rfl (by kernel_rfl) (fun w_53 hc_55 => (SL.cons ((h_52.same hc_55).ok _ (.head _)) (SL.cons ((h_52.same hc_55).ok _ (.tail _ (.head _))) (SL.cons ((h_52.same hc_55).ok _ (.tail _ (.tail _ (.head _)))) (SL.cons ((h_52.same hc_55).ok _ (.tail _ (.tail _ (.tail _ (.head _))))) (SL.cons ((h_52.same hc_55).ok _ (.tail _ (.tail _ (.tail _ (.tail _ (.head _)))))) (SL.cons ((h_52.same hc_55).ok _ (.tail _ (.tail _ (.tail _ (.tail _ (.tail _ (.head _))))))) (SL.nil _ _)))))))) (fun w_53 hc_55 => ?_)
        have h_54 := h_52.same hc_55
        refine ZT.q rfl (Wn.no rfl) rfl rfl (fun wq hS => R.loadA (b := b_27) (off := 0) [] [(16, (mixL (pre 16 (shb tb (encN keys tb blk (q - 1))) (4 * c)) ([2, 3, 1, 1] : List UInt8)).map vu8)] [] (cs := (mixL (pre 16 (shb tb (encN keys tb blk (q - 1))) (4 * c)) ([2, 3, 1, 1] : List UInt8)).map vu8) rfl Try.isAgg66 Try.sizeOf66 (hS _ (.head _)) rfl rfl rfl rfl) ?_
        refine ZT.q rfl (Wn.no rfl) rfl rfl (fun wq hS => R.move (v := (vi ((q : Nat) : Int))) rfl) ?_
        refine ZT.q rfl (Wn.no rfl) rfl rfl (fun wq hS => R.indexA (b := b_1) (off := 0) (off' := (0 + (q * 16))) (i := q) rfl rfl rfl (by omega) Try.underlying74 Try.sizeOf66 rfl) ?_
        refine ZT.q rfl (Wn.no rfl) rfl rfl (fun wq hS => R.loadEA (b := b_1) (off := (0 + (q * 16))) (i := q * 16) (xs := ((keys.drop (q * 16)).take 16).map vu8) rfl Try.isAgg66 Try.sizeOf66 (hS _ (.tail _ (.tail _ (.tail _ (.tail _ (.tail _ (.head _))))))) Sg.h rfl (by rw [List.map_take, List.map_drop]) (len_map (subLen (K := 176) hks (by omega) : List.length ((keys.drop (q * 16)).take 16) = 16))) ?_
        refine ZT.s ?_
        refine OpZ.one rfl (Wn.no rfl) ?_
        refine WL.call (al := [(.agg ⟨(mixL (pre 16 (shb tb (encN keys tb blk (q - 1))) (4 * c)) ([2, 3, 1, 1] : List UInt8)).map vu8⟩), (.agg ⟨((keys.drop (q * 16)).take 16).map vu8⟩)]) Try.call84 rfl rfl (c_xorR (mixL (pre 16 (shb tb (encN keys tb blk (q - 1))) (4 * c)) ([2, 3, 1, 1] : List UInt8)) ((keys.drop (q * 16)).take 16) (mixL_len ..) (subLen (K := 176) hks (by omega) : List.length ((keys.drop (q * 16)).take 16) = 16) _ ) rfl ?_
        rintro _ w_57 ⟨rfl, hc_56⟩
        have h_58 := h_54.same hc_56
        refine WL.nil ?_
        refine ⟨(SL.cons (h_58.ok _ (.head _)) (SL.cons (h_58.ok _ (.tail _ (.head _))) (SL.cons (h_58.ok _ (.tail _ (.tail _ (.head _)))) (SL.cons (h_58.ok _ (.tail _ (.tail _ (.tail _ (.head _))))) (SL.cons (h_58.ok _ (.tail _ (.tail _ (.tail _ (.tail _ (.head _)))))) (SL.cons (h_58.ok _ (.tail _ (.tail _ (.tail _ (.tail _ (.tail _ (.head _))))))) (SL.nil _ _))))))), ?_⟩
        refine ZT.s ?_
        refine OpZ.last rfl (Wn.no rfl) ?_
        refine WL.storeA (b := b_16) (off := 0) [] [(16, (encN keys tb blk (q - 1)).map vu8)] [(16, (xorL (mixL (pre 16 (shb tb (encN keys tb blk (q - 1))) (4 * c)) ([2, 3, 1, 1] : List UInt8)) ((keys.drop (q * 16)).take 16)).map vu8)] [] (ys := (xorL (mixL (pre 16 (shb tb (encN keys tb blk (q - 1))) (4 * c)) ([2, 3, 1, 1] : List UInt8)) ((keys.drop (q * 16)).take 16)).map vu8) h_58 rfl rfl Try.sizeOf66 (At.t At.h) (by decide) rfl rfl rfl rfl rfl rfl (SsOk.cons (SOk.u8 (xorL_len (mixL_len ..) (subLen (K := 176) hks (by omega) : List.length ((keys.drop (q * 16)).take 16) = 16))) SsOk.nil) (fun w_59 h_60 => ?_)
        refine WL.nil ?_
        refine ZT.nil ?_
        refine inb_n ?_
        refine thn_n ?_
        refine WP.reg ?_
        refine WL.q (Wn.no rfl) rfl rfl (R.move (v := (vi ((q : Nat) : Int))) rfl) ?_
        refine WL.q (Wn.no rfl) rfl rfl (R.bin (v := (vi ((q + 1 : Nat) : Int))) rfl rfl (bi_add (c := ((q + 1 : Nat) : Int)) (by omega) (by omega))) ?_
        refine WL.q (Wn.no rfl) rfl rfl (R.assign (v := (vi ((q + 1 : Nat) : Int))) rfl) ?_
        refine WL.nil ?_
        refine thn_n ?_
        have hc4 : c = 4 := by omega
        subst hc4
        have h_61 := h_60.drop rfl
        obtain ⟨p, rfl⟩ : ∃ p, q = p + 1 := ⟨q - 1, by omega⟩
        have es : xorL (mixL (pre 16 (shb tb (encN keys tb blk ((p + 1) - 1))) (4 * 4)) ([2, 3, 1, 1] : List UInt8)) ((keys.drop ((p + 1) * 16)).take 16) = encN keys tb blk (p + 1) := by rw [Nat.add_sub_cancel, show 4 * 4 = 16 from rfl, pre_all, encN, if_pos (by omega)]; rfl
        rw [es] at h_61
        exact ⟨p + 1 + 1, _, (by omega), (Ag.upd rfl (Ag.upd rfl (Ag.upd rfl (Ag.upd rfl (Ag.upd rfl (Ag.upd rfl (Ag.upd rfl (Ag.upd rfl (Ag.upd rfl (Ag.upd rfl (Ag.upd rfl (Ag.upd rfl (Ag.upd rfl (Ag.upd rfl (Ag.upd rfl (Ag.updL rfl (Ag.trans (Ag.sub rfl (Ag.mix _ _ _)) (Ag.upd rfl (Ag.upd rfl (Ag.upd rfl (Ag.upd rfl (Ag.updL rfl (Ag.mix _ _ _))))))))))))))))))))))), ⟨rfl, trivial⟩, h_61, (by omega), (by omega), rfl⟩
      · have p_62 := of_decide_eq_false c_46
        refine WP.skip ?_
        refine thn_n ?_
        refine WP.drawZ 5 (SL w.heap.size [.blk b_27 .nw 66 [(16, (pre 16 (shb tb (encN keys tb blk (q - 1))) (4 * c)).map vu8)], .blk b_16 .nw 66 [(16, (encN keys tb blk (q - 1)).map vu8)], .blk b_10 .nw 66 [(16, (List.replicate 16 (0 : UInt8)).map vu8)], .blk b_7 .nw 72 [(256, tb.map vu8)], .blk b_4 .nw 66 [(16, blk.map vu8)], .blk b_1 .nw 74 [(176, keys.map vu8)]]) (.q 0 (.q 1 (.q 2 (.q 3 (.s 4 (.s 5 .nil)))))) (by kernel_rfl) (by kernel_rfl) rfl (by kernel_rfl) (fun w_63 hc_65 => (SL.cons ((h_31.same hc_65).ok _ (.head _)) (SL.cons ((h_31.same hc_65).ok _ (.tail _ (.head _))) (SL.cons ((h_31.same hc_65).ok _ (.tail _ (.tail _ (.head _)))) (SL.cons ((h_31.same hc_65).ok _ (.tail _ (.tail _ (.tail _ (.head _))))) (SL.cons ((h_31.same hc_65).ok _ (.tail _ (.tail _ (.tail _ (.tail _ (.head _)))))) (SL.cons ((h_31.same hc_65).ok _ (.tail _ (.tail _ (.tail _ (.tail _ (.tail _ (.head _))))))) (SL.nil _ _)))))))) (fun w_63 hc_65 => ?_)
        have h_64 := h_31.same hc_65
        refine ZT.q rfl (Wn.no rfl) rfl rfl (fun wq hS => R.loadA (b := b_27) (off := 0) [] [(16, (pre 16 (shb tb (encN keys tb blk (q - 1))) (4 * c)).map vu8)] [] (cs := (pre 16 (shb tb (encN keys tb blk (q - 1))) (4 * c)).map vu8) rfl Try.isAgg66 Try.sizeOf66 (hS _ (.head _)) rfl rfl rfl rfl) ?_
        refine ZT.q rfl (Wn.no rfl) rfl rfl (fun wq hS => R.move (v := (vi ((q : Nat) : Int))) rfl) ?_
        refine ZT.q rfl (Wn.no rfl) rfl rfl (fun wq hS => R.indexA (b := b_1) (off := 0) (off' := (0 + (q * 16))) (i := q) rfl rfl rfl (by omega) Try.underlying74 Try.sizeOf66 rfl) ?_
        refine ZT.q rfl (Wn.no rfl) rfl rfl (fun wq hS => R.loadEA (b := b_1) (off := (0 + (q * 16))) (i := q * 16) (xs := ((keys.drop (q * 16)).take 16).map vu8) rfl Try.isAgg66 Try.sizeOf66 (hS _ (.tail _ (.tail _ (.tail _ (.tail _ (.tail _ (.head _))))))) Sg.h rfl (by rw [List.map_take, List.map_drop]) (len_map (subLen (K := 176) hks (by omega) : List.length ((keys.drop (q * 16)).take 16) = 16))) ?_
        refine ZT.s ?_
        refine OpZ.one rfl (Wn.no rfl) ?_
        refine WL.call (al := [(.agg ⟨(pre 16 (shb tb (encN keys tb blk (q - 1))) (4 * c)).map vu8⟩), (.agg ⟨((keys.drop (q * 16)).take 16).map vu8⟩)]) Try.call84 rfl rfl (c_xorR (pre 16 (shb tb (encN keys tb blk (q - 1))) (4 * c)) ((keys.drop (q * 16)).take 16) (pre_len (by omega)) (subLen (K := 176) hks (by omega) : List.length ((keys.drop (q * 16)).take 16) = 16) _ ) rfl ?_
        rintro _ w_67 ⟨rfl, hc_66⟩
        have h_68 := h_64.same hc_66
        refine WL.nil ?_
        refine ⟨(SL.cons (h_68.ok _ (.head _)) (SL.cons (h_68.ok _ (.tail _ (.head _))) (SL.cons (h_68.ok _ (.tail _ (.tail _ (.head _)))) (SL.cons (h_68.ok _ (.tail _ (.tail _ (.tail _ (.head _))))) (SL.cons (h_68.ok _ (.tail _ (.tail _ (.tail _ (.tail _ (.head _)))))) (SL.cons (h_68.ok _ (.tail _ (.tail _ (.tail _ (.tail _ (.tail _ (.head _))))))) (SL.nil _ _))))))), ?_⟩
        refine ZT.s ?_
        refine OpZ.last rfl (Wn.no rfl) ?_
        refine WL.storeA (b := b_16) (off := 0) [] [(16, (encN keys tb blk (q - 1)).map vu8)] [(16, (xorL (pre 16 (shb tb (encN keys tb blk (q - 1))) (4 * c)) ((keys.drop (q * 16)).take 16)).map vu8)] [] (ys := (xorL (pre 16 (shb tb (encN keys tb blk (q - 1))) (4 * c)) ((keys.drop (q * 16)).take 16)).map vu8) h_68 rfl rfl Try.sizeOf66 (At.t At.h) (by decide) rfl rfl rfl rfl rfl rfl (SsOk.cons (SOk.u8 (xorL_len (pre_len (by omega)) (subLen (K := 176) hks (by omega) : List.length ((keys.drop (q * 16)).take 16) = 16))) SsOk.nil) (fun w_69 h_70 => ?_)
        refine WL.nil ?_
        refine ZT.nil ?_
        refine inb_n ?_
        refine thn_n ?_
        refine WP.reg ?_
        refine WL.q (Wn.no rfl) rfl rfl (R.move (v := (vi ((q : Nat) : Int))) rfl) ?_
        refine WL.q (Wn.no rfl) rfl rfl (R.bin (v := (vi ((q + 1 : Nat) : Int))) rfl rfl (bi_add (c := ((q + 1 : Nat) : Int)) (by omega) (by omega))) ?_
        refine WL.q (Wn.no rfl) rfl rfl (R.assign (v := (vi ((q + 1 : Nat) : Int))) rfl) ?_
        refine WL.nil ?_
        refine thn_n ?_
        have hc4 : c = 4 := by omega
        subst hc4
        have h_71 := h_70.drop rfl
        obtain ⟨p, rfl⟩ : ∃ p, q = p + 1 := ⟨q - 1, by omega⟩
        have es : xorL (pre 16 (shb tb (encN keys tb blk ((p + 1) - 1))) (4 * 4)) ((keys.drop ((p + 1) * 16)).take 16) = encN keys tb blk (p + 1) := by rw [Nat.add_sub_cancel, show 4 * 4 = 16 from rfl, pre_all, encN, if_neg (by omega)]; rfl
        rw [es] at h_71
        exact ⟨p + 1 + 1, _, (by omega), (Ag.upd rfl (Ag.upd rfl (Ag.upd rfl (Ag.upd rfl (Ag.upd rfl (Ag.upd rfl (Ag.upd rfl (Ag.upd rfl (Ag.upd rfl (Ag.upd rfl (Ag.upd rfl (Ag.upd rfl (Ag.updL rfl (Ag.trans (Ag.sub rfl (Ag.mix _ _ _)) (Ag.upd rfl (Ag.upd rfl (Ag.upd rfl (Ag.upd rfl (Ag.updL rfl (Ag.mix _ _ _)))))))))))))))))))), ⟨rfl, trivial⟩, h_71, (by omega), (by omega), rfl⟩
  · have p_72 := of_decide_eq_false c_25
    refine WP.exit ?_
    refine thn_x ?_
    refine thn_x ?_
    refine inb_hit ?_
    refine thn_n ?_
    refine WP.seq ?_
    refine WP.reg ?_
    refine WL.q (Wn.no rfl) rfl rfl (R.loadA (b := b_16) (off := 0) [] [(16, (encN keys tb blk (q - 1)).map vu8)] [] (cs := (encN keys tb blk (q - 1)).map vu8) rfl Try.isAgg66 Try.sizeOf66 (h_22.ok _ (.head _)) rfl rfl rfl rfl) ?_
    refine WL.storeA (b := b_10) (off := 0) [] [(16, (List.replicate 16 (0 : UInt8)).map vu8)] [(16, (encN keys tb blk (q - 1)).map vu8)] [] (ys := (encN keys tb blk (q - 1)).map vu8) h_22 rfl rfl Try.sizeOf66 (At.t At.h) (by decide) rfl rfl rfl rfl rfl rfl (SsOk.cons (SOk.u8 (encN_len hks hbl (by omega))) SsOk.nil) (fun w_73 h_74 => ?_)
    refine WL.nil ?_
    refine thn_n ?_
    refine WP.ret ?_
    refine ret_of Try.results61 (RV.cell rfl (h_74.loadA (cs := (encN keys tb blk (q - 1)).map vu8) Try.isAgg66 Try.sizeOf66 (.tail _ (.head _)) rfl rfl) RV.nil) ?_
    have hq11 : q = 11 := by omega
    subst hq11
    exact ⟨rfl, h_74.chgS⟩

theorem c_Decipher (key blk : List UInt8) (hkey : key.length = 16) (hbl : blk.length = 16) (w : World) :
    Cs Try.prog 62 [(.agg ⟨key.map vu8⟩), (.agg ⟨blk.map vu8⟩)].toArray w (fun v w1 => v = (.agg ⟨(dec (keysL (tabL sub) key) (tabL unsub) blk).map vu8⟩) ∧ Chg w w1 []) := by
  refine Cs.of (n := 49) (args := [(.agg ⟨key.map vu8⟩), (.agg ⟨blk.map vu8⟩)]) Try.func62 rfl rfl rfl ?_
  have h_0 := HP.init w
  refine WP.seq ?_
  refine WP.reg ?_
  refine WL.box (v := (.agg ⟨key.map vu8⟩)) (segs := [(16, key.map vu8)]) h_0 rfl rfl (SsOk.cons (SOk.u8 hkey) SsOk.nil) rfl (fun b_1 w_2 h_3 => ?_)
  refine WL.box (v := (.agg ⟨blk.map vu8⟩)) (segs := [(16, blk.map vu8)]) h_3 rfl rfl (SsOk.cons (SOk.u8 hbl) SsOk.nil) rfl (fun b_4 w_5 h_6 => ?_)
  refine WL.alloc (segs := [(16, (List.replicate 16 (0 : UInt8)).map vu8)]) h_6 (zv Try.typeInfo66 rfl) rfl (SsOk.cons (SOk.u8 (List.length_replicate ..)) SsOk.nil) rfl (fun b_7 w_8 h_9 => ?_)
  refine WL.nil ?_
  refine thn_n ?_
  refine WP.seq ?_
  refine WP.reg ?_
  refine WL.q (Wn.no rfl) rfl rfl (R.loadA (b := b_1) (off := 0) [] [(16, key.map vu8)] [] (cs := key.map vu8) rfl Try.isAgg66 Try.sizeOf66 (h_9.ok _ (.tail _ (.tail _ (.head _)))) rfl rfl rfl rfl) ?_
  refine WL.call (al := [(.agg ⟨key.map vu8⟩)]) Try.call59 rfl rfl (c_Expand key hkey _ ) rfl ?_
  rintro _ w_11 ⟨rfl, hc_10⟩
  have h_12 := h_9.same hc_10
  refine WL.call (al := [(.func (.func 41) [].toArray [].toArray)]) Try.call83 rfl rfl (c_tableUnsub  _ ) rfl ?_
  rintro _ w_14 ⟨rfl, hc_13⟩
  have h_15 := h_12.same hc_13
  refine WL.alloc (segs := [(176, (List.replicate 176 (0 : UInt8)).map vu8)]) h_15 (zv Try.typeInfo74 rfl) rfl (SsOk.cons (SOk.u8 (List.length_replicate ..)) SsOk.nil) rfl (fun b_16 w_17 h_18 => ?_)
  refine WL.alloc (segs := [(256, (List.replicate 256 (0 : UInt8)).map vu8)]) h_18 (zv Try.typeInfo72 rfl) rfl (SsOk.cons (SOk.u8 (List.length_replicate ..)) SsOk.nil) rfl (fun b_19 w_20 h_21 => ?_)
  refine WL.storeA (b := b_16) (off := 0) [] [(176, (List.replicate 176 (0 : UInt8)).map vu8)] [(176, (keysL (tabL sub) key).map vu8)] [] (ys := (keysL (tabL sub) key).map vu8) h_21 rfl rfl Try.sizeOf74 (At.t At.h) (by decide) rfl rfl rfl rfl rfl rfl (SsOk.cons (SOk.u8 (keysL_len ..)) SsOk.nil) (fun w_22 h_23 => ?_)
  refine WL.storeA (b := b_19) (off := 0) [] [(256, (List.replicate 256 (0 : UInt8)).map vu8)] [(256, (tabL unsub).map vu8)] [] (ys := (tabL unsub).map vu8) h_23 rfl rfl Try.sizeOf72 At.h (by decide) rfl rfl rfl rfl rfl rfl (SsOk.cons (SOk.u8 (tabL_len unsub)) SsOk.nil) (fun w_24 h_25 => ?_)
  refine WL.nil ?_
  refine thn_n ?_
  refine WP.seq ?_
  refine WP.reg ?_
  refine WL.q (Wn.no rfl) rfl rfl (R.loadA (b := b_4) (off := 0) [] [(16, blk.map vu8)] [] (cs := blk.map vu8) rfl Try.isAgg66 Try.sizeOf66 (h_25.ok _ (.tail _ (.tail _ (.tail _ (.head _))))) rfl rfl rfl rfl) ?_
  refine WL.alloc (segs := [(16, (List.replicate 16 (0 : UInt8)).map vu8)]) h_25 (zv Try.typeInfo66 rfl) rfl (SsOk.cons (SOk.u8 (List.length_replicate ..)) SsOk.nil) rfl (fun b_26 w_27 h_28 => ?_)
  refine WL.storeA (b := b_26) (off := 0) [] [(16, (List.replicate 16 (0 : UInt8)).map vu8)] [(16, blk.map vu8)] [] (ys := blk.map vu8) h_28 rfl rfl Try.sizeOf66 At.h (by decide) rfl rfl rfl rfl rfl rfl (SsOk.cons (SOk.u8 hbl) SsOk.nil) (fun w_29 h_30 => ?_)
  refine WL.nil ?_
  refine thn_n ?_
  refine WP.seq ?_
  refine WP.seq ?_
  refine WP.reg ?_
  refine WL.q (Wn.no rfl) rfl rfl (R.assign (v := (vi 10)) rfl) ?_
  refine WL.nil ?_
  refine thn_n ?_
  refine WP.block ?_
  refine WP.loopG (G := Nat) [8, 9, 10, 15, 16, 17, 18, 19, 20, 21, 22, 23, 24, 25, 26, 27, 28, 29, 30, 31, 32, 33, 34, 35, 36, 37, 38, 39, 40, 41, 42, 43, 44] (fun j => [(8, (vi ((10 - j : Nat) : Int)))]) (fun j m w1 => HP w w1 [.blk b_26 .nw 66 [(16, (decN (keysL (tabL sub) key) (tabL unsub) blk j).map vu8)], .blk b_19 .nw 72 [(256, (tabL unsub).map vu8)], .blk b_16 .nw 74 [(176, (keysL (tabL sub) key).map vu8)], .blk b_7 .nw 66 [(16, (List.replicate 16 (0 : UInt8)).map vu8)], .blk b_4 .nw 66 [(16, blk.map vu8)], .blk b_1 .nw 66 [(16, key.map vu8)]] ∧ (j ≤ 10) ∧ m = 10 - j) ⟨0, _, ⟨rfl, trivial⟩, h_30, (by omega), rfl⟩ ?_
  rintro j m_33 J_34 w_31 ⟨h_32, hj, rfl⟩
  refine WP.seq ?_
  refine WP.seq ?_
  refine WP.reg ?_
  refine WL.q (Wn.no rfl) rfl rfl (R.move (v := (vi ((10 - j : Nat) : Int))) rfl) ?_
  refine WL.q (Wn.no rfl) rfl rfl (R.bin (v := (.bool (decide ((((10 - j : Nat) : Int) : Int) > 0)))) rfl rfl (bi_gtr (r := decide ((((10 - j : Nat) : Int) : Int) > 0)) rfl)) ?_
  refine WL.nil ?_
  refine thn_n ?_
  refine WP.cond (b := decide ((((10 - j : Nat) : Int) : Int) > 0)) rfl (fun c_35 => ?_) (fun c_35 => ?_)
  · have p_36 := of_decide_eq_true c_35
    refine WP.skip ?_
    refine thn_n ?_
    refine WP.seq ?_
    refine WP.block ?_
    refine WP.seq ?_
    refine WP.cutG (G := Nat) [9, 19, 20, 21, 22, 23] (fun bY6Y5Y0Y0 => [(19, (.agg ⟨(decN (keysL (tabL sub) key) (tabL unsub) blk j).map vu8⟩)), (20, (vi ((10 - j : Nat) : Int))), (21, (.pointer (some ⟨b_16, (0 + ((10 - j) * 16)), none⟩))), (22, (.agg ⟨(((keysL (tabL sub) key).drop ((10 - j) * 16)).take 16).map vu8⟩)), (23, (.agg ⟨(xorL (decN (keysL (tabL sub) key) (tabL unsub) blk j) (((keysL (tabL sub) key).drop ((10 - j) * 16)).take 16)).map vu8⟩)), (9, (.pointer (some ⟨bY6Y5Y0Y0, 0, none⟩)))]) (fun bY6Y5Y0Y0 w1 => HP w w1 [.blk bY6Y5Y0Y0 .nw 66 [(16, (xorL (decN (keysL (tabL sub) key) (tabL unsub) blk j) (((keysL (tabL sub) key).drop ((10 - j) * 16)).take 16)).map vu8)], .blk b_26 .nw 66 [(16, (decN (keysL (tabL sub) key) (tabL unsub) blk j).map vu8)], .blk b_19 .nw 72 [(256, (tabL unsub).map vu8)], .blk b_16 .nw 74 [(176, (keysL (tabL sub) key).map vu8)], .blk b_7 .nw 66 [(16, (List.replicate 16 (0 : UInt8)).map vu8)], .blk b_4 .nw 66 [(16, blk.map vu8)], .blk b_1 .nw 66 [(16, key.map vu8)]]) ?_ ?_
    · refine WP.drawZ 6 (SL w.heap.size [.blk b_26 .nw 66 [(16, (decN (keysL (tabL sub) key) (tabL unsub) blk j).map vu8)], .blk b_19 .nw 72 [(256, (tabL unsub).map vu8)], .blk b_16 .nw 74 [(176, (keysL (tabL sub) key).map vu8)], .blk b_7 .nw 66 [(16, (List.replicate 16 (0 : UInt8)).map vu8)], .blk b_4 .nw 66 [(16, blk.map vu8)], .blk b_1 .nw 66 [(16, key.map vu8)]]) (.q 0 (.q 1 (.q 2 (.q 3 (.s2 4 5 (.s 5 (.s 6 .nil)) (.s 4 (.s 6 .nil))))))) (by kernel_rfl) (by kernel_rfl) rfl (by kernel_rfl) (fun w_37 hc_39 => (SL.cons ((h_32.same hc_39).ok _ (.head _)) (SL.cons ((h_32.same hc_39).ok _ (.tail _ (.head _))) (SL.cons ((h_32.same hc_39).ok _ (.tail _ (.tail _ (.head _)))) (SL.cons ((h_32.same hc_39).ok _ (.tail _ (.tail _ (.tail _ (.head _))))) (SL.cons ((h_32.same hc_39).ok _ (.tail _ (.tail _ (.tail _ (.tail _ (.head _)))))) (SL.cons ((h_32.same hc_39).ok _ (.tail _ (.tail _ (.tail _ (.tail _ (.tail _ (.head _))))))) (SL.nil _ _)))))))) (fun w_37 hc_39 => ?_)
      have h_38 := h_32.same hc_39
      refine ZT.q rfl (Wn.no rfl) rfl rfl (fun wq hS => R.loadA (b := b_26) (off := 0) [] [(16, (decN (keysL (tabL sub) key) (tabL unsub) blk j).map vu8)] [] (cs := (decN (keysL (tabL sub) key) (tabL unsub) blk j).map vu8) rfl Try.isAgg66 Try.sizeOf66 (hS _ (.head _)) rfl rfl rfl rfl) ?_
      refine ZT.q rfl (Wn.no rfl) rfl rfl (fun wq hS => R.move (v := (vi ((10 - j : Nat) : Int))) rfl) ?_
      refine ZT.q rfl (Wn.no rfl) rfl rfl (fun wq hS => R.indexA (b := b_16) (off := 0) (off' := (0 + ((10 - j) * 16))) (i := 10 - j) rfl rfl rfl (by omega) Try.underlying74 Try.sizeOf66 rfl) ?_
      refine ZT.q rfl (Wn.no rfl) rfl rfl (fun wq hS => R.loadEA (b := b_16) (off := (0 + ((10 - j) * 16))) (i := (10 - j) * 16) (xs := (((keysL (tabL sub) key).drop ((10 - j) * 16)).take 16).map vu8) rfl Try.isAgg66 Try.sizeOf66 (hS _ (.tail _ (.tail _ (.head _)))) Sg.h rfl (by rw [List.map_take, List.map_drop]) (len_map (subLen (K := 176) (keysL_len ..) (by omega) : List.length (((keysL (tabL sub) key).drop ((10 - j) * 16)).take 16) = 16))) ?_
      refine ZT.s2 ?_ ?_
      · refine OpZ.one rfl (Wn.no rfl) ?_
        refine WL.call (al := [(.agg ⟨(decN (keysL (tabL sub) key) (tabL unsub) blk j).map vu8⟩), (.agg ⟨(((keysL (tabL sub) key).drop ((10 - j) * 16)).take 16).map vu8⟩)]) Try.call86 rfl rfl (c_with (decN (keysL (tabL sub) key) (tabL unsub) blk j) (((keysL (tabL sub) key).drop ((10 - j) * 16)).take 16) (decN_len hbl _) (subLen (K := 176) (keysL_len ..) (by omega) : List.length (((keysL (tabL sub) key).drop ((10 - j) * 16)).take 16) = 16) _ ) rfl ?_
        rintro _ w_41 ⟨rfl, hc_40⟩
        have h_42 := h_38.same hc_40
        refine WL.nil ?_
        refine ⟨(SL.cons (h_42.ok _ (.head _)) (SL.cons (h_42.ok _ (.tail _ (.head _))) (SL.cons (h_42.ok _ (.tail _ (.tail _ (.head _)))) (SL.cons (h_42.ok _ (.tail _ (.tail _ (.tail _ (.head _))))) (SL.cons (h_42.ok _ (.tail _ (.tail _ (.tail _ (.tail _ (.head _)))))) (SL.cons (h_42.ok _ (.tail _ (.tail _ (.tail _ (.tail _ (.tail _ (.head _))))))) (SL.nil _ _))))))), ?_⟩
        refine ZT.s ?_
        refine OpZ.one rfl (Wn.no rfl) ?_
        refine WL.alloc (segs := [(16, (List.replicate 16 (0 : UInt8)).map vu8)]) h_42 (zv Try.typeInfo66 rfl) rfl (SsOk.cons (SOk.u8 (List.length_replicate ..)) SsOk.nil) rfl (fun b_43 w_44 h_45 => ?_)
        refine WL.nil ?_
        refine ⟨(SL.cons (h_45.ok _ (.tail _ (.head _))) (SL.cons (h_45.ok _ (.tail _ (.tail _ (.head _)))) (SL.cons (h_45.ok _ (.tail _ (.tail _ (.tail _ (.head _))))) (SL.cons (h_45.ok _ (.tail _ (.tail _ (.tail _ (.tail _ (.head _)))))) (SL.cons (h_45.ok _ (.tail _ (.tail _ (.tail _ (.tail _ (.tail _ (.head _))))))) (SL.cons (h_45.ok _ (.tail _ (.tail _ (.tail _ (.tail _ (.tail _ (.tail _ (.head _)))))))) (SL.nil _ _))))))), ?_⟩
        refine ZT.s ?_
        refine OpZ.last rfl (Wn.no rfl) ?_
        refine WL.storeA (b := b_43) (off := 0) [] [(16, (List.replicate 16 (0 : UInt8)).map vu8)] [(16, (xorL (decN (keysL (tabL sub) key) (tabL unsub) blk j) (((keysL (tabL sub) key).drop ((10 - j) * 16)).take 16)).map vu8)] [] (ys := (xorL (decN (keysL (tabL sub) key) (tabL unsub) blk j) (((keysL (tabL sub) key).drop ((10 - j) * 16)).take 16)).map vu8) h_45 rfl rfl Try.sizeOf66 At.h (by decide) rfl rfl rfl rfl rfl rfl (SsOk.cons (SOk.u8 (xorL_len (decN_len hbl _) (subLen (K := 176) (keysL_len ..) (by omega) : List.length (((keysL (tabL sub) key).drop ((10 - j) * 16)).take 16) = 16))) SsOk.nil) (fun w_46 h_47 => ?_)
        refine WL.nil ?_
        refine ZT.nil ?_
        refine thn_n ?_
        exact ⟨b_43, (Ag.upd rfl (Ag.upd rfl (Ag.upd rfl (Ag.upd rfl (Ag.upd rfl (Ag.upd rfl (Ag.refl _ _))))))), ⟨rfl, rfl, rfl, rfl, rfl, rfl, trivial⟩, h_47⟩
      · refine OpZ.one rfl (Wn.no rfl) ?_
        refine WL.alloc (segs := [(16, (List.replicate 16 (0 : UInt8)).map vu8)]) h_38 (zv Try.typeInfo66 rfl) rfl (SsOk.cons (SOk.u8 (List.length_replicate ..)) SsOk.nil) rfl (fun b_48 w_49 h_50 => ?_)
        refine WL.nil ?_
        refine ⟨(SL.cons (h_50.ok _ (.tail _ (.head _))) (SL.cons (h_50.ok _ (.tail _ (.tail _ (.head _)))) (SL.cons (h_50.ok _ (.tail _ (.tail _ (.tail _ (.head _))))) (SL.cons (h_50.ok _ (.tail _ (.tail _ (.tail _ (.tail _ (.head _)))))) (SL.cons (h_50.ok _ (.tail _ (.tail _ (.tail _ (.tail _ (.tail _ (.head _))))))) (SL.cons (h_50.ok _ (.tail _ (.tail _ (.tail _ (.tail _ (.tail _ (.tail _ (.head _)))))))) (SL.nil _ _))))))), ?_⟩
        refine ZT.s ?_
        refine OpZ.one rfl (Wn.no rfl) ?_
        refine WL.call (al := [(.agg ⟨(decN (keysL (tabL sub) key) (tabL unsub) blk j).map vu8⟩), (.agg ⟨(((keysL (tabL sub) key).drop ((10 - j) * 16)).take 16).map vu8⟩)]) Try.call86 rfl rfl (c_with (decN (keysL (tabL sub) key) (tabL unsub) blk j) (((keysL (tabL sub) key).drop ((10 - j) * 16)).take 16) (decN_len hbl _) (subLen (K := 176) (keysL_len ..) (by omega) : List.length (((keysL (tabL sub) key).drop ((10 - j) * 16)).take 16) = 16) _ ) rfl ?_
        rintro _ w_52 ⟨rfl, hc_51⟩
        have h_53 := h_50.same hc_51
        refine WL.nil ?_
        refine ⟨(SL.cons (h_53.ok _ (.tail _ (.head _))) (SL.cons (h_53.ok _ (.tail _ (.tail _ (.head _)))) (SL.cons (h_53.ok _ (.tail _ (.tail _ (.tail _ (.head _))))) (SL.cons (h_53.ok _ (.tail _ (.tail _ (.tail _ (.tail _ (.head _)))))) (SL.cons (h_53.ok _ (.tail _ (.tail _ (.tail _ (.tail _ (.tail _ (.head _))))))) (SL.cons (h_53.ok _ (.tail _ (.tail _ (.tail _ (.tail _ (.tail _ (.tail _ (.head _)))))))) (SL.nil _ _))))))), ?_⟩
        refine ZT.s ?_
        refine OpZ.last rfl (Wn.no rfl) ?_
        refine WL.storeA (b := b_48) (off := 0) [] [(16, (List.replicate 16 (0 : UInt8)).map vu8)] [(16, (xorL (decN (keysL (tabL sub) key) (tabL unsub) blk j) (((keysL (tabL sub) key).drop ((10 - j) * 16)).take 16)).map vu8)] [] (ys := (xorL (decN (keysL (tabL sub) key) (tabL unsub) blk j) (((keysL (tabL sub) key).drop ((10 - j) * 16)).take 16)).map vu8) h_53 rfl rfl Try.sizeOf66 At.h (by decide) rfl rfl rfl rfl rfl rfl (SsOk.cons (SOk.u8 (xorL_len (decN_len hbl _) (subLen (K := 176) (keysL_len ..) (by omega) : List.length (((keysL (tabL sub) key).drop ((10 - j) * 16)).take 16) = 16))) SsOk.nil) (fun w_54 h_55 => ?_)
        refine WL.nil ?_
        refine ZT.nil ?_
        refine thn_n ?_
        exact ⟨b_48, (Ag.upd rfl (Ag.upd rfl (Ag.upd rfl (Ag.upd rfl (Ag.upd rfl (Ag.upd rfl (Ag.refl _ _))))))), ⟨rfl, rfl, rfl, rfl, rfl, rfl, trivial⟩, h_55⟩
    · rintro b_59 J_56 w_57 h_58
      refine thn_n ?_
      refine WP.seq ?_
      refine WP.seq ?_
      refine WP.reg ?_
      refine WL.q (Wn.no rfl) rfl rfl (R.move (v := (vi ((10 - j : Nat) : Int))) rfl) ?_
      refine WL.q (Wn.no rfl) rfl rfl (R.bin (v := (.bool (decide ((((10 - j : Nat) : Int) : Int) < 10)))) rfl rfl (bi_lss (r := decide ((((10 - j : Nat) : Int) : Int) < 10)) rfl)) ?_
      refine WL.nil ?_
      refine thn_n ?_
      refine WP.cond (b := decide ((((10 - j : Nat) : Int) : Int) < 10)) rfl (fun c_60 => ?_) (fun c_60 => ?_)
      · have p_61 := of_decide_eq_true c_60
        refine WP.reg ?_
        refine WL.q (Wn.no rfl) rfl rfl (R.loadA (b := b_59) (off := 0) [] [(16, (xorL (decN (keysL (tabL sub) key) (tabL unsub) blk j) (((keysL (tabL sub) key).drop ((10 - j) * 16)).take 16)).map vu8)] [] (cs := (xorL (decN (keysL (tabL sub) key) (tabL unsub) blk j) (((keysL (tabL sub) key).drop ((10 - j) * 16)).take 16)).map vu8) rfl Try.isAgg66 Try.sizeOf66 (h_58.ok _ (.head _)) rfl rfl rfl rfl) ?_
        refine WL.q (Wn.no rfl) rfl rfl (R.buildA (vs := [(0, (vu8 14)), (1, (vu8 11)), (2, (vu8 13)), (3, (vu8 9))]) (cs := ([14, 11, 13, 9] : List UInt8).map vu8) Try.underlying100 Try.sizeOf5 (zv Try.typeInfo100 rfl) rfl rfl) ?_
        refine WL.call (al := [(.agg ⟨(xorL (decN (keysL (tabL sub) key) (tabL unsub) blk j) (((keysL (tabL sub) key).drop ((10 - j) * 16)).take 16)).map vu8⟩), (.agg ⟨([14, 11, 13, 9] : List UInt8).map vu8⟩)]) Try.call87 rfl rfl (c_mix (xorL (decN (keysL (tabL sub) key) (tabL unsub) blk j) (((keysL (tabL sub) key).drop ((10 - j) * 16)).take 16)) ([14, 11, 13, 9] : List UInt8) (xorL_len (decN_len hbl _) (subLen (K := 176) (keysL_len ..) (by omega) : List.length (((keysL (tabL sub) key).drop ((10 - j) * 16)).take 16) = 16)) (rfl : List.length ([14, 11, 13, 9] : List UInt8) = 4) _ ) rfl ?_
        rintro _ w_63 ⟨rfl, hc_62⟩
        have h_64 := h_58.same hc_62
        refine WL.storeA (b := b_59) (off := 0) [] [(16, (xorL (decN (keysL (tabL sub) key) (tabL unsub) blk j) (((keysL (tabL sub) key).drop ((10 - j) * 16)).take 16)).map vu8)] [(16, (mixL (xorL (decN (keysL (tabL sub) key) (tabL unsub) blk j) (((keysL (tabL sub) key).drop ((10 - j) * 16)).take 16)) ([14, 11, 13, 9] : List UInt8)).map vu8)] [] (ys := (mixL (xorL (decN (keysL (tabL sub) key) (tabL unsub) blk j) (((keysL (tabL sub) key).drop ((10 - j) * 16)).take 16)) ([14, 11, 13, 9] : List UInt8)).map vu8) h_64 rfl rfl Try.sizeOf66 At.h (by decide) rfl rfl rfl rfl rfl rfl (SsOk.cons (SOk.u8 (mixL_len ..)) SsOk.nil) (fun w_65 h_66 => ?_)
        refine WL.nil ?_
        refine thn_n ?_
        refine WP.seq ?_
        refine WP.reg ?_
        refine WL.q (Wn.no rfl) rfl rfl (R.move (v := (vi 0)) rfl) ?_
        refine WL.nil ?_
        refine thn_n ?_
        refine WP.block ?_
        refine WP.loopG (G := Nat) [10, 29, 30, 31, 32, 33, 34, 35, 36, 37, 38, 39, 40, 41, 42, 43, 44] (fun i => [(29, (vi ((i : Nat) : Int)))]) (fun i m w1 => HP w w1 [.blk b_59 .nw 66 [(16, (mixL (xorL (decN (keysL (tabL sub) key) (tabL unsub) blk j) (((keysL (tabL sub) key).drop ((10 - j) * 16)).take 16)) ([14, 11, 13, 9] : List UInt8)).map vu8)], .blk b_26 .nw 66 [(16, (unsN (tabL unsub) (mixL (xorL (decN (keysL (tabL sub) key) (tabL unsub) blk j) (((keysL (tabL sub) key).drop ((10 - j) * 16)).take 16)) ([14, 11, 13, 9] : List UInt8)) (decN (keysL (tabL sub) key) (tabL unsub) blk j) i).map vu8)], .blk b_19 .nw 72 [(256, (tabL unsub).map vu8)], .blk b_16 .nw 74 [(176, (keysL (tabL sub) key).map vu8)], .blk b_7 .nw 66 [(16, (List.replicate 16 (0 : UInt8)).map vu8)], .blk b_4 .nw 66 [(16, blk.map vu8)], .blk b_1 .nw 66 [(16, key.map vu8)]] ∧ (i ≤ 16) ∧ m = 16 - i) ⟨0, _, ⟨rfl, trivial⟩, h_66, (by omega), rfl⟩ ?_
        rintro i m_69 J_70 w_67 ⟨h_68, hi, rfl⟩
        refine WP.seq ?_
        refine WP.reg ?_
        refine WL.q (Wn.no rfl) rfl rfl (R.bin (v := (.bool (decide ((((i : Nat) : Int) : Int) < 16)))) rfl rfl (bi_lss (r := decide ((((i : Nat) : Int) : Int) < 16)) rfl)) ?_
        refine WL.nil ?_
        refine thn_n ?_
        refine WP.seq ?_
        refine WP.cond (b := decide ((((i : Nat) : Int) : Int) < 16)) rfl (fun c_71 => ?_) (fun c_71 => ?_)
        · have p_72 := of_decide_eq_true c_71
          refine WP.skip ?_
          refine thn_n ?_
          refine WP.seq ?_
          refine WP.block ?_
          refine WP.seq ?_
          refine WP.reg ?_
          refine WL.q (Wn.no rfl) rfl rfl (R.move (v := (vi ((i : Nat) : Int))) rfl) ?_
          refine WL.q (Wn.no rfl) rfl rfl (R.assign (v := (vi ((i : Nat) : Int))) rfl) ?_
          refine WL.nil ?_
          refine thn_n ?_
          refine WP.reg ?_
          refine WL.q (Wn.no rfl) rfl rfl (R.move (v := (vi ((i : Nat) : Int))) rfl) ?_
          refine WL.q (Wn.no rfl) rfl rfl (R.move (v := (vi ((i : Nat) : Int))) rfl) ?_
          refine WL.q (Wn.no rfl) rfl rfl (R.bin (v := (vi ((i % 4 : Nat) : Int))) rfl rfl (bi_rem (c := ((i % 4 : Nat) : Int)) (Int.natCast_nonneg _) (by omega) (by first | omega | rfl))) ?_
          refine WL.q (Wn.no rfl) rfl rfl (R.bin (v := (vi (((i % 4) * 4 : Nat) : Int))) rfl rfl (bi_mul (c := (((i % 4) * 4 : Nat) : Int)) (by omega) (by omega))) ?_
          refine WL.q (Wn.no rfl) rfl rfl (R.bin (v := (vi ((i + ((i % 4) * 4) : Nat) : Int))) rfl rfl (bi_add (c := ((i + ((i % 4) * 4) : Nat) : Int)) (by omega) (by omega))) ?_
          refine WL.q (Wn.no rfl) rfl rfl (R.bin (v := (vi (((i + ((i % 4) * 4)) % 16 : Nat) : Int))) rfl rfl (bi_rem (c := (((i + ((i % 4) * 4)) % 16 : Nat) : Int)) (Int.natCast_nonneg _) (by omega) (by first | omega | rfl))) ?_
          refine WL.q (Wn.no rfl) rfl rfl (R.move (v := (vi ((i : Nat) : Int))) rfl) ?_
          refine WL.q (Wn.no rfl) rfl rfl (R.indexA (b := b_59) (off := 0) (off' := (0 + i)) (i := i) rfl rfl rfl (by omega) Try.underlying66 Try.sizeOf5 (by rw [Nat.mul_one])) ?_
          refine WL.q (Wn.no rfl) rfl rfl (R.loadE (b := b_59) (off := (0 + i)) (i := i) (v := (vu8 ((mixL (xorL (decN (keysL (tabL sub) key) (tabL unsub) blk j) (((keysL (tabL sub) key).drop ((10 - j) * 16)).take 16)) ([14, 11, 13, 9] : List UInt8)).getD i 0))) rfl Try.isAgg5 (h_68.ok _ (.head _)) Sg.h rfl (get_u8 (lt_len (K := 16) (mixL_len ..) (by omega)))) ?_
          refine WL.q (Wn.no rfl) rfl rfl (R.indexA (b := b_19) (off := 0) (off' := (0 + (((mixL (xorL (decN (keysL (tabL sub) key) (tabL unsub) blk j) (((keysL (tabL sub) key).drop ((10 - j) * 16)).take 16)) ([14, 11, 13, 9] : List UInt8)).getD i 0).toNat))) (i := ((mixL (xorL (decN (keysL (tabL sub) key) (tabL unsub) blk j) (((keysL (tabL sub) key).drop ((10 - j) * 16)).take 16)) ([14, 11, 13, 9] : List UInt8)).getD i 0).toNat) rfl rfl rfl (UInt8.toNat_lt _) Try.underlying72 Try.sizeOf5 (by rw [Nat.mul_one])) ?_
          refine WL.q (Wn.no rfl) rfl rfl (R.loadE (b := b_19) (off := (0 + (((mixL (xorL (decN (keysL (tabL sub) key) (tabL unsub) blk j) (((keysL (tabL sub) key).drop ((10 - j) * 16)).take 16)) ([14, 11, 13, 9] : List UInt8)).getD i 0).toNat))) (i := ((mixL (xorL (decN (keysL (tabL sub) key) (tabL unsub) blk j) (((keysL (tabL sub) key).drop ((10 - j) * 16)).take 16)) ([14, 11, 13, 9] : List UInt8)).getD i 0).toNat) (v := (vu8 ((tabL unsub).getD (((mixL (xorL (decN (keysL (tabL sub) key) (tabL unsub) blk j) (((keysL (tabL sub) key).drop ((10 - j) * 16)).take 16)) ([14, 11, 13, 9] : List UInt8)).getD i 0).toNat) 0))) rfl Try.isAgg5 (h_68.ok _ (.tail _ (.tail _ (.head _)))) Sg.h rfl (get_u8 (lt_len (K := 256) (tabL_len unsub) (UInt8.toNat_lt _)))) ?_
          refine WL.q (Wn.no rfl) rfl rfl (R.indexA (b := b_26) (off := 0) (off' := (0 + ((i + ((i % 4) * 4)) % 16))) (i := (i + ((i % 4) * 4)) % 16) rfl rfl rfl (by omega) Try.underlying66 Try.sizeOf5 (by rw [Nat.mul_one])) ?_
          refine WL.storeE (b := b_26) (off := (0 + ((i + ((i % 4) * 4)) % 16))) (i := (i + ((i % 4) * 4)) % 16) (v := (vu8 ((tabL unsub).getD (((mixL (xorL (decN (keysL (tabL sub) key) (tabL unsub) blk j) (((keysL (tabL sub) key).drop ((10 - j) * 16)).take 16)) ([14, 11, 13, 9] : List UInt8)).getD i 0).toNat) 0))) (cs' := ((unsN (tabL unsub) (mixL (xorL (decN (keysL (tabL sub) key) (tabL unsub) blk j) (((keysL (tabL sub) key).drop ((10 - j) * 16)).take 16)) ([14, 11, 13, 9] : List UInt8)) (decN (keysL (tabL sub) key) (tabL unsub) blk j) i).set ((i + ((i % 4) * 4)) % 16) ((tabL unsub).getD (((mixL (xorL (decN (keysL (tabL sub) key) (tabL unsub) blk j) (((keysL (tabL sub) key).drop ((10 - j) * 16)).take 16)) ([14, 11, 13, 9] : List UInt8)).getD i 0).toNat) 0)).map vu8) h_68 rfl rfl Try.sizeOf5 rfl (At.t At.h) (by decide) Sg.h rfl (lt_len (K := 16) (len_map (by rw [unsN_len, decN_len hbl])) (by omega)) (set_u8 _ _ _) (fun w_73 h_74 => ?_)
          refine WL.nil ?_
          refine inb_n ?_
          refine thn_n ?_
          refine WP.reg ?_
          refine WL.q (Wn.no rfl) rfl rfl (R.bin (v := (vi ((i + 1 : Nat) : Int))) rfl rfl (bi_add (c := ((i + 1 : Nat) : Int)) (by omega) (by omega))) ?_
          refine WL.q (Wn.no rfl) rfl rfl (R.move (v := (vi ((i + 1 : Nat) : Int))) rfl) ?_
          refine WL.nil ?_
          refine thn_n ?_
          rw [show (unsN (tabL unsub) (mixL (xorL (decN (keysL (tabL sub) key) (tabL unsub) blk j) (((keysL (tabL sub) key).drop ((10 - j) * 16)).take 16)) ([14, 11, 13, 9] : List UInt8)) (decN (keysL (tabL sub) key) (tabL unsub) blk j) i).set ((i + i % 4 * 4) % 16) ((tabL unsub).getD ((mixL (xorL (decN (keysL (tabL sub) key) (tabL unsub) blk j) (((keysL (tabL sub) key).drop ((10 - j) * 16)).take 16)) ([14, 11, 13, 9] : List UInt8)).getD i 0).toNat 0) = unsN (tabL unsub) (mixL (xorL (decN (keysL (tabL sub) key) (tabL unsub) blk j) (((keysL (tabL sub) key).drop ((10 - j) * 16)).take 16)) ([14, 11, 13, 9] : List UInt8)) (decN (keysL (tabL sub) key) (tabL unsub) blk j) (i + 1) from rfl] at h_74
          exact ⟨i + 1, _, (by omega), (Ag.upd rfl (Ag.upd rfl (Ag.upd rfl (Ag.upd rfl (Ag.upd rfl (Ag.upd rfl (Ag.upd rfl (Ag.upd rfl (Ag.upd rfl (Ag.upd rfl (Ag.upd rfl (Ag.upd rfl (Ag.upd rfl (Ag.upd rfl (Ag.upd rfl (Ag.upd rfl (Ag.upd rfl (Ag.updL rfl (Ag.mix _ _ _))))))))))))))))))), ⟨rfl, trivial⟩, h_74, (by omega), rfl⟩
        · have p_75 := of_decide_eq_false c_71
          refine WP.exit ?_
          refine thn_x ?_
          refine thn_x ?_
          refine inb_hit ?_
          refine inb_n ?_
          refine thn_n ?_
          refine WP.reg ?_
          refine WL.q (Wn.no rfl) rfl rfl (R.move (v := (vi ((10 - j : Nat) : Int))) rfl) ?_
          refine WL.q (Wn.no rfl) rfl rfl (R.bin (v := (vi ((10 - j - 1 : Nat) : Int))) rfl rfl (bi_sub (c := ((10 - j - 1 : Nat) : Int)) (by omega) (by omega))) ?_
          refine WL.q (Wn.no rfl) rfl rfl (R.assign (v := (vi ((10 - j - 1 : Nat) : Int))) rfl) ?_
          refine WL.nil ?_
          refine thn_n ?_
          have hi16 : i = 16 := by omega
          subst hi16
          have h_76 := h_68.drop rfl
          have es : unsN (tabL unsub) (mixL (xorL (decN (keysL (tabL sub) key) (tabL unsub) blk j) (((keysL (tabL sub) key).drop ((10 - j) * 16)).take 16)) ([14, 11, 13, 9] : List UInt8)) (decN (keysL (tabL sub) key) (tabL unsub) blk j) 16 = decN (keysL (tabL sub) key) (tabL unsub) blk (j + 1) := by rw [Ax.decN, if_pos (by omega)]; rfl
          rw [es] at h_76
          exact ⟨j + 1, _, (by omega), (Ag.upd rfl (Ag.upd rfl (Ag.upd rfl (Ag.upd rfl (Ag.updL rfl (Ag.trans (Ag.sub rfl (Ag.mix _ _ _)) (Ag.upd rfl (Ag.upd rfl (Ag.upd rfl (Ag.upd rfl (Ag.upd rfl (Ag.upd rfl (Ag.updL rfl (Ag.trans (Ag.sub rfl (Ag.mix _ _ _)) (Ag.upd rfl (Ag.upd rfl (Ag.updL rfl (Ag.mix _ _ _)))))))))))))))))), ⟨congrArg vi (by omega), trivial⟩, h_76, (by omega), rfl⟩
      · have p_77 := of_decide_eq_false c_60
        refine WP.skip ?_
        refine thn_n ?_
        refine WP.seq ?_
        refine WP.reg ?_
        refine WL.q (Wn.no rfl) rfl rfl (R.move (v := (vi 0)) rfl) ?_
        refine WL.nil ?_
        refine thn_n ?_
        refine WP.block ?_
        refine WP.loopG (G := Nat) [10, 29, 30, 31, 32, 33, 34, 35, 36, 37, 38, 39, 40, 41, 42, 43, 44] (fun i => [(29, (vi ((i : Nat) : Int)))]) (fun i m w1 => HP w w1 [.blk b_59 .nw 66 [(16, (xorL (decN (keysL (tabL sub) key) (tabL unsub) blk j) (((keysL (tabL sub) key).drop ((10 - j) * 16)).take 16)).map vu8)], .blk b_26 .nw 66 [(16, (unsN (tabL unsub) (xorL (decN (keysL (tabL sub) key) (tabL unsub) blk j) (((keysL (tabL sub) key).drop ((10 - j) * 16)).take 16)) (decN (keysL (tabL sub) key) (tabL unsub) blk j) i).map vu8)], .blk b_19 .nw 72 [(256, (tabL unsub).map vu8)], .blk b_16 .nw 74 [(176, (keysL (tabL sub) key).map vu8)], .blk b_7 .nw 66 [(16, (List.replicate 16 (0 : UInt8)).map vu8)], .blk b_4 .nw 66 [(16, blk.map vu8)], .blk b_1 .nw 66 [(16, key.map vu8)]] ∧ (i ≤ 16) ∧ m = 16 - i) ⟨0, _, ⟨rfl, trivial⟩, h_58, (by omega), rfl⟩ ?_
        rintro i m_80 J_81 w_78 ⟨h_79, hi, rfl⟩
        refine WP.seq ?_
        refine WP.reg ?_
        refine WL.q (Wn.no rfl) rfl rfl (R.bin (v := (.bool (decide ((((i : Nat) : Int) : Int) < 16)))) rfl rfl (bi_lss (r := decide ((((i : Nat) : Int) : Int) < 16)) rfl)) ?_
        refine WL.nil ?_
        refine thn_n ?_
        refine WP.seq ?_
        refine WP.cond (b := decide ((((i : Nat) : Int) : Int) < 16)) rfl (fun c_82 => ?_) (fun c_82 => ?_)
        · have p_83 := of_decide_eq_true c_82
          refine WP.skip ?_
          refine thn_n ?_
          refine WP.seq ?_
          refine WP.block ?_
          refine WP.seq ?_
          refine WP.reg ?_
          refine WL.q (Wn.no rfl) rfl rfl (R.move (v := (vi ((i : Nat) : Int))) rfl) ?_
          refine WL.q (Wn.no rfl) rfl rfl (R.assign (v := (vi ((i : Nat) : Int))) rfl) ?_
          refine WL.nil ?_
          refine thn_n ?_
          refine WP.reg ?_
          refine WL.q (Wn.no rfl) rfl rfl (R.move (v := (vi ((i : Nat) : Int))) rfl) ?_
          refine WL.q (Wn.no rfl) rfl rfl (R.move (v := (vi ((i : Nat) : Int))) rfl) ?_
          refine WL.q (Wn.no rfl) rfl rfl (R.bin (v := (vi ((i % 4 : Nat) : Int))) rfl rfl (bi_rem (c := ((i % 4 : Nat) : Int)) (Int.natCast_nonneg _) (by omega) (by first | omega | rfl))) ?_
          refine WL.q (Wn.no rfl) rfl rfl (R.bin (v := (vi (((i % 4) * 4 : Nat) : Int))) rfl rfl (bi_mul (c := (((i % 4) * 4 : Nat) : Int)) (by omega) (by omega))) ?_
          refine WL.q (Wn.no rfl) rfl rfl (R.bin (v := (vi ((i + ((i % 4) * 4) : Nat) : Int))) rfl rfl (bi_add (c := ((i + ((i % 4) * 4) : Nat) : Int)) (by omega) (by omega))) ?_
          refine WL.q (Wn.no rfl) rfl rfl (R.bin (v := (vi (((i + ((i % 4) * 4)) % 16 : Nat) : Int))) rfl rfl (bi_rem (c := (((i + ((i % 4) * 4)) % 16 : Nat) : Int)) (Int.natCast_nonneg _) (by omega) (by first | omega | rfl))) ?_
          refine WL.q (Wn.no rfl) rfl rfl (R.move (v := (vi ((i : Nat) : Int))) rfl) ?_
          refine WL.q (Wn.no rfl) rfl rfl (R.indexA (b := b_59) (off := 0) (off' := (0 + i)) (i := i) rfl rfl rfl (by omega) Try.underlying66 Try.sizeOf5 (by rw [Nat.mul_one])) ?_
          refine WL.q (Wn.no rfl) rfl rfl (R.loadE (b := b_59) (off := (0 + i)) (i := i) (v := (vu8 ((xorL (decN (keysL (tabL sub) key) (tabL unsub) blk j) (((keysL (tabL sub) key).drop ((10 - j) * 16)).take 16)).getD i 0))) rfl Try.isAgg5 (h_79.ok _ (.head _)) Sg.h rfl (get_u8 (lt_len (K := 16) (xorL_len (decN_len hbl _) (subLen (K := 176) (keysL_len ..) (by omega) : List.length (((keysL (tabL sub) key).drop ((10 - j) * 16)).take 16) = 16)) (by omega)))) ?_
          refine WL.q (Wn.no rfl) rfl rfl (R.indexA (b := b_19) (off := 0) (off' := (0 + (((xorL (decN (keysL (tabL sub) key) (tabL unsub) blk j) (((keysL (tabL sub) key).drop ((10 - j) * 16)).take 16)).getD i 0).toNat))) (i := ((xorL (decN (keysL (tabL sub) key) (tabL unsub) blk j) (((keysL (tabL sub) key).drop ((10 - j) * 16)).take 16)).getD i 0).toNat) rfl rfl rfl (UInt8.toNat_lt _) Try.underlying72 Try.sizeOf5 (by rw [Nat.mul_one])) ?_
          refine WL.q (Wn.no rfl) rfl rfl (R.loadE (b := b_19) (off := (0 + (((xorL (decN (keysL (tabL sub) key) (tabL unsub) blk j) (((keysL (tabL sub) key).drop ((10 - j) * 16)).take 16)).getD i 0).toNat))) (i := ((xorL (decN (keysL (tabL sub) key) (tabL unsub) blk j) (((keysL (tabL sub) key).drop ((10 - j) * 16)).take 16)).getD i 0).toNat) (v := (vu8 ((tabL unsub).getD (((xorL (decN (keysL (tabL sub) key) (tabL unsub) blk j) (((keysL (tabL sub) key).drop ((10 - j) * 16)).take 16)).getD i 0).toNat) 0))) rfl Try.isAgg5 (h_79.ok _ (.tail _ (.tail _ (.head _)))) Sg.h rfl (get_u8 (lt_len (K := 256) (tabL_len unsub) (UInt8.toNat_lt _)))) ?_
          refine WL.q (Wn.no rfl) rfl rfl (R.indexA (b := b_26) (off := 0) (off' := (0 + ((i + ((i % 4) * 4)) % 16))) (i := (i + ((i % 4) * 4)) % 16) rfl rfl rfl (by omega) Try.underlying66 Try.sizeOf5 (by rw [Nat.mul_one])) ?_
          refine WL.storeE (b := b_26) (off := (0 + ((i + ((i % 4) * 4)) % 16))) (i := (i + ((i % 4) * 4)) % 16) (v := (vu8 ((tabL unsub).getD (((xorL (decN (keysL (tabL sub) key) (tabL unsub) blk j) (((keysL (tabL sub) key).drop ((10 - j) * 16)).take 16)).getD i 0).toNat) 0))) (cs' := ((unsN (tabL unsub) (xorL (decN (keysL (tabL sub) key) (tabL unsub) blk j) (((keysL (tabL sub) key).drop ((10 - j) * 16)).take 16)) (decN (keysL (tabL sub) key) (tabL unsub) blk j) i).set ((i + ((i % 4) * 4)) % 16) ((tabL unsub).getD (((xorL (decN (keysL (tabL sub) key) (tabL unsub) blk j) (((keysL (tabL sub) key).drop ((10 - j) * 16)).take 16)).getD i 0).toNat) 0)).map vu8) h_79 rfl rfl Try.sizeOf5 rfl (At.t At.h) (by decide) Sg.h rfl (lt_len (K := 16) (len_map (by rw [unsN_len, decN_len hbl])) (by omega)) (set_u8 _ _ _) (fun w_84 h_85 => ?_)
          refine WL.nil ?_
          refine inb_n ?_
          refine thn_n ?_
          refine WP.reg ?_
          refine WL.q (Wn.no rfl) rfl rfl (R.bin (v := (vi ((i + 1 : Nat) : Int))) rfl rfl (bi_add (c := ((i + 1 : Nat) : Int)) (by omega) (by omega))) ?_
          refine WL.q (Wn.no rfl) rfl rfl (R.move (v := (vi ((i + 1 : Nat) : Int))) rfl) ?_
          refine WL.nil ?_
          refine thn_n ?_
          rw [show (unsN (tabL unsub) (xorL (decN (keysL (tabL sub) key) (tabL unsub) blk j) (((keysL (tabL sub) key).drop ((10 - j) * 16)).take 16)) (decN (keysL (tabL sub) key) (tabL unsub) blk j) i).set ((i + i % 4 * 4) % 16) ((tabL unsub).getD ((xorL (decN (keysL (tabL sub) key) (tabL unsub) blk j) (((keysL (tabL sub) key).drop ((10 - j) * 16)).take 16)).getD i 0).toNat 0) = unsN (tabL unsub) (xorL (decN (keysL (tabL sub) key) (tabL unsub) blk j) (((keysL (tabL sub) key).drop ((10 - j) * 16)).take 16)) (decN (keysL (tabL sub) key) (tabL unsub) blk j) (i + 1) from rfl] at h_85
          exact ⟨i + 1, _, (by omega), (Ag.upd rfl (Ag.upd rfl (Ag.upd rfl (Ag.upd rfl (Ag.upd rfl (Ag.upd rfl (Ag.upd rfl (Ag.upd rfl (Ag.upd rfl (Ag.upd rfl (Ag.upd rfl (Ag.upd rfl (Ag.upd rfl (Ag.upd rfl (Ag.upd rfl (Ag.upd rfl (Ag.upd rfl (Ag.updL rfl (Ag.mix _ _ _))))))))))))))))))), ⟨rfl, trivial⟩, h_85, (by omega), rfl⟩
        · have p_86 := of_decide_eq_false c_82
          refine WP.exit ?_
          refine thn_x ?_
          refine thn_x ?_
          refine inb_hit ?_
          refine inb_n ?_
          refine thn_n ?_
          refine WP.reg ?_
          refine WL.q (Wn.no rfl) rfl rfl (R.move (v := (vi ((10 - j : Nat) : Int))) rfl) ?_
          refine WL.q (Wn.no rfl) rfl rfl (R.bin (v := (vi ((10 - j - 1 : Nat) : Int))) rfl rfl (bi_sub (c := ((10 - j - 1 : Nat) : Int)) (by omega) (by omega))) ?_
          refine WL.q (Wn.no rfl) rfl rfl (R.assign (v := (vi ((10 - j - 1 : Nat) : Int))) rfl) ?_
          refine WL.nil ?_
          refine thn_n ?_
          have hi16 : i = 16 := by omega
          subst hi16
          have h_87 := h_79.drop rfl
          have es : unsN (tabL unsub) (xorL (decN (keysL (tabL sub) key) (tabL unsub) blk j) (((keysL (tabL sub) key).drop ((10 - j) * 16)).take 16)) (decN (keysL (tabL sub) key) (tabL unsub) blk j) 16 = decN (keysL (tabL sub) key) (tabL unsub) blk (j + 1) := by rw [Ax.decN, if_neg (by omega)]; rfl
          rw [es] at h_87
          exact ⟨j + 1, _, (by omega), (Ag.upd rfl (Ag.upd rfl (Ag.upd rfl (Ag.upd rfl (Ag.updL rfl (Ag.trans (Ag.sub rfl (Ag.mix _ _ _)) (Ag.upd rfl (Ag.upd rfl (Ag.upd rfl (Ag.updL rfl (Ag.trans (Ag.sub rfl (Ag.mix _ _ _)) (Ag.upd rfl (Ag.upd rfl (Ag.updL rfl (Ag.mix _ _ _))))))))))))))), ⟨congrArg vi (by omega), trivial⟩, h_87, (by omega), rfl⟩
  · have p_88 := of_decide_eq_false c_35
    refine WP.exit ?_
    refine thn_x ?_
    refine thn_x ?_
    refine inb_hit ?_
    refine thn_n ?_
    refine WP.seq ?_
    refine WP.reg ?_
    refine WL.q (Wn.no rfl) rfl rfl (R.loadA (b := b_26) (off := 0) [] [(16, (decN (keysL (tabL sub) key) (tabL unsub) blk j).map vu8)] [] (cs := (decN (keysL (tabL sub) key) (tabL unsub) blk j).map vu8) rfl Try.isAgg66 Try.sizeOf66 (h_32.ok _ (.head _)) rfl rfl rfl rfl) ?_
    refine WL.q (Wn.no rfl) rfl rfl (R.indexA (b := b_16) (off := 0) (off' := 0) (i := 0) rfl rfl rfl (by decide) Try.underlying74 Try.sizeOf66 rfl) ?_
    refine WL.q (Wn.no rfl) rfl rfl (R.loadEA (b := b_16) (off := 0) (i := 0) (xs := (((keysL (tabL sub) key).drop 0).take 16).map vu8) rfl Try.isAgg66 Try.sizeOf66 (h_32.ok _ (.tail _ (.tail _ (.head _)))) Sg.h rfl (by rw [List.map_take, List.map_drop]) (len_map (subLen (K := 176) (keysL_len ..) (by omega) : List.length (((keysL (tabL sub) key).drop 0).take 16) = 16))) ?_
    refine WL.call (al := [(.agg ⟨(decN (keysL (tabL sub) key) (tabL unsub) blk j).map vu8⟩), (.agg ⟨(((keysL (tabL sub) key).drop 0).take 16).map vu8⟩)]) Try.call86 rfl rfl (c_with (decN (keysL (tabL sub) key) (tabL unsub) blk j) (((keysL (tabL sub) key).drop 0).take 16) (decN_len hbl _) (subLen (K := 176) (keysL_len ..) (by omega) : List.length (((keysL (tabL sub) key).drop 0).take 16) = 16) _ ) rfl ?_
    rintro _ w_90 ⟨rfl, hc_89⟩
    have h_91 := h_32.same hc_89
    refine WL.storeA (b := b_7) (off := 0) [] [(16, (List.replicate 16 (0 : UInt8)).map vu8)] [(16, (xorL (decN (keysL (tabL sub) key) (tabL unsub) blk j) (((keysL (tabL sub) key).drop 0).take 16)).map vu8)] [] (ys := (xorL (decN (keysL (tabL sub) key) (tabL unsub) blk j) (((keysL (tabL sub) key).drop 0).take 16)).map vu8) h_91 rfl rfl Try.sizeOf66 (At.t (At.t (At.t At.h))) (by decide) rfl rfl rfl rfl rfl rfl (SsOk.cons (SOk.u8 (xorL_len (decN_len hbl _) (subLen (K := 176) (keysL_len ..) (by omega) : List.length (((keysL (tabL sub) key).drop 0).take 16) = 16))) SsOk.nil) (fun w_92 h_93 => ?_)
    refine WL.nil ?_
    refine thn_n ?_
    refine WP.ret ?_
    refine ret_of Try.results62 (RV.cell rfl (h_93.loadA (cs := (xorL (decN (keysL (tabL sub) key) (tabL unsub) blk j) (((keysL (tabL sub) key).drop 0).take 16)).map vu8) Try.isAgg66 Try.sizeOf66 (.tail _ (.tail _ (.tail _ (.head _)))) rfl rfl) RV.nil) ?_
    have hj10 : j = 10 := by omega
    subst hj10
    exact ⟨rfl, h_93.chgS⟩

theorem c_DecipherR (keys blk : List UInt8) (hks : keys.length = 176) (hbl : blk.length = 16) (w : World) :
    Cs Try.prog 63 [(.agg ⟨keys.map vu8⟩), (.agg ⟨blk.map vu8⟩), (.agg ⟨(tabL sub).map vu8⟩)].toArray w (fun v w1 => v = (.agg ⟨(dec keys (tabL unsub) blk).map vu8⟩) ∧ Chg w w1 []) := by
  refine Cs.of (n := 67) (args := [(.agg ⟨keys.map vu8⟩), (.agg ⟨blk.map vu8⟩), (.agg ⟨(tabL sub).map vu8⟩)]) Try.func63 rfl rfl rfl ?_
  have h_0 := HP.init w
  refine WP.seq ?_
  refine WP.reg ?_
  refine WL.box (v := (.agg ⟨keys.map vu8⟩)) (segs := [(176, keys.map vu8)]) h_0 rfl rfl (SsOk.cons (SOk.u8 hks) SsOk.nil) rfl (fun b_1 w_2 h_3 => ?_)
  refine WL.box (v := (.agg ⟨blk.map vu8⟩)) (segs := [(16, blk.map vu8)]) h_3 rfl rfl (SsOk.cons (SOk.u8 hbl) SsOk.nil) rfl (fun b_4 w_5 h_6 => ?_)
  refine WL.box (v := (.agg ⟨(tabL sub).map vu8⟩)) (segs := [(256, (tabL sub).map vu8)]) h_6 rfl rfl (SsOk.cons (SOk.u8 (tabL_len sub)) SsOk.nil) rfl (fun b_7 w_8 h_9 => ?_)
  refine WL.alloc (segs := [(16, (List.replicate 16 (0 : UInt8)).map vu8)]) h_9 (zv Try.typeInfo66 rfl) rfl (SsOk.cons (SOk.u8 (List.length_replicate ..)) SsOk.nil) rfl (fun b_10 w_11 h_12 => ?_)
  refine WL.nil ?_
  refine thn_n ?_
  refine WP.seq ?_
  refine WP.reg ?_
  refine WL.alloc (segs := [(256, (List.replicate 256 (0 : UInt8)).map vu8)]) h_12 (zv Try.typeInfo72 rfl) rfl (SsOk.cons (SOk.u8 (List.length_replicate ..)) SsOk.nil) rfl (fun b_13 w_14 h_15 => ?_)
  refine WL.nil ?_
  refine thn_n ?_
  refine WP.seq ?_
  refine WP.seq ?_
  refine WP.reg ?_
  refine WL.q (Wn.no rfl) rfl rfl (R.assign (v := (vi 0)) rfl) ?_
  refine WL.nil ?_
  refine thn_n ?_
  refine WP.block ?_
  refine WP.loopG (G := Nat) [8, 14, 15, 16, 17, 18, 19, 20, 21, 22, 23] (fun k => [(8, (vi ((k : Nat) : Int)))]) (fun k m w1 => HP w w1 [.blk b_13 .nw 72 [(256, (bk k).map vu8)], .blk b_10 .nw 66 [(16, (List.replicate 16 (0 : UInt8)).map vu8)], .blk b_7 .nw 72 [(256, (tabL sub).map vu8)], .blk b_4 .nw 66 [(16, blk.map vu8)], .blk b_1 .nw 74 [(176, keys.map vu8)]] ∧ (k ≤ 256) ∧ m = 256 - k) ⟨0, _, ⟨rfl, trivial⟩, (by rw [bk_0]; exact h_15), (by omega), rfl⟩ ?_
  rintro k m_18 J_19 w_16 ⟨h_17, hk, rfl⟩
  refine WP.seq ?_
  refine WP.seq ?_
  refine WP.reg ?_
  refine WL.q (Wn.no rfl) rfl rfl (R.move (v := (vi ((k : Nat) : Int))) rfl) ?_
  refine WL.q (Wn.no rfl) rfl rfl (R.bin (v := (.bool (decide ((((k : Nat) : Int) : Int) < 256)))) rfl rfl (bi_lss (r := decide ((((k : Nat) : Int) : Int) < 256)) rfl)) ?_
  refine WL.nil ?_
  refine thn_n ?_
  refine WP.cond (b := decide ((((k : Nat) : Int) : Int) < 256)) rfl (fun c_20 => ?_) (fun c_20 => ?_)
  · have p_21 := of_decide_eq_true c_20
    refine WP.skip ?_
    refine thn_n ?_
    refine WP.seq ?_
    refine WP.block ?_
    refine WP.reg ?_
    refine WL.q (Wn.no rfl) rfl rfl (R.move (v := (vi ((k : Nat) : Int))) rfl) ?_
    refine WL.q (Wn.no rfl) rfl rfl (R.indexA (b := b_7) (off := 0) (off' := (0 + k)) (i := k) rfl rfl rfl (by omega) Try.underlying72 Try.sizeOf5 (by rw [Nat.mul_one])) ?_
    refine WL.q (Wn.no rfl) rfl rfl (R.loadE (b := b_7) (off := (0 + k)) (i := k) (v := (vu8 ((tabL sub).getD k 0))) rfl Try.isAgg5 (h_17.ok _ (.tail _ (.tail _ (.head _)))) Sg.h rfl (get_u8 (lt_len (K := 256) (tabL_len sub) (by omega)))) ?_
    refine WL.q (Wn.no rfl) rfl rfl (R.move (v := (vi ((k : Nat) : Int))) rfl) ?_
    refine WL.q (Wn.no rfl) rfl rfl (R.conv (b := ((UInt8.ofNat k) : UInt8).toNat) rfl Try.underlying3 Try.underlying5 (w8_nat k)) ?_
    refine WL.q (Wn.no rfl) rfl rfl (R.indexA (b := b_13) (off := 0) (off' := (0 + (((tabL sub).getD k 0).toNat))) (i := ((tabL sub).getD k 0).toNat) rfl rfl rfl (UInt8.toNat_lt _) Try.underlying72 Try.sizeOf5 (by rw [Nat.mul_one])) ?_
    refine WL.storeE (b := b_13) (off := (0 + (((tabL sub).getD k 0).toNat))) (i := ((tabL sub).getD k 0).toNat) (v := (vu8 (UInt8.ofNat k))) (cs' := ((bk k).set (((tabL sub).getD k 0).toNat) (UInt8.ofNat k)).map vu8) h_17 rfl rfl Try.sizeOf5 rfl At.h (by decide) Sg.h rfl (lt_len (K := 256) (len_map (bk_len _)) (UInt8.toNat_lt _)) (set_u8 _ _ _) (fun w_22 h_23 => ?_)
    refine WL.nil ?_
    refine inb_n ?_
    refine thn_n ?_
    refine WP.reg ?_
    refine WL.q (Wn.no rfl) rfl rfl (R.move (v := (vi ((k : Nat) : Int))) rfl) ?_
    refine WL.q (Wn.no rfl) rfl rfl (R.bin (v := (vi ((k + 1 : Nat) : Int))) rfl rfl (bi_add (c := ((k + 1 : Nat) : Int)) (by omega) (by omega))) ?_
    refine WL.q (Wn.no rfl) rfl rfl (R.assign (v := (vi ((k + 1 : Nat) : Int))) rfl) ?_
    refine WL.nil ?_
    refine thn_n ?_
    rw [bk_step (by omega)] at h_23
    exact ⟨k + 1, _, (by omega), (Ag.upd rfl (Ag.upd rfl (Ag.upd rfl (Ag.upd rfl (Ag.upd rfl (Ag.upd rfl (Ag.upd rfl (Ag.upd rfl (Ag.upd rfl (Ag.upd rfl (Ag.upd rfl (Ag.updL rfl (Ag.mix _ _ _))))))))))))), ⟨rfl, trivial⟩, h_23, (by omega), rfl⟩
  · have p_24 := of_decide_eq_false c_20
    refine WP.exit ?_
    refine thn_x ?_
    refine thn_x ?_
    refine inb_hit ?_
    refine thn_n ?_
    refine WP.seq ?_
    refine WP.reg ?_
    refine WL.q (Wn.no rfl) rfl rfl (R.loadA (b := b_4) (off := 0) [] [(16, blk.map vu8)] [] (cs := blk.map vu8) rfl Try.isAgg66 Try.sizeOf66 (h_17.ok _ (.tail _ (.tail _ (.tail _ (.head _))))) rfl rfl rfl rfl) ?_
    refine WL.alloc (segs := [(16, (List.replicate 16 (0 : UInt8)).map vu8)]) h_17 (zv Try.typeInfo66 rfl) rfl (SsOk.cons (SOk.u8 (List.length_replicate ..)) SsOk.nil) rfl (fun b_25 w_26 h_27 => ?_)
    refine WL.storeA (b := b_25) (off := 0) [] [(16, (List.replicate 16 (0 : UInt8)).map vu8)] [(16, blk.map vu8)] [] (ys := blk.map vu8) h_27 rfl rfl Try.sizeOf66 At.h (by decide) rfl rfl rfl rfl rfl rfl (SsOk.cons (SOk.u8 hbl) SsOk.nil) (fun w_28 h_29 => ?_)
    refine WL.nil ?_
    refine thn_n ?_
    refine WP.seq ?_
    refine WP.seq ?_
    refine WP.reg ?_
    refine WL.q (Wn.no rfl) rfl rfl (R.assign (v := (vi 10)) rfl) ?_
    refine WL.nil ?_
    refine thn_n ?_
    refine WP.block ?_
    have hk256 : k = 256 := by omega
    subst hk256
    rw [bk_all] at h_29
    refine WP.loopG (G := Nat) [10, 11, 12, 13, 25, 26, 27, 28, 29, 30, 31, 32, 33, 34, 35, 36, 37, 38, 39, 40, 41, 42, 43, 44, 45, 46, 47, 48, 49, 50, 51, 52, 53, 54, 55, 56, 57, 58, 59, 60, 61, 62] (fun j => [(10, (vi ((10 - j : Nat) : Int)))]) (fun j m w1 => HP w w1 [.blk b_25 .nw 66 [(16, (decN keys (tabL unsub) blk j).map vu8)], .blk b_13 .nw 72 [(256, (tabL unsub).map vu8)], .blk b_10 .nw 66 [(16, (List.replicate 16 (0 : UInt8)).map vu8)], .blk b_7 .nw 72 [(256, (tabL sub).map vu8)], .blk b_4 .nw 66 [(16, blk.map vu8)], .blk b_1 .nw 74 [(176, keys.map vu8)]] ∧ (j ≤ 10) ∧ m = 10 - j) ⟨0, _, ⟨rfl, trivial⟩, h_29, (by omega), rfl⟩ ?_
    rintro j m_32 J_33 w_30 ⟨h_31, hj, rfl⟩
    refine WP.seq ?_
    refine WP.seq ?_
    refine WP.reg ?_
    refine WL.q (Wn.no rfl) rfl rfl (R.move (v := (vi ((10 - j : Nat) : Int))) rfl) ?_
    refine WL.q (Wn.no rfl) rfl rfl (R.bin (v := (.bool (decide ((((10 - j : Nat) : Int) : Int) ≥ 1)))) rfl rfl (bi_geq (r := decide ((((10 - j : Nat) : Int) : Int) ≥ 1)) rfl)) ?_
    refine WL.nil ?_
    refine thn_n ?_
    refine WP.cond (b := decide ((((10 - j : Nat) : Int) : Int) ≥ 1)) rfl (fun c_34 => ?_) (fun c_34 => ?_)
    · have p_35 := of_decide_eq_true c_34
      refine WP.skip ?_
      refine thn_n ?_
      refine WP.seq ?_
      refine WP.block ?_
      refine WP.seq ?_
      refine WP.cutG (G := Nat) [11, 29, 30, 31, 32, 33] (fun bY10Y5Y0Y0 => [(29, (.agg ⟨(decN keys (tabL unsub) blk j).map vu8⟩)), (30, (vi ((10 - j : Nat) : Int))), (31, (.pointer (some ⟨b_1, (0 + ((10 - j) * 16)), none⟩))), (32, (.agg ⟨((keys.drop ((10 - j) * 16)).take 16).map vu8⟩)), (33, (.agg ⟨(xorL (decN keys (tabL unsub) blk j) ((keys.drop ((10 - j) * 16)).take 16)).map vu8⟩)), (11, (.pointer (some ⟨bY10Y5Y0Y0, 0, none⟩)))]) (fun bY10Y5Y0Y0 w1 => HP w w1 [.blk bY10Y5Y0Y0 .nw 66 [(16, (xorL (decN keys (tabL unsub) blk j) ((keys.drop ((10 - j) * 16)).take 16)).map vu8)], .blk b_25 .nw 66 [(16, (decN keys (tabL unsub) blk j).map vu8)], .blk b_13 .nw 72 [(256, (tabL unsub).map vu8)], .blk b_10 .nw 66 [(16, (List.replicate 16 (0 : UInt8)).map vu8)], .blk b_7 .nw 72 [(256, (tabL sub).map vu8)], .blk b_4 .nw 66 [(16, blk.map vu8)], .blk b_1 .nw 74 [(176, keys.map vu8)]]) ?_ ?_
      · refine WP.drawZ 6 (SL w.heap.size [.blk b_25 .nw 66 [(16, (decN keys (tabL unsub) blk j).map vu8)], .blk b_13 .nw 72 [(256, (tabL unsub).map vu8)], .blk b_10 .nw 66 [(16, (List.replicate 16 (0 : UInt8)).map vu8)], .blk b_7 .nw 72 [(256, (tabL sub).map vu8)], .blk b_4 .nw 66 [(16, blk.map vu8)], .blk b_1 .nw 74 [(176, keys.map vu8)]]) (.q 0 (.q 1 (.q 2 (.q 3 (.s2 4 5 (.s 5 (.s 6 .nil)) (.s 4 (.s 6 .nil))))))) (by kernel_rfl) (by kernel_rfl) rfl (by kernel_rfl) (fun w_36 hc_38 => (SL.cons ((h_31.same hc_38).ok _ (.head _)) (SL.cons ((h_31.same hc_38).ok _ (.tail _ (.head _))) (SL.cons ((h_31.same hc_38).ok _ (.tail _ (.tail _ (.head _)))) (SL.cons ((h_31.same hc_38).ok _ (.tail _ (.tail _ (.tail _ (.head _))))) (SL.cons ((h_31.same hc_38).ok _ (.tail _ (.tail _ (.tail _ (.tail _ (.head _)))))) (SL.cons ((h_31.same hc_38).ok _ (.tail _ (.tail _ (.tail _ (.tail _ (.tail _ (.head _))))))) (SL.nil _ _)))))))) (fun w_36 hc_38 => ?_)
        have h_37 := h_31.same hc_38
        refine ZT.q rfl (Wn.no rfl) rfl rfl (fun wq hS => R.loadA (b := b_25) (off := 0) [] [(16, (decN keys (tabL unsub) blk j).map vu8)] [] (cs := (decN keys (tabL unsub) blk j).map vu8) rfl Try.isAgg66 Try.sizeOf66 (hS _ (.head _)) rfl rfl rfl rfl) ?_
        refine ZT.q rfl (Wn.no rfl) rfl rfl (fun wq hS => R.move (v := (vi ((10 - j : Nat) : Int))) rfl) ?_
        refine ZT.q rfl (Wn.no rfl) rfl rfl (fun wq hS => R.indexA (b := b_1) (off := 0) (off' := (0 + ((10 - j) * 16))) (i := 10 - j) rfl rfl rfl (by omega) Try.underlying74 Try.sizeOf66 rfl) ?_
        refine ZT.q rfl (Wn.no rfl) rfl rfl (fun wq hS => R.loadEA (b := b_1) (off := (0 + ((10 - j) * 16))) (i := (10 - j) * 16) (xs := ((keys.drop ((10 - j) * 16)).take 16).map vu8) rfl Try.isAgg66 Try.sizeOf66 (hS _ (.tail _ (.tail _ (.tail _ (.tail _ (.tail _ (.head _))))))) Sg.h rfl (by rw [List.map_take, List.map_drop]) (len_map (subLen (K := 176) hks (by omega) : List.length ((keys.drop ((10 - j) * 16)).take 16) = 16))) ?_
        refine ZT.s2 ?_ ?_
        · refine OpZ.one rfl (Wn.no rfl) ?_
          refine WL.call (al := [(.agg ⟨(decN keys (tabL unsub) blk j).map vu8⟩), (.agg ⟨((keys.drop ((10 - j) * 16)).take 16).map vu8⟩)]) Try.call84 rfl rfl (c_xorR (decN keys (tabL unsub) blk j) ((keys.drop ((10 - j) * 16)).take 16) (decN_len hbl _) (subLen (K := 176) hks (by omega) : List.length ((keys.drop ((10 - j) * 16)).take 16) = 16) _ ) rfl ?_
          rintro _ w_40 ⟨rfl, hc_39⟩
          have h_41 := h_37.same hc_39
          refine WL.nil ?_
          refine ⟨(SL.cons (h_41.ok _ (.head _)) (SL.cons (h_41.ok _ (.tail _ (.head _))) (SL.cons (h_41.ok _ (.tail _ (.tail _ (.head _)))) (SL.cons (h_41.ok _ (.tail _ (.tail _ (.tail _ (.head _))))) (SL.cons (h_41.ok _ (.tail _ (.tail _ (.tail _ (.tail _ (.head _)))))) (SL.cons (h_41.ok _ (.tail _ (.tail _ (.tail _ (.tail _ (.tail _ (.head _))))))) (SL.nil _ _))))))), ?_⟩
          refine ZT.s ?_
          refine OpZ.one rfl (Wn.no rfl) ?_
          refine WL.alloc (segs := [(16, (List.replicate 16 (0 : UInt8)).map vu8)]) h_41 (zv Try.typeInfo66 rfl) rfl (SsOk.cons (SOk.u8 (List.length_replicate ..)) SsOk.nil) rfl (fun b_42 w_43 h_44 => ?_)
          refine WL.nil ?_
          refine ⟨(SL.cons (h_44.ok _ (.tail _ (.head _))) (SL.cons (h_44.ok _ (.tail _ (.tail _ (.head _)))) (SL.cons (h_44.ok _ (.tail _ (.tail _ (.tail _ (.head _))))) (SL.cons (h_44.ok _ (.tail _ (.tail _ (.tail _ (.tail _ (.head _)))))) (SL.cons (h_44.ok _ (.tail _ (.tail _ (.tail _ (.tail _ (.tail _ (.head _))))))) (SL.cons (h_44.ok _ (.tail _ (.tail _ (.tail _ (.tail _ (.tail _ (.tail _ (.head _)))))))) (SL.nil _ _))))))), ?_⟩
          refine ZT.s ?_
          refine OpZ.last rfl (Wn.no rfl) ?_
          refine WL.storeA (b := b_42) (off := 0) [] [(16, (List.replicate 16 (0 : UInt8)).map vu8)] [(16, (xorL (decN keys (tabL unsub) blk j) ((keys.drop ((10 - j) * 16)).take 16)).map vu8)] [] (ys := (xorL (decN keys (tabL unsub) blk j) ((keys.drop ((10 - j) * 16)).take 16)).map vu8) h_44 rfl rfl Try.sizeOf66 At.h (by decide) rfl rfl rfl rfl rfl rfl (SsOk.cons (SOk.u8 (xorL_len (decN_len hbl _) (subLen (K := 176) hks (by omega) : List.length ((keys.drop ((10 - j) * 16)).take 16) = 16))) SsOk.nil) (fun w_45 h_46 => ?_)
          refine WL.nil ?_
          refine ZT.nil ?_
          refine thn_n ?_
          exact ⟨b_42, (Ag.upd rfl (Ag.upd rfl (Ag.upd rfl (Ag.upd rfl (Ag.upd rfl (Ag.upd rfl (Ag.refl _ _))))))), ⟨rfl, rfl, rfl, rfl, rfl, rfl, trivial⟩, h_46⟩
        · refine OpZ.one rfl (Wn.no rfl) ?_
          refine WL.alloc (segs := [(16, (List.replicate 16 (0 : UInt8)).map vu8)]) h_37 (zv Try.typeInfo66 rfl) rfl (SsOk.cons (SOk.u8 (List.length_replicate ..)) SsOk.nil) rfl (fun b_47 w_48 h_49 => ?_)
          refine WL.nil ?_
          refine ⟨(SL.cons (h_49.ok _ (.tail _ (.head _))) (SL.cons (h_49.ok _ (.tail _ (.tail _ (.head _)))) (SL.cons (h_49.ok _ (.tail _ (.tail _ (.tail _ (.head _))))) (SL.cons (h_49.ok _ (.tail _ (.tail _ (.tail _ (.tail _ (.head _)))))) (SL.cons (h_49.ok _ (.tail _ (.tail _ (.tail _ (.tail _ (.tail _ (.head _))))))) (SL.cons (h_49.ok _ (.tail _ (.tail _ (.tail _ (.tail _ (.tail _ (.tail _ (.head _)))))))) (SL.nil _ _))))))), ?_⟩
          refine ZT.s ?_
          refine OpZ.one rfl (Wn.no rfl) ?_
          refine WL.call (al := [(.agg ⟨(decN keys (tabL unsub) blk j).map vu8⟩), (.agg ⟨((keys.drop ((10 - j) * 16)).take 16).map vu8⟩)]) Try.call84 rfl rfl (c_xorR (decN keys (tabL unsub) blk j) ((keys.drop ((10 - j) * 16)).take 16) (decN_len hbl _) (subLen (K := 176) hks (by omega) : List.length ((keys.drop ((10 - j) * 16)).take 16) = 16) _ ) rfl ?_
          rintro _ w_51 ⟨rfl, hc_50⟩
          have h_52 := h_49.same hc_50
          refine WL.nil ?_
          refine ⟨(SL.cons (h_52.ok _ (.tail _ (.head _))) (SL.cons (h_52.ok _ (.tail _ (.tail _ (.head _)))) (SL.cons (h_52.ok _ (.tail _ (.tail _ (.tail _ (.head _))))) (SL.cons (h_52.ok _ (.tail _ (.tail _ (.tail _ (.tail _ (.head _)))))) (SL.cons (h_52.ok _ (.tail _ (.tail _ (.tail _ (.tail _ (.tail _ (.head _))))))) (SL.cons (h_52.ok _ (.tail _ (.tail _ (.tail _ (.tail _ (.tail _ (.tail _ (.head _)))))))) (SL.nil _ _))))))), ?_⟩
          refine ZT.s ?_
          refine OpZ.last rfl (Wn.no rfl) ?_
          refine WL.storeA (b := b_47) (off := 0) [] [(16, (List.replicate 16 (0 : UInt8)).map vu8)] [(16, (xorL (decN keys (tabL unsub) blk j) ((keys.drop ((10 - j) * 16)).take 16)).map vu8)] [] (ys := (xorL (decN keys (tabL unsub) blk j) ((keys.drop ((10 - j) * 16)).take 16)).map vu8) h_52 rfl rfl Try.sizeOf66 At.h (by decide) rfl rfl rfl rfl rfl rfl (SsOk.cons (SOk.u8 (xorL_len (decN_len hbl _) (subLen (K := 176) hks (by omega) : List.length ((keys.drop ((10 - j) * 16)).take 16) = 16))) SsOk.nil) (fun w_53 h_54 => ?_)
          refine WL.nil ?_
          refine ZT.nil ?_
          refine thn_n ?_
          exact ⟨b_47, (Ag.upd rfl (Ag.upd rfl (Ag.upd rfl (Ag.upd rfl (Ag.upd rfl (Ag.upd rfl (Ag.refl _ _))))))), ⟨rfl, rfl, rfl, rfl, rfl, rfl, trivial⟩, h_54⟩
      · rintro b_58 J_55 w_56 h_57
        refine thn_n ?_
        refine WP.seq ?_
        refine WP.seq ?_
        refine WP.reg ?_
        refine WL.q (Wn.no rfl) rfl rfl (R.move (v := (vi ((10 - j : Nat) : Int))) rfl) ?_
        refine WL.q (Wn.no rfl) rfl rfl (R.bin (v := (.bool (decide ((((10 - j : Nat) : Int) : Int) < 10)))) rfl rfl (bi_lss (r := decide ((((10 - j : Nat) : Int) : Int) < 10)) rfl)) ?_
        refine WL.nil ?_
        refine thn_n ?_
        refine WP.cond (b := decide ((((10 - j : Nat) : Int) : Int) < 10)) rfl (fun c_59 => ?_) (fun c_59 => ?_)
        · have p_60 := of_decide_eq_true c_59
          refine WP.reg ?_
          refine WL.q (Wn.no rfl) rfl rfl (R.loadA (b := b_58) (off := 0) [] [(16, (xorL (decN keys (tabL unsub) blk j) ((keys.drop ((10 - j) * 16)).take 16)).map vu8)] [] (cs := (xorL (decN keys (tabL unsub) blk j) ((keys.drop ((10 - j) * 16)).take 16)).map vu8) rfl Try.isAgg66 Try.sizeOf66 (h_57.ok _ (.head _)) rfl rfl rfl rfl) ?_
          refine WL.q (Wn.no rfl) rfl rfl (R.buildA (vs := [(0, (vu8 14)), (1, (vu8 11)), (2, (vu8 13)), (3, (vu8 9))]) (cs := ([14, 11, 13, 9] : List UInt8).map vu8) Try.underlying100 Try.sizeOf5 (zv Try.typeInfo100 rfl) rfl rfl) ?_
          refine WL.call (al := [(.agg ⟨(xorL (decN keys (tabL unsub) blk j) ((keys.drop ((10 - j) * 16)).take 16)).map vu8⟩), (.agg ⟨([14, 11, 13, 9] : List UInt8).map vu8⟩)]) Try.call85 rfl rfl (c_mixR (xorL (decN keys (tabL unsub) blk j) ((keys.drop ((10 - j) * 16)).take 16)) ([14, 11, 13, 9] : List UInt8) (xorL_len (decN_len hbl _) (subLen (K := 176) hks (by omega) : List.length ((keys.drop ((10 - j) * 16)).take 16) = 16)) (rfl : List.length ([14, 11, 13, 9] : List UInt8) = 4) _ ) rfl ?_
          rintro _ w_62 ⟨rfl, hc_61⟩
          have h_63 := h_57.same hc_61
          refine WL.storeA (b := b_58) (off := 0) [] [(16, (xorL (decN keys (tabL unsub) blk j) ((keys.drop ((10 - j) * 16)).take 16)).map vu8)] [(16, (mixL (xorL (decN keys (tabL unsub) blk j) ((keys.drop ((10 - j) * 16)).take 16)) ([14, 11, 13, 9] : List UInt8)).map vu8)] [] (ys := (mixL (xorL (decN keys (tabL unsub) blk j) ((keys.drop ((10 - j) * 16)).take 16)) ([14, 11, 13, 9] : List UInt8)).map vu8) h_63 rfl rfl Try.sizeOf66 At.h (by decide) rfl rfl rfl rfl rfl rfl (SsOk.cons (SOk.u8 (mixL_len ..)) SsOk.nil) (fun w_64 h_65 => ?_)
          refine WL.nil ?_
          refine thn_n ?_
          refine WP.seq ?_
          refine WP.reg ?_
          refine WL.q (Wn.no rfl) rfl rfl (R.assign (v := (vi 0)) rfl) ?_
          refine WL.nil ?_
          refine thn_n ?_
          refine WP.block ?_
          refine WP.loopG (G := Nat) [12, 13, 39, 40, 41, 42, 43, 44, 45, 46, 47, 48, 49, 50, 51, 52, 53, 54, 55, 56, 57, 58, 59, 60, 61, 62] (fun c => [(12, (vi ((c : Nat) : Int)))]) (fun c m w1 => HP w w1 [.blk b_58 .nw 66 [(16, (mixL (xorL (decN keys (tabL unsub) blk j) ((keys.drop ((10 - j) * 16)).take 16)) ([14, 11, 13, 9] : List UInt8)).map vu8)], .blk b_25 .nw 66 [(16, (unsN (tabL unsub) (mixL (xorL (decN keys (tabL unsub) blk j) ((keys.drop ((10 - j) * 16)).take 16)) ([14, 11, 13, 9] : List UInt8)) (decN keys (tabL unsub) blk j) (4 * c)).map vu8)], .blk b_13 .nw 72 [(256, (tabL unsub).map vu8)], .blk b_10 .nw 66 [(16, (List.replicate 16 (0 : UInt8)).map vu8)], .blk b_7 .nw 72 [(256, (tabL sub).map vu8)], .blk b_4 .nw 66 [(16, blk.map vu8)], .blk b_1 .nw 74 [(176, keys.map vu8)]] ∧ (c ≤ 4) ∧ m = 4 - c) ⟨0, _, ⟨rfl, trivial⟩, h_65, (by omega), rfl⟩ ?_
          rintro c m_68 J_69 w_66 ⟨h_67, hc, rfl⟩
          refine WP.seq ?_
          refine WP.seq ?_
          refine WP.reg ?_
          refine WL.q (Wn.no rfl) rfl rfl (R.move (v := (vi ((c : Nat) : Int))) rfl) ?_
          refine WL.q (Wn.no rfl) rfl rfl (R.bin (v := (.bool (decide ((((c : Nat) : Int) : Int) < 4)))) rfl rfl (bi_lss (r := decide ((((c : Nat) : Int) : Int) < 4)) rfl)) ?_
          refine WL.nil ?_
          refine thn_n ?_
          refine WP.cond (b := decide ((((c : Nat) : Int) : Int) < 4)) rfl (fun c_70 => ?_) (fun c_70 => ?_)
          · have p_71 := of_decide_eq_true c_70
            refine WP.skip ?_
            refine thn_n ?_
            refine WP.seq ?_
            refine WP.block ?_
            refine WP.seq ?_
            refine WP.reg ?_
            refine WL.q (Wn.no rfl) rfl rfl (R.assign (v := (vi 0)) rfl) ?_
            refine WL.nil ?_
            refine thn_n ?_
            refine WP.block ?_
            refine WP.loopG (G := Nat) [13, 43, 44, 45, 46, 47, 48, 49, 50, 51, 52, 53, 54, 55, 56, 57, 58, 59, 60, 61, 62] (fun r => [(13, (vi ((r : Nat) : Int)))]) (fun r m w1 => HP w w1 [.blk b_58 .nw 66 [(16, (mixL (xorL (decN keys (tabL unsub) blk j) ((keys.drop ((10 - j) * 16)).take 16)) ([14, 11, 13, 9] : List UInt8)).map vu8)], .blk b_25 .nw 66 [(16, (unsN (tabL unsub) (mixL (xorL (decN keys (tabL unsub) blk j) ((keys.drop ((10 - j) * 16)).take 16)) ([14, 11, 13, 9] : List UInt8)) (decN keys (tabL unsub) blk j) (4 * c + r)).map vu8)], .blk b_13 .nw 72 [(256, (tabL unsub).map vu8)], .blk b_10 .nw 66 [(16, (List.replicate 16 (0 : UInt8)).map vu8)], .blk b_7 .nw 72 [(256, (tabL sub).map vu8)], .blk b_4 .nw 66 [(16, blk.map vu8)], .blk b_1 .nw 74 [(176, keys.map vu8)]] ∧ (r ≤ 4) ∧ m = 4 - r) ⟨0, _, ⟨rfl, trivial⟩, h_67, (by omega), rfl⟩ ?_
            rintro r m_74 J_75 w_72 ⟨h_73, hr, rfl⟩
            refine WP.seq ?_
            refine WP.seq ?_
            refine WP.reg ?_
            refine WL.q (Wn.no rfl) rfl rfl (R.move (v := (vi ((r : Nat) : Int))) rfl) ?_
            refine WL.q (Wn.no rfl) rfl rfl (R.bin (v := (.bool (decide ((((r : Nat) : Int) : Int) < 4)))) rfl rfl (bi_lss (r := decide ((((r : Nat) : Int) : Int) < 4)) rfl)) ?_
            refine WL.nil ?_
            refine thn_n ?_
            refine WP.cond (b := decide ((((r : Nat) : Int) : Int) < 4)) rfl (fun c_76 => ?_) (fun c_76 => ?_)
            · have p_77 := of_decide_eq_true c_76
              refine WP.skip ?_
              refine thn_n ?_
              refine WP.seq ?_
              refine WP.block ?_
              refine WP.reg ?_
              refine WL.q (Wn.no rfl) rfl rfl (R.move (v := (vi ((c : Nat) : Int))) rfl) ?_
              refine WL.q (Wn.no rfl) rfl rfl (R.move (v := (vi ((r : Nat) : Int))) rfl) ?_
              refine WL.q (Wn.no rfl) rfl rfl (R.bin (v := (vi ((c + r : Nat) : Int))) rfl rfl (bi_add (c := ((c + r : Nat) : Int)) (by omega) (by omega))) ?_
              refine WL.q (Wn.no rfl) rfl rfl (R.bin (v := (vi (((c + r) % 4 : Nat) : Int))) rfl rfl (bi_rem (c := (((c + r) % 4 : Nat) : Int)) (Int.natCast_nonneg _) (by omega) (by first | omega | rfl))) ?_
              refine WL.q (Wn.no rfl) rfl rfl (R.bin (v := (vi ((4 * ((c + r) % 4) : Nat) : Int))) rfl rfl (bi_mul (c := ((4 * ((c + r) % 4) : Nat) : Int)) (by omega) (by omega))) ?_
              refine WL.q (Wn.no rfl) rfl rfl (R.move (v := (vi ((r : Nat) : Int))) rfl) ?_
              refine WL.q (Wn.no rfl) rfl rfl (R.bin (v := (vi ((4 * ((c + r) % 4) + r : Nat) : Int))) rfl rfl (bi_add (c := ((4 * ((c + r) % 4) + r : Nat) : Int)) (by omega) (by omega))) ?_
              refine WL.q (Wn.no rfl) rfl rfl (R.move (v := (vi ((c : Nat) : Int))) rfl) ?_
              refine WL.q (Wn.no rfl) rfl rfl (R.bin (v := (vi ((4 * c : Nat) : Int))) rfl rfl (bi_mul (c := ((4 * c : Nat) : Int)) (by omega) (by omega))) ?_
              refine WL.q (Wn.no rfl) rfl rfl (R.move (v := (vi ((r : Nat) : Int))) rfl) ?_
              refine WL.q (Wn.no rfl) rfl rfl (R.bin (v := (vi ((4 * c + r : Nat) : Int))) rfl rfl (bi_add (c := ((4 * c + r : Nat) : Int)) (by omega) (by omega))) ?_
              refine WL.q (Wn.no rfl) rfl rfl (R.indexA (b := b_58) (off := 0) (off' := (0 + (4 * c + r))) (i := 4 * c + r) rfl rfl rfl (by omega) Try.underlying66 Try.sizeOf5 (by rw [Nat.mul_one])) ?_
              refine WL.q (Wn.no rfl) rfl rfl (R.loadE (b := b_58) (off := (0 + (4 * c + r))) (i := 4 * c + r) (v := (vu8 ((mixL (xorL (decN keys (tabL unsub) blk j) ((keys.drop ((10 - j) * 16)).take 16)) ([14, 11, 13, 9] : List UInt8)).getD (4 * c + r) 0))) rfl Try.isAgg5 (h_73.ok _ (.head _)) Sg.h rfl (get_u8 (lt_len (K := 16) (mixL_len ..) (by omega)))) ?_
              refine WL.q (Wn.no rfl) rfl rfl (R.indexA (b := b_13) (off := 0) (off' := (0 + (((mixL (xorL (decN keys (tabL unsub) blk j) ((keys.drop ((10 - j) * 16)).take 16)) ([14, 11, 13, 9] : List UInt8)).getD (4 * c + r) 0).toNat))) (i := ((mixL (xorL (decN keys (tabL unsub) blk j) ((keys.drop ((10 - j) * 16)).take 16)) ([14, 11, 13, 9] : List UInt8)).getD (4 * c + r) 0).toNat) rfl rfl rfl (UInt8.toNat_lt _) Try.underlying72 Try.sizeOf5 (by rw [Nat.mul_one])) ?_
              refine WL.q (Wn.no rfl) rfl rfl (R.loadE (b := b_13) (off := (0 + (((mixL (xorL (decN keys (tabL unsub) blk j) ((keys.drop ((10 - j) * 16)).take 16)) ([14, 11, 13, 9] : List UInt8)).getD (4 * c + r) 0).toNat))) (i := ((mixL (xorL (decN keys (tabL unsub) blk j) ((keys.drop ((10 - j) * 16)).take 16)) ([14, 11, 13, 9] : List UInt8)).getD (4 * c + r) 0).toNat) (v := (vu8 ((tabL unsub).getD (((mixL (xorL (decN keys (tabL unsub) blk j) ((keys.drop ((10 - j) * 16)).take 16)) ([14, 11, 13, 9] : List UInt8)).getD (4 * c + r) 0).toNat) 0))) rfl Try.isAgg5 (h_73.ok _ (.tail _ (.tail _ (.head _)))) Sg.h rfl (get_u8 (lt_len (K := 256) (tabL_len unsub) (UInt8.toNat_lt _)))) ?_
              refine WL.q (Wn.no rfl) rfl rfl (R.indexA (b := b_25) (off := 0) (off' := (0 + (4 * ((c + r) % 4) + r))) (i := 4 * ((c + r) % 4) + r) rfl rfl rfl (by omega) Try.underlying66 Try.sizeOf5 (by rw [Nat.mul_one])) ?_
              refine WL.storeE (b := b_25) (off := (0 + (4 * ((c + r) % 4) + r))) (i := 4 * ((c + r) % 4) + r) (v := (vu8 ((tabL unsub).getD (((mixL (xorL (decN keys (tabL unsub) blk j) ((keys.drop ((10 - j) * 16)).take 16)) ([14, 11, 13, 9] : List UInt8)).getD (4 * c + r) 0).toNat) 0))) (cs' := ((unsN (tabL unsub) (mixL (xorL (decN keys (tabL unsub) blk j) ((keys.drop ((10 - j) * 16)).take 16)) ([14, 11, 13, 9] : List UInt8)) (decN keys (tabL unsub) blk j) (4 * c + r)).set (4 * ((c + r) % 4) + r) ((tabL unsub).getD (((mixL (xorL (decN keys (tabL unsub) blk j) ((keys.drop ((10 - j) * 16)).take 16)) ([14, 11, 13, 9] : List UInt8)).getD (4 * c + r) 0).toNat) 0)).map vu8) h_73 rfl rfl Try.sizeOf5 rfl (At.t At.h) (by decide) Sg.h rfl (lt_len (K := 16) (len_map (by rw [unsN_len, decN_len hbl])) (by omega)) (set_u8 _ _ _) (fun w_78 h_79 => ?_)
              refine WL.nil ?_
              refine inb_n ?_
              refine thn_n ?_
              refine WP.reg ?_
              refine WL.q (Wn.no rfl) rfl rfl (R.move (v := (vi ((r : Nat) : Int))) rfl) ?_
              refine WL.q (Wn.no rfl) rfl rfl (R.bin (v := (vi ((r + 1 : Nat) : Int))) rfl rfl (bi_add (c := ((r + 1 : Nat) : Int)) (by omega) (by omega))) ?_
              refine WL.q (Wn.no rfl) rfl rfl (R.assign (v := (vi ((r + 1 : Nat) : Int))) rfl) ?_
              refine WL.nil ?_
              refine thn_n ?_
              rw [uns_cr (tb := (tabL unsub)) (by omega) (by omega)] at h_79
              exact ⟨r + 1, _, (by omega), (Ag.upd rfl (Ag.upd rfl (Ag.upd rfl (Ag.upd rfl (Ag.upd rfl (Ag.upd rfl (Ag.upd rfl (Ag.upd rfl (Ag.upd rfl (Ag.upd rfl (Ag.upd rfl (Ag.upd rfl (Ag.upd rfl (Ag.upd rfl (Ag.upd rfl (Ag.upd rfl (Ag.upd rfl (Ag.upd rfl (Ag.upd rfl (Ag.upd rfl (Ag.upd rfl (Ag.updL rfl (Ag.mix _ _ _))))))))))))))))))))))), ⟨rfl, trivial⟩, h_79, (by omega), rfl⟩
            · have p_80 := of_decide_eq_false c_76
              refine WP.exit ?_
              refine thn_x ?_
              refine thn_x ?_
              refine inb_hit ?_
              refine inb_n ?_
              refine thn_n ?_
              refine WP.reg ?_
              refine WL.q (Wn.no rfl) rfl rfl (R.move (v := (vi ((c : Nat) : Int))) rfl) ?_
              refine WL.q (Wn.no rfl) rfl rfl (R.bin (v := (vi ((c + 1 : Nat) : Int))) rfl rfl (bi_add (c := ((c + 1 : Nat) : Int)) (by omega) (by omega))) ?_
              refine WL.q (Wn.no rfl) rfl rfl (R.assign (v := (vi ((c + 1 : Nat) : Int))) rfl) ?_
              refine WL.nil ?_
              refine thn_n ?_
              have hr4 : r = 4 := by omega
              subst hr4
              rw [show 4 * c + 4 = 4 * (c + 1) by omega] at h_73
              exact ⟨c + 1, _, (by omega), (Ag.upd rfl (Ag.upd rfl (Ag.upd rfl (Ag.upd rfl (Ag.upd rfl (Ag.updL rfl (Ag.trans (Ag.sub rfl (Ag.mix _ _ _)) (Ag.upd rfl (Ag.upd rfl (Ag.upd rfl (Ag.updL rfl (Ag.mix _ _ _)))))))))))), ⟨rfl, trivial⟩, h_73, (by omega), rfl⟩
          · have p_81 := of_decide_eq_false c_70
            refine WP.exit ?_
            refine thn_x ?_
            refine thn_x ?_
            refine inb_hit ?_
            refine inb_n ?_
            refine thn_n ?_
            refine WP.reg ?_
            refine WL.q (Wn.no rfl) rfl rfl (R.move (v := (vi ((10 - j : Nat) : Int))) rfl) ?_
            refine WL.q (Wn.no rfl) rfl rfl (R.bin (v := (vi ((10 - j - 1 : Nat) : Int))) rfl rfl (bi_sub (c := ((10 - j - 1 : Nat) : Int)) (by omega) (by omega))) ?_
            refine WL.q (Wn.no rfl) rfl rfl (R.assign (v := (vi ((10 - j - 1 : Nat) : Int))) rfl) ?_
            refine WL.nil ?_
            refine thn_n ?_
            have hc4 : c = 4 := by omega
            subst hc4
            have h_82 := h_67.drop rfl
            have es : unsN (tabL unsub) (mixL (xorL (decN keys (tabL unsub) blk j) ((keys.drop ((10 - j) * 16)).take 16)) ([14, 11, 13, 9] : List UInt8)) (decN keys (tabL unsub) blk j) (4 * 4) = decN keys (tabL unsub) blk (j + 1) := by rw [Ax.decN, if_pos (by omega)]; rfl
            rw [es] at h_82
            exact ⟨j + 1, _, (by omega), (Ag.upd rfl (Ag.upd rfl (Ag.upd rfl (Ag.upd rfl (Ag.upd rfl (Ag.updL rfl (Ag.trans (Ag.sub rfl (Ag.mix _ _ _)) (Ag.upd rfl (Ag.upd rfl (Ag.upd rfl (Ag.upd rfl (Ag.upd rfl (Ag.upd rfl (Ag.updL rfl (Ag.trans (Ag.sub rfl (Ag.mix _ _ _)) (Ag.upd rfl (Ag.upd rfl (Ag.updL rfl (Ag.mix _ _ _))))))))))))))))))), ⟨congrArg vi (by omega), trivial⟩, h_82, (by omega), rfl⟩
        · have p_83 := of_decide_eq_false c_59
          refine WP.skip ?_
          refine thn_n ?_
          refine WP.seq ?_
          refine WP.reg ?_
          refine WL.q (Wn.no rfl) rfl rfl (R.assign (v := (vi 0)) rfl) ?_
          refine WL.nil ?_
          refine thn_n ?_
          refine WP.block ?_
          refine WP.loopG (G := Nat) [12, 13, 39, 40, 41, 42, 43, 44, 45, 46, 47, 48, 49, 50, 51, 52, 53, 54, 55, 56, 57, 58, 59, 60, 61, 62] (fun c => [(12, (vi ((c : Nat) : Int)))]) (fun c m w1 => HP w w1 [.blk b_58 .nw 66 [(16, (xorL (decN keys (tabL unsub) blk j) ((keys.drop ((10 - j) * 16)).take 16)).map vu8)], .blk b_25 .nw 66 [(16, (unsN (tabL unsub) (xorL (decN keys (tabL unsub) blk j) ((keys.drop ((10 - j) * 16)).take 16)) (decN keys (tabL unsub) blk j) (4 * c)).map vu8)], .blk b_13 .nw 72 [(256, (tabL unsub).map vu8)], .blk b_10 .nw 66 [(16, (List.replicate 16 (0 : UInt8)).map vu8)], .blk b_7 .nw 72 [(256, (tabL sub).map vu8)], .blk b_4 .nw 66 [(16, blk.map vu8)], .blk b_1 .nw 74 [(176, keys.map vu8)]] ∧ (c ≤ 4) ∧ m = 4 - c) ⟨0, _, ⟨rfl, trivial⟩, h_57, (by omega), rfl⟩ ?_
          rintro c m_86 J_87 w_84 ⟨h_85, hc, rfl⟩
          refine WP.seq ?_
          refine WP.seq ?_
          refine WP.reg ?_
          refine WL.q (Wn.no rfl) rfl rfl (R.move (v := (vi ((c : Nat) : Int))) rfl) ?_
          refine WL.q (Wn.no rfl) rfl rfl (R.bin (v := (.bool (decide ((((c : Nat) : Int) : Int) < 4)))) rfl rfl (bi_lss (r := decide ((((c : Nat) : Int) : Int) < 4)) rfl)) ?_
          refine WL.nil ?_
          refine thn_n ?_
          refine WP.cond (b := decide ((((c : Nat) : Int) : Int) < 4)) rfl (fun c_88 => ?_) (fun c_88 => ?_)
          · have p_89 := of_decide_eq_true c_88
            refine WP.skip ?_
            refine thn_n ?_
            refine WP.seq ?_
            refine WP.block ?_
            refine WP.seq ?_
            refine WP.reg ?_
            refine WL.q (Wn.no rfl) rfl rfl (R.assign (v := (vi 0)) rfl) ?_
            refine WL.nil ?_
            refine thn_n ?_
            refine WP.block ?_
            refine WP.loopG (G := Nat) [13, 43, 44, 45, 46, 47, 48, 49, 50, 51, 52, 53, 54, 55, 56, 57, 58, 59, 60, 61, 62] (fun r => [(13, (vi ((r : Nat) : Int)))]) (fun r m w1 => HP w w1 [.blk b_58 .nw 66 [(16, (xorL (decN keys (tabL unsub) blk j) ((keys.drop ((10 - j) * 16)).take 16)).map vu8)], .blk b_25 .nw 66 [(16, (unsN (tabL unsub) (xorL (decN keys (tabL unsub) blk j) ((keys.drop ((10 - j) * 16)).take 16)) (decN keys (tabL unsub) blk j) (4 * c + r)).map vu8)], .blk b_13 .nw 72 [(256, (tabL unsub).map vu8)], .blk b_10 .nw 66 [(16, (List.replicate 16 (0 : UInt8)).map vu8)], .blk b_7 .nw 72 [(256, (tabL sub).map vu8)], .blk b_4 .nw 66 [(16, blk.map vu8)], .blk b_1 .nw 74 [(176, keys.map vu8)]] ∧ (r ≤ 4) ∧ m = 4 - r) ⟨0, _, ⟨rfl, trivial⟩, h_85, (by omega), rfl⟩ ?_
            rintro r m_92 J_93 w_90 ⟨h_91, hr, rfl⟩
            refine WP.seq ?_
            refine WP.seq ?_
            refine WP.reg ?_
            refine WL.q (Wn.no rfl) rfl rfl (R.move (v := (vi ((r : Nat) : Int))) rfl) ?_
            refine WL.q (Wn.no rfl) rfl rfl (R.bin (v := (.bool (decide ((((r : Nat) : Int) : Int) < 4)))) rfl rfl (bi_lss (r := decide ((((r : Nat) : Int) : Int) < 4)) rfl)) ?_
            refine WL.nil ?_
            refine thn_n ?_
            refine WP.cond (b := decide ((((r : Nat) : Int) : Int) < 4)) rfl (fun c_94 => ?_) (fun c_94 => ?_)
            · have p_95 := of_decide_eq_true c_94
              refine WP.skip ?_
              refine thn_n ?_
              refine WP.seq ?_
              refine WP.block ?_
              refine WP.reg ?_
              refine WL.q (Wn.no rfl) rfl rfl (R.move (v := (vi ((c : Nat) : Int))) rfl) ?_
              refine WL.q (Wn.no rfl) rfl rfl (R.move (v := (vi ((r : Nat) : Int))) rfl) ?_
              refine WL.q (Wn.no rfl) rfl rfl (R.bin (v := (vi ((c + r : Nat) : Int))) rfl rfl (bi_add (c := ((c + r : Nat) : Int)) (by omega) (by omega))) ?_
              refine WL.q (Wn.no rfl) rfl rfl (R.bin (v := (vi (((c + r) % 4 : Nat) : Int))) rfl rfl (bi_rem (c := (((c + r) % 4 : Nat) : Int)) (Int.natCast_nonneg _) (by omega) (by first | omega | rfl))) ?_
              refine WL.q (Wn.no rfl) rfl rfl (R.bin (v := (vi ((4 * ((c + r) % 4) : Nat) : Int))) rfl rfl (bi_mul (c := ((4 * ((c + r) % 4) : Nat) : Int)) (by omega) (by omega))) ?_
              refine WL.q (Wn.no rfl) rfl rfl (R.move (v := (vi ((r : Nat) : Int))) rfl) ?_
              refine WL.q (Wn.no rfl) rfl rfl (R.bin (v := (vi ((4 * ((c + r) % 4) + r : Nat) : Int))) rfl rfl (bi_add (c := ((4 * ((c + r) % 4) + r : Nat) : Int)) (by omega) (by omega))) ?_
              refine WL.q (Wn.no rfl) rfl rfl (R.move (v := (vi ((c : Nat) : Int))) rfl) ?_
              refine WL.q (Wn.no rfl) rfl rfl (R.bin (v := (vi ((4 * c : Nat) : Int))) rfl rfl (bi_mul (c := ((4 * c : Nat) : Int)) (by omega) (by omega))) ?_
              refine WL.q (Wn.no rfl) rfl rfl (R.move (v := (vi ((r : Nat) : Int))) rfl) ?_
              refine WL.q (Wn.no rfl) rfl rfl (R.bin (v := (vi ((4 * c + r : Nat) : Int))) rfl rfl (bi_add (c := ((4 * c + r : Nat) : Int)) (by omega) (by omega))) ?_
              refine WL.q (Wn.no rfl) rfl rfl (R.indexA (b := b_58) (off := 0) (off' := (0 + (4 * c + r))) (i := 4 * c + r) rfl rfl rfl (by omega) Try.underlying66 Try.sizeOf5 (by rw [Nat.mul_one])) ?_
              refine WL.q (Wn.no rfl) rfl rfl (R.loadE (b := b_58) (off := (0 + (4 * c + r))) (i := 4 * c + r) (v := (vu8 ((xorL (decN keys (tabL unsub) blk j) ((keys.drop ((10 - j) * 16)).take 16)).getD (4 * c + r) 0))) rfl Try.isAgg5 (h_91.ok _ (.head _)) Sg.h rfl (get_u8 (lt_len (K := 16) (xorL_len (decN_len hbl _) (subLen (K := 176) hks (by omega) : List.length ((keys.drop ((10 - j) * 16)).take 16) = 16)) (by omega)))) ?_
              refine WL.q (Wn.no rfl) rfl rfl (R.indexA (b := b_13) (off := 0) (off' := (0 + (((xorL (decN keys (tabL unsub) blk j) ((keys.drop ((10 - j) * 16)).take 16)).getD (4 * c + r) 0).toNat))) (i := ((xorL (decN keys (tabL unsub) blk j) ((keys.drop ((10 - j) * 16)).take 16)).getD (4 * c + r) 0).toNat) rfl rfl rfl (UInt8.toNat_lt _) Try.underlying72 Try.sizeOf5 (by rw [Nat.mul_one])) ?_
              refine WL.q (Wn.no rfl) rfl rfl (R.loadE (b := b_13) (off := (0 + (((xorL (decN keys (tabL unsub) blk j) ((keys.drop ((10 - j) * 16)).take 16)).getD (4 * c + r) 0).toNat))) (i := ((xorL (decN keys (tabL unsub) blk j) ((keys.drop ((10 - j) * 16)).take 16)).getD (4 * c + r) 0).toNat) (v := (vu8 ((tabL unsub).getD (((xorL (decN keys (tabL unsub) blk j) ((keys.drop ((10 - j) * 16)).take 16)).getD (4 * c + r) 0).toNat) 0))) rfl Try.isAgg5 (h_91.ok _ (.tail _ (.tail _ (.head _)))) Sg.h rfl (get_u8 (lt_len (K := 256) (tabL_len unsub) (UInt8.toNat_lt _)))) ?_
              refine WL.q (Wn.no rfl) rfl rfl (R.indexA (b := b_25) (off := 0) (off' := (0 + (4 * ((c + r) % 4) + r))) (i := 4 * ((c + r) % 4) + r) rfl rfl rfl (by omega) Try.underlying66 Try.sizeOf5 (by rw [Nat.mul_one])) ?_
              refine WL.storeE (b := b_25) (off := (0 + (4 * ((c + r) % 4) + r))) (i := 4 * ((c + r) % 4) + r) (v := (vu8 ((tabL unsub).getD (((xorL (decN keys (tabL unsub) blk j) ((keys.drop ((10 - j) * 16)).take 16)).getD (4 * c + r) 0).toNat) 0))) (cs' := ((unsN (tabL unsub) (xorL (decN keys (tabL unsub) blk j) ((keys.drop ((10 - j) * 16)).take 16)) (decN keys (tabL unsub) blk j) (4 * c + r)).set (4 * ((c + r) % 4) + r) ((tabL unsub).getD (((xorL (decN keys (tabL unsub) blk j) ((keys.drop ((10 - j) * 16)).take 16)).getD (4 * c + r) 0).toNat) 0)).map vu8) h_91 rfl rfl Try.sizeOf5 rfl (At.t At.h) (by decide) Sg.h rfl (lt_len (K := 16) (len_map (by rw [unsN_len, decN_len hbl])) (by omega)) (set_u8 _ _ _) (fun w_96 h_97 => ?_)
              refine WL.nil ?_
              refine inb_n ?_
              refine thn_n ?_
              refine WP.reg ?_
              refine WL.q (Wn.no rfl) rfl rfl (R.move (v := (vi ((r : Nat) : Int))) rfl) ?_
              refine WL.q (Wn.no rfl) rfl rfl (R.bin (v := (vi ((r + 1 : Nat) : Int))) rfl rfl (bi_add (c := ((r + 1 : Nat) : Int)) (by omega) (by omega))) ?_
              refine WL.q (Wn.no rfl) rfl rfl (R.assign (v := (vi ((r + 1 : Nat) : Int))) rfl) ?_
              refine WL.nil ?_
              refine thn_n ?_
              rw [uns_cr (tb := (tabL unsub)) (by omega) (by omega)] at h_97
              exact ⟨r + 1, _, (by omega), (Ag.upd rfl (Ag.upd rfl (Ag.upd rfl (Ag.upd rfl (Ag.upd rfl (Ag.upd rfl (Ag.upd rfl (Ag.upd rfl (Ag.upd rfl (Ag.upd rfl (Ag.upd rfl (Ag.upd rfl (Ag.upd rfl (Ag.upd rfl (Ag.upd rfl (Ag.upd rfl (Ag.upd rfl (Ag.upd rfl (Ag.upd rfl (Ag.upd rfl (Ag.upd rfl (Ag.updL rfl (Ag.mix _ _ _))))))))))))))))))))))), ⟨rfl, trivial⟩, h_97, (by omega), rfl⟩
            · have p_98 := of_decide_eq_false c_94
              refine WP.exit ?_
              refine thn_x ?_
              refine thn_x ?_
              refine inb_hit ?_
              refine inb_n ?_
              refine thn_n ?_
              refine WP.reg ?_
              refine WL.q (Wn.no rfl) rfl rfl (R.move (v := (vi ((c : Nat) : Int))) rfl) ?_
              refine WL.q (Wn.no rfl) rfl rfl (R.bin (v := (vi ((c + 1 : Nat) : Int))) rfl rfl (bi_add (c := ((c + 1 : Nat) : Int)) (by omega) (by omega))) ?_
              refine WL.q (Wn.no rfl) rfl rfl (R.assign (v := (vi ((c + 1 : Nat) : Int))) rfl) ?_
              refine WL.nil ?_
              refine thn_n ?_
              have hr4 : r = 4 := by omega
              subst hr4
              rw [show 4 * c + 4 = 4 * (c + 1) by omega] at h_91
              exact ⟨c + 1, _, (by omega), (Ag.upd rfl (Ag.upd rfl (Ag.upd rfl (Ag.upd rfl (Ag.upd rfl (Ag.updL rfl (Ag.trans (Ag.sub rfl (Ag.mix _ _ _)) (Ag.upd rfl (Ag.upd rfl (Ag.upd rfl (Ag.updL rfl (Ag.mix _ _ _)))))))))))), ⟨rfl, trivial⟩, h_91, (by omega), rfl⟩
          · have p_99 := of_decide_eq_false c_88
            refine WP.exit ?_
            refine thn_x ?_
            refine thn_x ?_
            refine inb_hit ?_
            refine inb_n ?_
            refine thn_n ?_
            refine WP.reg ?_
            refine WL.q (Wn.no rfl) rfl rfl (R.move (v := (vi ((10 - j : Nat) : Int))) rfl) ?_
            refine WL.q (Wn.no rfl) rfl rfl (R.bin (v := (vi ((10 - j - 1 : Nat) : Int))) rfl rfl (bi_sub (c := ((10 - j - 1 : Nat) : Int)) (by omega) (by omega))) ?_
            refine WL.q (Wn.no rfl) rfl rfl (R.assign (v := (vi ((10 - j - 1 : Nat) : Int))) rfl) ?_
            refine WL.nil ?_
            refine thn_n ?_
            have hc4 : c = 4 := by omega
            subst hc4
            have h_100 := h_85.drop rfl
            have es : unsN (tabL unsub) (xorL (decN keys (tabL unsub) blk j) ((keys.drop ((10 - j) * 16)).take 16)) (decN keys (tabL unsub) blk j) (4 * 4) = decN keys (tabL unsub) blk (j + 1) := by rw [Ax.decN, if_neg (by omega)]; rfl
            rw [es] at h_100
            exact ⟨j + 1, _, (by omega), (Ag.upd rfl (Ag.upd rfl (Ag.upd rfl (Ag.upd rfl (Ag.upd rfl (Ag.updL rfl (Ag.trans (Ag.sub rfl (Ag.mix _ _ _)) (Ag.upd rfl (Ag.upd rfl (Ag.upd rfl (Ag.updL rfl (Ag.trans (Ag.sub rfl (Ag.mix _ _ _)) (Ag.upd rfl (Ag.upd rfl (Ag.updL rfl (Ag.mix _ _ _)))))))))))))))), ⟨congrArg vi (by omega), trivial⟩, h_100, (by omega), rfl⟩
    · have p_101 := of_decide_eq_false c_34
      refine WP.exit ?_
      refine thn_x ?_
      refine thn_x ?_
      refine inb_hit ?_
      refine thn_n ?_
      refine WP.seq ?_
      refine WP.reg ?_
      refine WL.q (Wn.no rfl) rfl rfl (R.loadA (b := b_25) (off := 0) [] [(16, (decN keys (tabL unsub) blk j).map vu8)] [] (cs := (decN keys (tabL unsub) blk j).map vu8) rfl Try.isAgg66 Try.sizeOf66 (h_31.ok _ (.head _)) rfl rfl rfl rfl) ?_
      refine WL.q (Wn.no rfl) rfl rfl (R.indexA (b := b_1) (off := 0) (off' := 0) (i := 0) rfl rfl rfl (by decide) Try.underlying74 Try.sizeOf66 rfl) ?_
      refine WL.q (Wn.no rfl) rfl rfl (R.loadEA (b := b_1) (off := 0) (i := 0) (xs := ((keys.drop 0).take 16).map vu8) rfl Try.isAgg66 Try.sizeOf66 (h_31.ok _ (.tail _ (.tail _ (.tail _ (.tail _ (.tail _ (.head _))))))) Sg.h rfl (by rw [List.map_take, List.map_drop]) (len_map (subLen (K := 176) hks (by omega) : List.length ((keys.drop 0).take 16) = 16))) ?_
      refine WL.call (al := [(.agg ⟨(decN keys (tabL unsub) blk j).map vu8⟩), (.agg ⟨((keys.drop 0).take 16).map vu8⟩)]) Try.call84 rfl rfl (c_xorR (decN keys (tabL unsub) blk j) ((keys.drop 0).take 16) (decN_len hbl _) (subLen (K := 176) hks (by omega) : List.length ((keys.drop 0).take 16) = 16) _ ) rfl ?_
      rintro _ w_103 ⟨rfl, hc_102⟩
      have h_104 := h_31.same hc_102
      refine WL.storeA (b := b_10) (off := 0) [] [(16, (List.replicate 16 (0 : UInt8)).map vu8)] [(16, (xorL (decN keys (tabL unsub) blk j) ((keys.drop 0).take 16)).map vu8)] [] (ys := (xorL (decN keys (tabL unsub) blk j) ((keys.drop 0).take 16)).map vu8) h_104 rfl rfl Try.sizeOf66 (At.t (At.t At.h)) (by decide) rfl rfl rfl rfl rfl rfl (SsOk.cons (SOk.u8 (xorL_len (decN_len hbl _) (subLen (K := 176) hks (by omega) : List.length ((keys.drop 0).take 16) = 16))) SsOk.nil) (fun w_105 h_106 => ?_)
      refine WL.nil ?_
      refine thn_n ?_
      refine WP.ret ?_
      refine ret_of Try.results63 (RV.cell rfl (h_106.loadA (cs := (xorL (decN keys (tabL unsub) blk j) ((keys.drop 0).take 16)).map vu8) Try.isAgg66 Try.sizeOf66 (.tail _ (.tail _ (.head _))) rfl rfl) RV.nil) ?_
      have hj10 : j = 10 := by omega
      subst hj10
      exact ⟨rfl, h_106.chgS⟩
end Go.Proofs.Ytcmgadjnammahaa
