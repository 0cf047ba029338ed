/- Digests: contracts. Conditions: those that each theorem states. -/
import Derived.Test.YtelkjcigdhgcoaaP7
namespace Go.Proofs.Ytelkjcigdhgcoaa
open Go.Vc Go.Sh Go.RowKit
set_option linter.unusedVariables false
set_option linter.unusedSimpArgs false
set_option maxRecDepth 20000

theorem c_HSum_nil  (w : World) :
    Cs Try.prog 31 [(.pointer none)].toArray w (fun v w1 => v = (.tuple [(.agg ⟨(List.replicate 32 (0 : UInt8)).map vu8⟩), (vi 1)].toArray) ∧ Chg w w1 []) := by
  refine Cs.of (n := 44) (args := [(.pointer none)]) Try.func31 rfl rfl rfl ?_
  have h_0 := HP.init w
  refine WP.seq ?_
  refine WP.reg ?_
  refine WL.alloc (segs := [(32, (List.replicate 32 (0 : UInt8)).map vu8)]) h_0 (zv Try.typeInfo28 rfl) rfl (SsOk.cons (SOk.u8 (List.length_replicate ..)) SsOk.nil) rfl (fun b_1 w_2 h_3 => ?_)
  refine WL.q (Wn.no rfl) rfl rfl (R.assign (v := (vi 0)) rfl) ?_
  refine WL.nil ?_
  refine thn_n ?_
  refine WP.seq ?_
  refine WP.reg ?_
  refine WL.q (Wn.no rfl) rfl rfl (R.move (v := (.pointer none)) rfl) ?_
  refine WL.call (al := [(.pointer none)]) Try.call33 rfl rfl (c_Copy_nil  _ ) rfl ?_
  rintro _ w_5 ⟨rfl, hc_4⟩
  have h_6 := h_3.same hc_4
  refine WL.q (Wn.no rfl) rfl rfl (R.assign (v := (.pointer none)) rfl) ?_
  refine WL.nil ?_
  refine thn_n ?_
  refine WP.seq ?_
  refine WP.seq ?_
  refine WP.reg ?_
  refine WL.q (Wn.no rfl) rfl rfl (R.move (v := (.pointer none)) rfl) ?_
  refine WL.q (Wn.no rfl) rfl rfl (R.eqNilP rfl rfl Try.underlying42) ?_
  refine WL.nil ?_
  refine thn_n ?_
  refine WP.condT rfl ?_
  refine WP.seq ?_
  refine WP.reg ?_
  refine WL.q (Wn.no rfl) rfl rfl (R.buildA (vs := []) (cs := (List.replicate 32 (0 : UInt8)).map vu8) Try.underlying28 Try.sizeOf5 (zv Try.typeInfo28 rfl) rfl rfl) ?_
  refine WL.storeA (b := b_1) (off := 0) [] [(32, (List.replicate 32 (0 : UInt8)).map vu8)] [(32, (List.replicate 32 (0 : UInt8)).map vu8)] [] (ys := (List.replicate 32 (0 : UInt8)).map vu8) h_6 rfl rfl Try.sizeOf28 At.h (by decide) rfl rfl rfl rfl rfl rfl (SsOk.cons (SOk.u8 (List.length_replicate ..)) SsOk.nil) (fun w_7 h_8 => ?_)
  refine WL.q (Wn.no rfl) rfl rfl (R.assign (v := (vi 1)) rfl) ?_
  refine WL.nil ?_
  refine thn_n ?_
  refine WP.ret ?_
  refine thn_r ?_
  refine ret_of Try.results31 (RV.cell rfl (h_8.loadA (cs := (List.replicate 32 (0 : UInt8)).map vu8) Try.isAgg28 Try.sizeOf28 (.head _) rfl rfl) (RV.tmp (v := (vi 1)) rfl RV.nil)) ?_
  exact ⟨rfl, h_8.chgS⟩

theorem c_HSum_false (kk hh : List UInt32) (hkk : kk.length = 64) (hhl : hh.length = 8) (ra : Option Addr) (rn rc nn : Nat) (bc : Nat) (w : World) (hcb : (Ent.blk bc .ro 55 [(64, kk.map vu32), (8, hh.map vu32), (1, [(.slice ra rn rc)]), (1, [(vi ((nn : Nat) : Int))]), (1, [(.bool false)])]).ok w.heap.size w) :
    Cs Try.prog 31 [(.pointer (some ⟨bc, 0, none⟩))].toArray w (fun v w1 => v = (.tuple [(.agg ⟨(List.replicate 32 (0 : UInt8)).map vu8⟩), (vi 1)].toArray) ∧ Chg w w1 []) := by
  refine Cs.of (n := 44) (args := [(.pointer (some ⟨bc, 0, none⟩))]) Try.func31 rfl rfl rfl ?_
  have h_0 := HP.init w
  have h_00 := h_0.old hcb (fun f hf => by cases hf)
  refine WP.seq ?_
  refine WP.reg ?_
  refine WL.alloc (segs := [(32, (List.replicate 32 (0 : UInt8)).map vu8)]) h_00 (zv Try.typeInfo28 rfl) rfl (SsOk.cons (SOk.u8 (List.length_replicate ..)) SsOk.nil) rfl (fun b_1 w_2 h_3 => ?_)
  refine WL.q (Wn.no rfl) rfl rfl (R.assign (v := (vi 0)) rfl) ?_
  refine WL.nil ?_
  refine thn_n ?_
  refine WP.seq ?_
  refine WP.reg ?_
  refine WL.q (Wn.no rfl) rfl rfl (R.move (v := (.pointer (some ⟨bc, 0, none⟩))) rfl) ?_
  refine WL.call (al := [(.pointer (some ⟨bc, 0, none⟩))]) Try.call33 rfl rfl (c_Copy_false kk hh hkk hhl ra rn rc nn bc _ (h_3.argR (.tail _ (.head _)))) rfl ?_
  rintro _ w_5 ⟨rfl, hc_4⟩
  have h_6 := h_3.same hc_4
  refine WL.q (Wn.no rfl) rfl rfl (R.assign (v := (.pointer none)) rfl) ?_
  refine WL.nil ?_
  refine thn_n ?_
  refine WP.seq ?_
  refine WP.seq ?_
  refine WP.reg ?_
  refine WL.q (Wn.no rfl) rfl rfl (R.move (v := (.pointer none)) rfl) ?_
  refine WL.q (Wn.no rfl) rfl rfl (R.eqNilP rfl rfl Try.underlying42) ?_
  refine WL.nil ?_
  refine thn_n ?_
  refine WP.condT rfl ?_
  refine WP.seq ?_
  refine WP.reg ?_
  refine WL.q (Wn.no rfl) rfl rfl (R.buildA (vs := []) (cs := (List.replicate 32 (0 : UInt8)).map vu8) Try.underlying28 Try.sizeOf5 (zv Try.typeInfo28 rfl) rfl rfl) ?_
  refine WL.storeA (b := b_1) (off := 0) [] [(32, (List.replicate 32 (0 : UInt8)).map vu8)] [(32, (List.replicate 32 (0 : UInt8)).map vu8)] [] (ys := (List.replicate 32 (0 : UInt8)).map vu8) h_6 rfl rfl Try.sizeOf28 At.h (by decide) rfl rfl rfl rfl rfl rfl (SsOk.cons (SOk.u8 (List.length_replicate ..)) SsOk.nil) (fun w_7 h_8 => ?_)
  refine WL.q (Wn.no rfl) rfl rfl (R.assign (v := (vi 1)) rfl) ?_
  refine WL.nil ?_
  refine thn_n ?_
  refine WP.ret ?_
  refine thn_r ?_
  refine ret_of Try.results31 (RV.cell rfl (h_8.loadA (cs := (List.replicate 32 (0 : UInt8)).map vu8) Try.isAgg28 Try.sizeOf28 (.head _) rfl rfl) (RV.tmp (v := (vi 1)) rfl RV.nil)) ?_
  exact ⟨rfl, h_8.chgS⟩

theorem c_HSum (mg : List UInt8) (ra : Option Addr) (rn rc : Nat) (hrn : (rsL mg).length = rn) (hrc : rn ≤ rc) (bc : Nat) (hm : mg.length ≤ 1000000000000) (w : World) (hvr : View w ra ((rsL mg).map vu8)) (hcb : (Ent.blk bc .ro 55 [(64, kL.map vu32), (8, (stH mg).map vu32), (1, [(.slice ra rn rc)]), (1, [(vi ((mg.length : Nat) : Int))]), (1, [(.bool true)])]).ok w.heap.size w) :
    Cs Try.prog 31 [(.pointer (some ⟨bc, 0, none⟩))].toArray w (fun v w1 => v = (.tuple [(.agg ⟨(sumL mg).map vu8⟩), (vi 0)].toArray) ∧ Chg w w1 []) := by
  refine Cs.of (n := 44) (args := [(.pointer (some ⟨bc, 0, none⟩))]) Try.func31 rfl rfl rfl ?_
  have h_0 := HP.init w
  have h_01 := h_0.oldV (View.arg hvr) rfl (by simp [Ent.mut])
  have h_00 := h_01.oldV hcb rfl (by simp [Ent.mut])
  have hrl := rsL_len mg
  have hpl := padL_len mg.length
  refine WP.seq ?_
  refine WP.reg ?_
  refine WL.alloc (segs := [(32, (List.replicate 32 (0 : UInt8)).map vu8)]) h_00 (zv Try.typeInfo28 rfl) rfl (SsOk.cons (SOk.u8 (List.length_replicate ..)) SsOk.nil) rfl (fun b_1 w_2 h_3 => ?_)
  refine WL.q (Wn.no rfl) rfl rfl (R.assign (v := (vi 0)) rfl) ?_
  refine WL.nil ?_
  refine thn_n ?_
  refine WP.seq ?_
  refine WP.reg ?_
  refine WL.q (Wn.no rfl) rfl rfl (R.move (v := (.pointer (some ⟨bc, 0, none⟩))) rfl) ?_
  refine WL.call (al := [(.pointer (some ⟨bc, 0, none⟩))]) Try.call33 rfl rfl (c_Copy mg ra rn rc hrn (by omega) bc (by omega) _ (viewV (h_3.ok _ (.tail _ (.tail _ (.head _))))) (h_3.argR (.tail _ (.head _)))) rfl ?_
  rintro _ w_5 ⟨b_4, rfl, hc_6, hb_7, ra_8, rn_9, rc_10, hk_11, hv_12, hn_13, hq_14, hf_15⟩
  have h_16 := HP_gotHash (segs := [(64, kL.map vu32), (8, (stH mg).map vu32), (1, [(.slice ra_8 rn_9 rc_10)]), (1, [(vi ((mg.length : Nat) : Int))]), (1, [(.bool true)])]) h_3 hc_6 hb_7 (SsOk.cons (SOk.u32 kL_len) (SsOk.cons (SOk.u32 (stH_len mg)) (SsOk.cons (SOk.v rfl) (SsOk.cons (SOk.v rfl) (SsOk.cons (SOk.v rfl) SsOk.nil))))) hk_11 hv_12 hf_15
  refine WL.q (Wn.no rfl) rfl rfl (R.assign (v := (.pointer (some ⟨b_4, 0, none⟩))) rfl) ?_
  refine WL.nil ?_
  refine thn_n ?_
  refine WP.seq ?_
  refine WP.seq ?_
  refine WP.reg ?_
  refine WL.q (Wn.no rfl) rfl rfl (R.move (v := (.pointer (some ⟨b_4, 0, none⟩))) rfl) ?_
  refine WL.q (Wn.no rfl) rfl rfl (R.eqNilP rfl rfl Try.underlying42) ?_
  refine WL.nil ?_
  refine thn_n ?_
  refine WP.condF rfl ?_
  refine WP.skip ?_
  refine thn_n ?_
  refine WP.seq ?_
  refine WP.reg ?_
  refine WL.q (Wn.no rfl) rfl rfl (R.move (v := (.pointer (some ⟨b_4, 0, none⟩))) rfl) ?_
  refine WL.q (Wn.no rfl) rfl rfl (R.move (v := (.pointer (some ⟨bc, 0, none⟩))) rfl) ?_
  refine WL.q (Wn.no rfl) rfl rfl (R.nilCheck rfl) ?_
  refine WL.q (Wn.no rfl) rfl rfl (R.fieldAddr (b := bc) (off := 0) (off' := 73) rfl Try.underlying55 rfl Try.sizeOf3 rfl rfl) ?_
  refine WL.q (Wn.no rfl) rfl rfl (R.load1 (b := bc) (off := 73) (v := (vi ((mg.length : Nat) : Int))) rfl Try.isAgg3 (h_16.ok _ (.tail _ (.tail _ (.tail _ (.head _))))) (Sg.t rfl (Sg.t rfl (Sg.t rfl Sg.h)))) ?_
  refine WL.call (al := [(vi ((mg.length : Nat) : Int))]) Try.call54 rfl rfl (c_padding mg.length (by omega) _) rfl ?_
  rintro _ w_19 ⟨a_17, cap_18, rfl, hc_20, ho_21⟩
  have h_22 := h_16.gotRow hc_20 ho_21
  have h_23 := h_22.up (Pick.t Pick.h)
  refine WL.call (al := [(.pointer (some ⟨b_4, 0, none⟩)), (.slice a_17 ((padL mg.length).length) cap_18)]) Try.call30 rfl rfl (c_Write mg ra_8 rn_9 rc_10 hn_13 (by omega) b_4 (by omega) a_17 ((padL mg.length).length) cap_18 (padL mg.length) (rfl : List.length (padL mg.length) = (padL mg.length).length) (by omega) (h_23.own (.tail _ (.head _))).2.2.1 _ (viewV (h_23.ok _ (.tail _ (.tail _ (.head _))))) (ownView (h_23.ok _ (.tail _ (.head _)))) (h_23.arg (.head _)) (Sep_off (m := .nw) (T := 55) (segs := [(64, kL.map vu32), (8, (stH mg).map vu32), (1, [(.slice ra_8 rn_9 rc_10)]), (1, [(vi ((mg.length : Nat) : Int))]), (1, [(.bool true)])]) (by decide) (Sep.view (by decide) (fun h => h) (h_23.ne (i := 0) (j := 2) rfl rfl rfl).symm)) (Sep_off (m := .nw) (T := 55) (segs := [(64, kL.map vu32), (8, (stH mg).map vu32), (1, [(.slice ra_8 rn_9 rc_10)]), (1, [(vi ((mg.length : Nat) : Int))]), (1, [(.bool true)])]) (by decide) (Sep.viewRow (h_23.ne (i := 0) (j := 1) rfl rfl rfl).symm))) rfl ?_
  rintro _ w_24 ⟨rfl, hc_25, ra_26, rn_27, rc_28, hk_29, hv_30, hn_31, hq_32, hf_33⟩
  have h_34 := HP_passedHash (segs' := [(64, kL.map vu32), (8, (stH (mg ++ (padL mg.length))).map vu32), (1, [(.slice ra_26 rn_27 rc_28)]), (1, [(vi (((mg ++ (padL mg.length)).length : Nat) : Int))]), (1, [(.bool true)])]) h_23 (by decide) hc_25 (SsOk.cons (SOk.u32 kL_len) (SsOk.cons (SOk.u32 (stH_len (mg ++ (padL mg.length)))) (SsOk.cons (SOk.v rfl) (SsOk.cons (SOk.v rfl) (SsOk.cons (SOk.v rfl) SsOk.nil))))) hk_29 hv_30 hf_33
  refine WL.nil ?_
  refine thn_n ?_
  refine WP.seq ?_
  refine WP.reg ?_
  refine WL.alloc (segs := [(32, (List.replicate 32 (0 : UInt8)).map vu8)]) h_34 (zv Try.typeInfo28 rfl) rfl (SsOk.cons (SOk.u8 (List.length_replicate ..)) SsOk.nil) rfl (fun b_35 w_36 h_37 => ?_)
  refine WL.nil ?_
  refine thn_n ?_
  refine WP.seq ?_
  refine WP.seq ?_
  refine WP.reg ?_
  refine WL.q (Wn.no rfl) rfl rfl (R.move (v := (.pointer (some ⟨b_4, 0, none⟩))) rfl) ?_
  refine WL.q (Wn.no rfl) rfl rfl (R.nilCheck rfl) ?_
  refine WL.q (Wn.no rfl) rfl rfl (R.fieldAddr (b := b_4) (off := 0) (off' := 64) rfl Try.underlying55 rfl Try.sizeOf33 rfl rfl) ?_
  refine WL.q (Wn.no rfl) rfl rfl (R.loadA (b := b_4) (off := 64) [(64, kL.map vu32)] [(8, (stH (mg ++ (padL mg.length))).map vu32)] [(1, [(.slice ra_26 rn_27 rc_28)]), (1, [(vi (((mg ++ (padL mg.length)).length : Nat) : Int))]), (1, [(.bool true)])] (cs := (stH (mg ++ (padL mg.length))).map vu32) rfl Try.isAgg33 Try.sizeOf33 (h_37.ok _ (.tail _ (.tail _ (.head _)))) rfl rfl rfl rfl) ?_
  refine WL.q (Wn.no rfl) rfl rfl (R.move (v := (vi 0)) rfl) ?_
  refine WL.nil ?_
  refine thn_n ?_
  refine WP.block ?_
  refine WP.loopG (G := Nat) [6, 7, 8, 9, 26, 27, 28, 29, 30, 31, 32, 33, 34, 35, 36, 37, 38, 39, 40, 41, 42] (fun i => [(26, (vi ((i : Nat) : Int)))]) (fun i m w1 => HP w w1 [.blk b_35 .nw 28 [(32, (mix (digL (stH (mg ++ padL mg.length))) (List.replicate 32 0) (4 * i)).map vu8)], .view ra_26 ((rsL (mg ++ (padL mg.length))).map vu8), .blk b_4 .nw 55 [(64, kL.map vu32), (8, (stH (mg ++ (padL mg.length))).map vu32), (1, [(.slice ra_26 rn_27 rc_28)]), (1, [(vi (((mg ++ (padL mg.length)).length : Nat) : Int))]), (1, [(.bool true)])], .row a_17 ((padL mg.length).length) cap_18 5 1 ((padL mg.length).map vu8), .view ra_8 ((rsL mg).map vu8), .blk b_1 .nw 28 [(32, (List.replicate 32 (0 : UInt8)).map vu8)], .blk bc .ro 55 [(64, kL.map vu32), (8, (stH mg).map vu32), (1, [(.slice ra rn rc)]), (1, [(vi ((mg.length : Nat) : Int))]), (1, [(.bool true)])], .view ra ((rsL mg).map vu8)] ∧ (i ≤ 8) ∧ m = 8 - i) ⟨0, _, ⟨rfl, trivial⟩, (by rw [Nat.mul_zero, mix_0]; exact h_37), (by omega), rfl⟩ ?_
  rintro i m_40 J_41 w_38 ⟨h_39, hi, rfl⟩
  have hx4 : (UInt64.ofNat (((stH (mg ++ padL mg.length))).getD i 0).toNat).toNat < 256 ^ 4 := by have h1 := (((stH (mg ++ padL mg.length))).getD i 0).toNat_lt; rw [nat64 (by omega)]; exact h1
  refine WP.seq ?_
  refine WP.reg ?_
  refine WL.q (Wn.no rfl) rfl rfl (R.bin (v := (.bool (decide ((((i : Nat) : Int) : Int) < 8)))) rfl rfl (bi_lss (r := decide ((((i : Nat) : Int) : Int) < 8)) rfl)) ?_
  refine WL.nil ?_
  refine thn_n ?_
  refine WP.seq ?_
  refine WP.cond (b := decide ((((i : Nat) : Int) : Int) < 8)) rfl (fun c_42 => ?_) (fun c_42 => ?_)
  · have p_43 := of_decide_eq_true c_42
    refine WP.skip ?_
    refine thn_n ?_
    refine WP.seq ?_
    refine WP.block ?_
    refine WP.seq ?_
    refine WP.reg ?_
    refine WL.q (Wn.no rfl) rfl rfl (R.move (v := (vi ((i : Nat) : Int))) rfl) ?_
    refine WL.q (Wn.no rfl) rfl rfl (R.indexV (i := i) (cs := (stH (mg ++ (padL mg.length))).map vu32) (v := (vu32 ((stH (mg ++ (padL mg.length))).getD i 0))) rfl rfl rfl (by omega) Try.underlying33 Try.isAgg22 Try.sizeOf22 (get_u32 (lt_len (K := 8) (stH_len (mg ++ (padL mg.length))) (by omega)))) ?_
    refine WL.q (Wn.no rfl) rfl rfl (R.assign (v := (vi ((i : Nat) : Int))) rfl) ?_
    refine WL.q (Wn.no rfl) rfl rfl (R.assign (v := (vu32 ((stH (mg ++ (padL mg.length))).getD i 0))) rfl) ?_
    refine WL.nil ?_
    refine thn_n ?_
    refine WP.seq ?_
    refine WP.reg ?_
    refine WL.q (Wn.no rfl) rfl rfl (R.move (v := (vu32 ((stH (mg ++ (padL mg.length))).getD i 0))) rfl) ?_
    refine WL.q (Wn.no rfl) rfl rfl (R.conv (b := ((UInt64.ofNat (((stH (mg ++ (padL mg.length))).getD i 0).toNat)) : UInt64).toNat) rfl Try.underlying22 Try.underlying58 (w64_nat (((stH (mg ++ (padL mg.length))).getD i 0).toNat))) ?_
    refine WL.call (al := [(vu64 (UInt64.ofNat (((stH (mg ++ (padL mg.length))).getD i 0).toNat))), (vi 4)]) Try.call60 rfl rfl (c_Put_a (UInt64.ofNat (((stH (mg ++ (padL mg.length))).getD i 0).toNat)) 4 (by decide) (by decide) hx4 _) rfl ?_
    rintro _ w_46 ⟨a_44, cap_45, rfl, hc_47, ho_48⟩
    have h_49 := h_39.gotRow hc_47 ho_48
    refine WL.q (Wn.no rfl) rfl rfl (R.move (v := (.tuple [(.slice a_44 4 cap_45), (vi 0)].toArray)) rfl) ?_
    refine WL.q (Wn.no rfl) rfl rfl (R.extract (l := [(.slice a_44 4 cap_45), (vi 0)]) (v := (.slice a_44 4 cap_45)) rfl rfl) ?_
    refine WL.q (Wn.no rfl) rfl rfl (R.extract (l := [(.slice a_44 4 cap_45), (vi 0)]) (v := (vi 0)) rfl rfl) ?_
    refine WL.q (Wn.no rfl) rfl rfl (R.assign (v := (.slice a_44 4 cap_45)) rfl) ?_
    refine WL.q (Wn.no rfl) rfl rfl (R.assign (v := (vi 0)) rfl) ?_
    refine WL.nil ?_
    refine thn_n ?_
    refine WP.drawT (SL w.heap.size [.row a_44 4 cap_45 5 1 ((leN 4 (UInt64.ofNat (((stH (mg ++ (padL mg.length))).getD i 0).toNat)).toNat).map vu8), .view ra_26 ((rsL (mg ++ (padL mg.length))).map vu8), .blk b_4 .nw 55 [(64, kL.map vu32), (8, (stH (mg ++ (padL mg.length))).map vu32), (1, [(.slice ra_26 rn_27 rc_28)]), (1, [(vi (((mg ++ (padL mg.length)).length : Nat) : Int))]), (1, [(.bool true)])], .row a_17 ((padL mg.length).length) cap_18 5 1 ((padL mg.length).map vu8), .view ra_8 ((rsL mg).map vu8), .blk b_1 .nw 28 [(32, (List.replicate 32 (0 : UInt8)).map vu8)], .blk bc .ro 55 [(64, kL.map vu32), (8, (stH mg).map vu32), (1, [(.slice ra rn rc)]), (1, [(vi ((mg.length : Nat) : Int))]), (1, [(.bool true)])], .view ra ((rsL mg).map vu8)]) (.q 0 (.q 1 (.q 2 (.q 3 (.s 4 (.s 5 .nil)))))) (by kernel_rfl) (by kernel_rfl) rfl (by kernel_rfl) (fun w_50 hc_52 => (SL.cons ((h_49.same hc_52).ok _ (.head _)) (SL.cons ((h_49.same hc_52).ok _ (.tail _ (.tail _ (.head _)))) (SL.cons ((h_49.same hc_52).ok _ (.tail _ (.tail _ (.tail _ (.head _))))) (SL.cons ((h_49.same hc_52).ok _ (.tail _ (.tail _ (.tail _ (.tail _ (.head _)))))) (SL.cons ((h_49.same hc_52).ok _ (.tail _ (.tail _ (.tail _ (.tail _ (.tail _ (.head _))))))) (SL.cons ((h_49.same hc_52).ok _ (.tail _ (.tail _ (.tail _ (.tail _ (.tail _ (.tail _ (.head _)))))))) (SL.cons ((h_49.same hc_52).ok _ (.tail _ (.tail _ (.tail _ (.tail _ (.tail _ (.tail _ (.tail _ (.head _))))))))) (SL.cons ((h_49.same hc_52).ok _ (.tail _ (.tail _ (.tail _ (.tail _ (.tail _ (.tail _ (.tail _ (.tail _ (.head _)))))))))) (SL.nil _ _)))))))))) (fun w_50 hc_52 => ?_)
    have h_51 := h_49.same hc_52
    refine WT.q rfl (Wn.no rfl) rfl rfl (fun wq hS => R.move (v := (vi ((i : Nat) : Int))) rfl) ?_
    refine WT.q rfl (Wn.no rfl) rfl rfl (fun wq hS => R.bin (v := (vi ((4 * i : Nat) : Int))) rfl rfl (bi_mul (c := ((4 * i : Nat) : Int)) (by omega) (by omega))) ?_
    refine WT.q rfl (Wn.no rfl) rfl rfl (fun wq hS => R.sliceA (b := b_35) (off := 0) (off' := (0 + (4 * i))) (l := 4 * i) (h := 32) rfl (EvB.it (l := 4 * i) rfl rfl) EvB.dflt (by omega) (by decide) Try.underlying28 Try.sizeOf5 (by rw [if_neg (by omega), Nat.mul_one])) ?_
    refine WT.q rfl (Wn.no rfl) rfl rfl (fun wq hS => R.move (v := (.slice a_44 4 cap_45)) rfl) ?_
    refine WT.s ?_
    refine Op1.one rfl (Wn.no rfl) ?_
    refine WL.call (al := [(.slice a_44 4 cap_45)]) Try.call61 rfl rfl (c_Turned a_44 4 cap_45 (leN 4 (UInt64.ofNat (((stH (mg ++ (padL mg.length))).getD i 0).toNat)).toNat) (leN_len ..) (by omega) _ (ownView (h_51.ok _ (.head _)))) rfl ?_
    rintro _ w_55 ⟨a_53, cap_54, rfl, hc_56, ho_57⟩
    have h_58 := h_51.gotRow hc_56 ho_57
    refine WL.nil ?_
    refine ⟨(SL.cons (h_58.ok _ (.tail _ (.head _))) (SL.cons (h_58.ok _ (.tail _ (.tail _ (.tail _ (.head _))))) (SL.cons (h_58.ok _ (.tail _ (.tail _ (.tail _ (.tail _ (.head _)))))) (SL.cons (h_58.ok _ (.tail _ (.tail _ (.tail _ (.tail _ (.tail _ (.head _))))))) (SL.cons (h_58.ok _ (.tail _ (.tail _ (.tail _ (.tail _ (.tail _ (.tail _ (.head _)))))))) (SL.cons (h_58.ok _ (.tail _ (.tail _ (.tail _ (.tail _ (.tail _ (.tail _ (.tail _ (.head _))))))))) (SL.cons (h_58.ok _ (.tail _ (.tail _ (.tail _ (.tail _ (.tail _ (.tail _ (.tail _ (.tail _ (.head _)))))))))) (SL.cons (h_58.ok _ (.tail _ (.tail _ (.tail _ (.tail _ (.tail _ (.tail _ (.tail _ (.tail _ (.tail _ (.head _))))))))))) (SL.nil _ _))))))))), ?_⟩
    refine WT.s ?_
    refine Op1.one rfl (Wn.no rfl) ?_
    refine WL.copy (q := 4) (i := 4 * i) (ys := ((leN 4 (UInt64.ofNat (((stH (mg ++ (padL mg.length))).getD i 0).toNat)).toNat).reverse).map vu8) (cs' := (ovr (mix (digL (stH (mg ++ padL mg.length))) (List.replicate 32 0) (4 * i)) (4 * i) ((leN 4 (UInt64.ofNat (((stH (mg ++ (padL mg.length))).getD i 0).toNat)).toNat).reverse)).map vu8) h_58 rfl rfl Try.underlying26 Try.sizeOf5 (ownView (h_58.ok _ (.head _))) (len_map ((List.length_reverse ..).trans (leN_len ..))) (one_u8 _) (At.t (At.t At.h)) (by decide) Sg.h rfl (Nat.min_eq_left (by omega)) (by rw [len_map (mix_len (digL_len _) (List.length_replicate ..))]; omega) (cpOvr ((List.length_reverse ..).trans (leN_len ..))) rfl (fun w_59 h_60 => ?_)
    refine WL.nil ?_
    refine ⟨(SL.cons (h_60.ok _ (.tail _ (.head _))) (SL.cons (h_60.ok _ (.tail _ (.tail _ (.tail _ (.head _))))) (SL.cons (h_60.ok _ (.tail _ (.tail _ (.tail _ (.tail _ (.head _)))))) (SL.cons (h_60.ok _ (.tail _ (.tail _ (.tail _ (.tail _ (.tail _ (.head _))))))) (SL.cons (h_60.ok _ (.tail _ (.tail _ (.tail _ (.tail _ (.tail _ (.tail _ (.head _)))))))) (SL.cons (h_60.ok _ (.tail _ (.tail _ (.tail _ (.tail _ (.tail _ (.tail _ (.tail _ (.head _))))))))) (SL.cons (h_60.ok _ (.tail _ (.tail _ (.tail _ (.tail _ (.tail _ (.tail _ (.tail _ (.tail _ (.head _)))))))))) (SL.cons (h_60.ok _ (.tail _ (.tail _ (.tail _ (.tail _ (.tail _ (.tail _ (.tail _ (.tail _ (.tail _ (.head _))))))))))) (SL.nil _ _))))))))), ?_⟩
    refine WT.nil ?_
    refine inb_n ?_
    refine thn_n ?_
    refine WP.reg ?_
    refine WL.q (Wn.no rfl) rfl rfl (R.bin (v := (vi ((i + 1 : Nat) : Int))) rfl rfl (bi_add (c := ((i + 1 : Nat) : Int)) (by omega) (by omega))) ?_
    refine WL.q (Wn.no rfl) rfl rfl (R.move (v := (vi ((i + 1 : Nat) : Int))) rfl) ?_
    refine WL.nil ?_
    refine thn_n ?_
    have h_61 := h_60.drop rfl
    have h_62 := h_61.drop rfl
    have h_63 := h_62.up (Pick.t (Pick.t (Pick.t (Pick.t (Pick.t (Pick.t (Pick.t Pick.h)))))))
    have h_64 := h_63.up (Pick.t (Pick.t (Pick.t (Pick.t (Pick.t (Pick.t (Pick.t Pick.h)))))))
    have h_65 := h_64.up (Pick.t (Pick.t (Pick.t (Pick.t (Pick.t (Pick.t (Pick.t Pick.h)))))))
    have h_66 := h_65.up (Pick.t (Pick.t (Pick.t (Pick.t (Pick.t (Pick.t (Pick.t Pick.h)))))))
    have h_67 := h_66.up (Pick.t (Pick.t (Pick.t (Pick.t (Pick.t (Pick.t (Pick.t Pick.h)))))))
    have h_68 := h_67.up (Pick.t (Pick.t (Pick.t (Pick.t (Pick.t (Pick.t (Pick.t Pick.h)))))))
    have h_69 := h_68.up (Pick.t (Pick.t (Pick.t (Pick.t (Pick.t (Pick.t (Pick.t Pick.h)))))))
    have h_70 := h_69.up (Pick.t (Pick.t (Pick.t (Pick.t (Pick.t (Pick.t (Pick.t Pick.h)))))))
    rw [dig_ovr (by omega) _ rfl] at h_70
    exact ⟨i + 1, _, (by omega), (Ag.upd rfl (Ag.upd rfl (Ag.upd rfl (Ag.upd rfl (Ag.upd rfl (Ag.upd rfl (Ag.upd rfl (Ag.upd rfl (Ag.upd rfl (Ag.upd rfl (Ag.upd rfl (Ag.upd rfl (Ag.upd rfl (Ag.upd rfl (Ag.upd rfl (Ag.upd rfl (Ag.upd rfl (Ag.upd rfl (Ag.upd rfl (Ag.upd rfl (Ag.upd rfl (Ag.updL rfl (Ag.mix _ _ _))))))))))))))))))))))), ⟨rfl, trivial⟩, h_70, (by omega), rfl⟩
  · have p_71 := of_decide_eq_false c_42
    refine WP.exit ?_
    refine thn_x ?_
    refine thn_x ?_
    refine inb_hit ?_
    refine thn_n ?_
    refine WP.seq ?_
    refine WP.reg ?_
    refine WL.q (Wn.no rfl) rfl rfl (R.loadA (b := b_35) (off := 0) [] [(32, (mix (digL (stH (mg ++ padL mg.length))) (List.replicate 32 0) (4 * i)).map vu8)] [] (cs := (mix (digL (stH (mg ++ padL mg.length))) (List.replicate 32 0) (4 * i)).map vu8) rfl Try.isAgg28 Try.sizeOf28 (h_39.ok _ (.head _)) rfl rfl rfl rfl) ?_
    refine WL.storeA (b := b_1) (off := 0) [] [(32, (List.replicate 32 (0 : UInt8)).map vu8)] [(32, (mix (digL (stH (mg ++ padL mg.length))) (List.replicate 32 0) (4 * i)).map vu8)] [] (ys := (mix (digL (stH (mg ++ padL mg.length))) (List.replicate 32 0) (4 * i)).map vu8) h_39 rfl rfl Try.sizeOf28 (At.t (At.t (At.t (At.t (At.t At.h))))) (by decide) rfl rfl rfl rfl rfl rfl (SsOk.cons (SOk.u8 (mix_len (digL_len _) (List.length_replicate ..))) SsOk.nil) (fun w_72 h_73 => ?_)
    refine WL.q (Wn.no rfl) rfl rfl (R.assign (v := (vi 0)) rfl) ?_
    refine WL.nil ?_
    refine thn_n ?_
    refine WP.ret ?_
    refine ret_of Try.results31 (RV.cell rfl (h_73.loadA (cs := (mix (digL (stH (mg ++ padL mg.length))) (List.replicate 32 0) (4 * i)).map vu8) Try.isAgg28 Try.sizeOf28 (.tail _ (.tail _ (.tail _ (.tail _ (.tail _ (.head _)))))) rfl rfl) (RV.tmp (v := (vi 0)) rfl RV.nil)) ?_
    have hi8 : i = 8 := by omega
    subst hi8
    have ed := dig_all (stH (mg ++ padL mg.length))
    exact ⟨by rw [show 4 * 8 = 32 from rfl, ed, sum_dig]; rfl, h_73.chgS⟩

theorem c_Sum (a : Option Addr) (n cap : Nat) (bs : List UInt8) (hl : bs.length = n) (hn : n ≤ 1000000000000) (hcap : n ≤ cap) (w : World) (hv : View w a (bs.map vu8)) :
    Cs Try.prog 19 [(.slice a n cap)].toArray w (fun v w1 => v = (.agg ⟨(sumL bs).map vu8⟩) ∧ Chg w w1 []) := by
  refine Cs.of (n := 16) (args := [(.slice a n cap)]) Try.func19 rfl rfl rfl ?_
  have h_0 := HP.init w
  have h_00 := h_0.old (View.arg hv) (fun f hf => by cases hf)
  refine WP.seq ?_
  refine WP.reg ?_
  refine WL.alloc (segs := [(32, (List.replicate 32 (0 : UInt8)).map vu8)]) h_00 (zv Try.typeInfo28 rfl) rfl (SsOk.cons (SOk.u8 (List.length_replicate ..)) SsOk.nil) rfl (fun b_1 w_2 h_3 => ?_)
  refine WL.nil ?_
  refine thn_n ?_
  refine WP.seq ?_
  refine WP.reg ?_
  refine WL.call (al := []) Try.call28 rfl rfl (c_New _) rfl ?_
  rintro _ w_5 ⟨b_4, rfl, hc_6, hb_7, ra_8, rn_9, rc_10, hk_11, hv_12, hn_13, hq_14, hf_15⟩
  have h_16 := HP_gotHash (segs := [(64, kL.map vu32), (8, (stH ([] : List UInt8)).map vu32), (1, [(.slice ra_8 rn_9 rc_10)]), (1, [(vi ((([] : List UInt8).length : Nat) : Int))]), (1, [(.bool true)])]) h_3 hc_6 hb_7 (SsOk.cons (SOk.u32 kL_len) (SsOk.cons (SOk.u32 (stH_len ([] : List UInt8))) (SsOk.cons (SOk.v rfl) (SsOk.cons (SOk.v rfl) (SsOk.cons (SOk.v rfl) SsOk.nil))))) hk_11 hv_12 hf_15
  refine WL.q (Wn.no rfl) rfl rfl (R.assign (v := (.pointer (some ⟨b_4, 0, none⟩))) rfl) ?_
  refine WL.nil ?_
  refine thn_n ?_
  refine WP.seq ?_
  refine WP.reg ?_
  refine WL.q (Wn.no rfl) rfl rfl (R.move (v := (.pointer (some ⟨b_4, 0, none⟩))) rfl) ?_
  refine WL.q (Wn.no rfl) rfl rfl (R.move (v := (.slice a n cap)) rfl) ?_
  refine WL.call (al := [(.pointer (some ⟨b_4, 0, none⟩)), (.slice a n cap)]) Try.call30 rfl rfl (c_Write ([] : List UInt8) ra_8 rn_9 rc_10 hn_13 (by omega) b_4 (by decide) a n cap bs hl (by omega) (by omega) _ (viewV (h_16.ok _ (.tail _ (.head _)))) (viewV (h_16.ok _ (.tail _ (.tail _ (.tail _ (.head _)))))) (h_16.arg (.head _)) (Sep_off (m := .nw) (T := 55) (segs := [(64, kL.map vu32), (8, (stH ([] : List UInt8)).map vu32), (1, [(.slice ra_8 rn_9 rc_10)]), (1, [(vi ((([] : List UInt8).length : Nat) : Int))]), (1, [(.bool true)])]) (by decide) (Sep.view (by decide) (fun h => h) (h_16.ne (i := 0) (j := 1) rfl rfl rfl).symm)) (Sep_off (m := .nw) (T := 55) (segs := [(64, kL.map vu32), (8, (stH ([] : List UInt8)).map vu32), (1, [(.slice ra_8 rn_9 rc_10)]), (1, [(vi ((([] : List UInt8).length : Nat) : Int))]), (1, [(.bool true)])]) (by decide) (Sep.view (by decide) (fun h => h) (h_16.ne (i := 0) (j := 3) rfl rfl rfl).symm))) rfl ?_
  rintro _ w_17 ⟨rfl, hc_18, ra_19, rn_20, rc_21, hk_22, hv_23, hn_24, hq_25, hf_26⟩
  have h_27 := HP_passedHash (segs' := [(64, kL.map vu32), (8, (stH bs).map vu32), (1, [(.slice ra_19 rn_20 rc_21)]), (1, [(vi ((bs.length : Nat) : Int))]), (1, [(.bool true)])]) h_16 (by decide) hc_18 (SsOk.cons (SOk.u32 kL_len) (SsOk.cons (SOk.u32 (stH_len bs)) (SsOk.cons (SOk.v rfl) (SsOk.cons (SOk.v rfl) (SsOk.cons (SOk.v rfl) SsOk.nil))))) hk_22 hv_23 hf_26
  refine WL.nil ?_
  refine thn_n ?_
  refine WP.seq ?_
  refine WP.reg ?_
  refine WL.q (Wn.no rfl) rfl rfl (R.move (v := (.pointer (some ⟨b_4, 0, none⟩))) rfl) ?_
  refine WL.call (al := [(.pointer (some ⟨b_4, 0, none⟩))]) Try.call31 rfl rfl (c_HSum bs ra_19 rn_20 rc_21 hn_24 (by omega) b_4 (by omega) _ (viewV (h_27.ok _ (.head _))) (h_27.argR (.tail _ (.head _)))) rfl ?_
  rintro _ w_29 ⟨rfl, hc_28⟩
  have h_30 := h_27.same hc_28
  refine WL.q (Wn.no rfl) rfl rfl (R.move (v := (.tuple [(.agg ⟨(sumL bs).map vu8⟩), (vi 0)].toArray)) rfl) ?_
  refine WL.q (Wn.no rfl) rfl rfl (R.extract (l := [(.agg ⟨(sumL bs).map vu8⟩), (vi 0)]) (v := (.agg ⟨(sumL bs).map vu8⟩)) rfl rfl) ?_
  refine WL.q (Wn.no rfl) rfl rfl (R.extract (l := [(.agg ⟨(sumL bs).map vu8⟩), (vi 0)]) (v := (vi 0)) rfl rfl) ?_
  refine WL.alloc (segs := [(32, (List.replicate 32 (0 : UInt8)).map vu8)]) h_30 (zv Try.typeInfo28 rfl) rfl (SsOk.cons (SOk.u8 (List.length_replicate ..)) SsOk.nil) rfl (fun b_31 w_32 h_33 => ?_)
  refine WL.storeA (b := b_31) (off := 0) [] [(32, (List.replicate 32 (0 : UInt8)).map vu8)] [(32, (sumL bs).map vu8)] [] (ys := (sumL bs).map vu8) h_33 rfl rfl Try.sizeOf28 At.h (by decide) rfl rfl rfl rfl rfl rfl (SsOk.cons (SOk.u8 (sumL_len _)) SsOk.nil) (fun w_34 h_35 => ?_)
  refine WL.q (Wn.no rfl) rfl rfl (R.assign (v := (vi 0)) rfl) ?_
  refine WL.nil ?_
  refine thn_n ?_
  refine WP.seq ?_
  refine WP.reg ?_
  refine WL.q (Wn.no rfl) rfl rfl (R.loadA (b := b_31) (off := 0) [] [(32, (sumL bs).map vu8)] [] (cs := (sumL bs).map vu8) rfl Try.isAgg28 Try.sizeOf28 (h_35.ok _ (.head _)) rfl rfl rfl rfl) ?_
  refine WL.storeA (b := b_1) (off := 0) [] [(32, (List.replicate 32 (0 : UInt8)).map vu8)] [(32, (sumL bs).map vu8)] [] (ys := (sumL bs).map vu8) h_35 rfl rfl Try.sizeOf28 (At.t (At.t (At.t (At.t At.h)))) (by decide) rfl rfl rfl rfl rfl rfl (SsOk.cons (SOk.u8 (sumL_len _)) SsOk.nil) (fun w_36 h_37 => ?_)
  refine WL.nil ?_
  refine thn_n ?_
  refine WP.ret ?_
  refine ret_of Try.results19 (RV.cell rfl (h_37.loadA (cs := (sumL bs).map vu8) Try.isAgg28 Try.sizeOf28 (.tail _ (.tail _ (.tail _ (.tail _ (.head _))))) rfl rfl) RV.nil) ?_
  exact ⟨rfl, h_37.chgS⟩
end Go.Proofs.Ytelkjcigdhgcoaa
