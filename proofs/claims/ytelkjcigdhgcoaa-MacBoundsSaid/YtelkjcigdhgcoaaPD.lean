/- Keys of a key, and the rows that are known: contracts. Conditions: those that each theorem states. -/
import Derived.Test.YtelkjcigdhgcoaaPB
namespace Go.Proofs.Ytelkjcigdhgcoaa
open Go.Vc Go.Sh Go.RowKit
set_option linter.unusedVariables false
set_option linter.unusedSimpArgs false
set_option maxRecDepth 20000
theorem el63 : ElT Try.prog 63 28 32 32 := ElT.mk' Try.underlying63 (i := Try.t28) rfl rfl rfl rfl rfl rfl
theorem c_Derive_lo (key l : List UInt8) (n : Nat) (hkey : key.length = 32) (hl : l.length = n) (x : UInt64) (h : n < 1) (w : World) :
    Cs Try.prog 39 [(.agg ⟨key.map vu8⟩), (.string (bstr l)), (vu64 x)].toArray w (fun v w1 => v = (.tuple [(.agg ⟨(List.replicate 32 (0 : UInt8)).map vu8⟩), (vi 2)].toArray) ∧ Chg w w1 []) := by
  refine Cs.of (n := 41) (args := [(.agg ⟨key.map vu8⟩), (.string (bstr l)), (vu64 x)]) Try.func39 rfl rfl rfl ?_
  have h_0 := HP.init w
  refine WP.seq ?_
  refine WP.reg ?_
  refine WL.box (v := (.agg ⟨key.map vu8⟩)) (segs := [(32, key.map vu8)]) h_0 rfl rfl (SsOk.cons (SOk.u8 hkey) SsOk.nil) rfl (fun b_1 w_2 h_3 => ?_)
  refine WL.alloc (segs := [(32, (List.replicate 32 (0 : UInt8)).map vu8)]) h_3 (zv Try.typeInfo28 rfl) rfl (SsOk.cons (SOk.u8 (List.length_replicate ..)) SsOk.nil) rfl (fun b_4 w_5 h_6 => ?_)
  refine WL.q (Wn.no rfl) rfl rfl (R.assign (v := (vi 0)) rfl) ?_
  refine WL.nil ?_
  refine thn_n ?_
  refine WP.seq ?_
  refine WP.seq ?_
  refine WP.reg ?_
  refine WL.q (Wn.no rfl) rfl rfl (R.move (v := (.string (bstr l))) rfl) ?_
  refine WL.q (Wn.no rfl) rfl rfl (R.lenStrL (l := l) (m := n) rfl rfl Try.underlying9 hl) ?_
  refine WL.q (Wn.no rfl) rfl rfl (R.bin (v := (.bool (decide ((((n : Nat) : Int) : Int) < 1)))) rfl rfl (bi_lss (r := decide ((((n : Nat) : Int) : Int) < 1)) rfl)) ?_
  refine WL.q (Wn.no rfl) rfl rfl (R.move (v := (.bool (decide ((((n : Nat) : Int) : Int) < 1)))) rfl) ?_
  refine WL.skip rfl (congrArg Value.bool (decide_eq_true (by omega))) rfl ?_
  refine WL.skip rfl (congrArg Value.bool (decide_eq_true (by omega))) rfl ?_
  refine WL.skip rfl (congrArg Value.bool (decide_eq_true (by omega))) rfl ?_
  refine WL.q (Wn.no rfl) rfl rfl (R.pickT (v := (.bool true)) (congrArg Value.bool (decide_eq_true (by omega))) rfl) ?_
  refine WL.nil ?_
  refine thn_n ?_
  refine WP.condT rfl ?_
  refine WP.seq ?_
  refine WP.reg ?_
  refine WL.q (Wn.no rfl) rfl rfl (R.buildA (vs := []) (cs := (List.replicate 32 (0 : UInt8)).map vu8) Try.underlying28 Try.sizeOf5 (zv Try.typeInfo28 rfl) rfl rfl) ?_
  refine WL.storeA (b := b_4) (off := 0) [] [(32, (List.replicate 32 (0 : UInt8)).map vu8)] [(32, (List.replicate 32 (0 : UInt8)).map vu8)] [] (ys := (List.replicate 32 (0 : UInt8)).map vu8) h_6 rfl rfl Try.sizeOf28 At.h (by decide) rfl rfl rfl rfl rfl rfl (SsOk.cons (SOk.u8 (List.length_replicate ..)) SsOk.nil) (fun w_7 h_8 => ?_)
  refine WL.q (Wn.no rfl) rfl rfl (R.assign (v := (vi 2)) rfl) ?_
  refine WL.nil ?_
  refine thn_n ?_
  refine WP.ret ?_
  refine thn_r ?_
  refine ret_of Try.results39 (RV.cell rfl (h_8.loadA (cs := (List.replicate 32 (0 : UInt8)).map vu8) Try.isAgg28 Try.sizeOf28 (.head _) rfl rfl) (RV.tmp (v := (vi 2)) rfl RV.nil)) ?_
  exact ⟨rfl, h_8.chgS⟩

theorem c_Derive_hi (key l : List UInt8) (n : Nat) (hkey : key.length = 32) (hl : l.length = n) (x : UInt64) (h : 64 < n) (w : World) :
    Cs Try.prog 39 [(.agg ⟨key.map vu8⟩), (.string (bstr l)), (vu64 x)].toArray w (fun v w1 => v = (.tuple [(.agg ⟨(List.replicate 32 (0 : UInt8)).map vu8⟩), (vi 2)].toArray) ∧ Chg w w1 []) := by
  refine Cs.of (n := 41) (args := [(.agg ⟨key.map vu8⟩), (.string (bstr l)), (vu64 x)]) Try.func39 rfl rfl rfl ?_
  have h_0 := HP.init w
  refine WP.seq ?_
  refine WP.reg ?_
  refine WL.box (v := (.agg ⟨key.map vu8⟩)) (segs := [(32, key.map vu8)]) h_0 rfl rfl (SsOk.cons (SOk.u8 hkey) SsOk.nil) rfl (fun b_1 w_2 h_3 => ?_)
  refine WL.alloc (segs := [(32, (List.replicate 32 (0 : UInt8)).map vu8)]) h_3 (zv Try.typeInfo28 rfl) rfl (SsOk.cons (SOk.u8 (List.length_replicate ..)) SsOk.nil) rfl (fun b_4 w_5 h_6 => ?_)
  refine WL.q (Wn.no rfl) rfl rfl (R.assign (v := (vi 0)) rfl) ?_
  refine WL.nil ?_
  refine thn_n ?_
  refine WP.seq ?_
  refine WP.seq ?_
  refine WP.reg ?_
  refine WL.q (Wn.no rfl) rfl rfl (R.move (v := (.string (bstr l))) rfl) ?_
  refine WL.q (Wn.no rfl) rfl rfl (R.lenStrL (l := l) (m := n) rfl rfl Try.underlying9 hl) ?_
  refine WL.q (Wn.no rfl) rfl rfl (R.bin (v := (.bool (decide ((((n : Nat) : Int) : Int) < 1)))) rfl rfl (bi_lss (r := decide ((((n : Nat) : Int) : Int) < 1)) rfl)) ?_
  refine WL.q (Wn.no rfl) rfl rfl (R.move (v := (.bool (decide ((((n : Nat) : Int) : Int) < 1)))) rfl) ?_
  refine WL.want rfl (congrArg Value.bool (decide_eq_false (by omega))) ?_
  refine WL.q (Wn.no rfl) rfl rfl (R.move (v := (.string (bstr l))) rfl) ?_
  refine WL.want rfl (congrArg Value.bool (decide_eq_false (by omega))) ?_
  refine WL.q (Wn.no rfl) rfl rfl (R.lenStrL (l := l) (m := n) rfl rfl Try.underlying9 hl) ?_
  refine WL.want rfl (congrArg Value.bool (decide_eq_false (by omega))) ?_
  refine WL.q (Wn.no rfl) rfl rfl (R.bin (v := (.bool (decide ((((n : Nat) : Int) : Int) > 64)))) rfl rfl (bi_gtr (r := decide ((((n : Nat) : Int) : Int) > 64)) rfl)) ?_
  refine WL.q (Wn.no rfl) rfl rfl (R.pickF (v := (.bool (decide ((((n : Nat) : Int) : Int) > 64)))) (congrArg Value.bool (decide_eq_false (by omega))) rfl) ?_
  refine WL.nil ?_
  refine thn_n ?_
  refine WP.condT (congrArg Value.bool (decide_eq_true (by omega))) ?_
  refine WP.seq ?_
  refine WP.reg ?_
  refine WL.q (Wn.no rfl) rfl rfl (R.buildA (vs := []) (cs := (List.replicate 32 (0 : UInt8)).map vu8) Try.underlying28 Try.sizeOf5 (zv Try.typeInfo28 rfl) rfl rfl) ?_
  refine WL.storeA (b := b_4) (off := 0) [] [(32, (List.replicate 32 (0 : UInt8)).map vu8)] [(32, (List.replicate 32 (0 : UInt8)).map vu8)] [] (ys := (List.replicate 32 (0 : UInt8)).map vu8) h_6 rfl rfl Try.sizeOf28 At.h (by decide) rfl rfl rfl rfl rfl rfl (SsOk.cons (SOk.u8 (List.length_replicate ..)) SsOk.nil) (fun w_7 h_8 => ?_)
  refine WL.q (Wn.no rfl) rfl rfl (R.assign (v := (vi 2)) rfl) ?_
  refine WL.nil ?_
  refine thn_n ?_
  refine WP.ret ?_
  refine thn_r ?_
  refine ret_of Try.results39 (RV.cell rfl (h_8.loadA (cs := (List.replicate 32 (0 : UInt8)).map vu8) Try.isAgg28 Try.sizeOf28 (.head _) rfl rfl) (RV.tmp (v := (vi 2)) rfl RV.nil)) ?_
  exact ⟨rfl, h_8.chgS⟩

theorem c_Derive_ok (key l : List UInt8) (n : Nat) (hkey : key.length = 32) (hl : l.length = n) (x : UInt64) (h1 : 1 ≤ n) (h : n ≤ 64) (w : World) :
    Cs Try.prog 39 [(.agg ⟨key.map vu8⟩), (.string (bstr l)), (vu64 x)].toArray w (fun v w1 => v = (.tuple [(.agg ⟨(deriveL key l x).map vu8⟩), (vi 0)].toArray) ∧ Chg w w1 []) := by
  refine Cs.of (n := 41) (args := [(.agg ⟨key.map vu8⟩), (.string (bstr l)), (vu64 x)]) Try.func39 rfl rfl rfl ?_
  have h_0 := HP.init w
  refine WP.seq ?_
  refine WP.reg ?_
  refine WL.box (v := (.agg ⟨key.map vu8⟩)) (segs := [(32, key.map vu8)]) h_0 rfl rfl (SsOk.cons (SOk.u8 hkey) SsOk.nil) rfl (fun b_1 w_2 h_3 => ?_)
  refine WL.alloc (segs := [(32, (List.replicate 32 (0 : UInt8)).map vu8)]) h_3 (zv Try.typeInfo28 rfl) rfl (SsOk.cons (SOk.u8 (List.length_replicate ..)) SsOk.nil) rfl (fun b_4 w_5 h_6 => ?_)
  refine WL.q (Wn.no rfl) rfl rfl (R.assign (v := (vi 0)) rfl) ?_
  refine WL.nil ?_
  refine thn_n ?_
  refine WP.seq ?_
  refine WP.seq ?_
  refine WP.reg ?_
  refine WL.q (Wn.no rfl) rfl rfl (R.move (v := (.string (bstr l))) rfl) ?_
  refine WL.q (Wn.no rfl) rfl rfl (R.lenStrL (l := l) (m := n) rfl rfl Try.underlying9 hl) ?_
  refine WL.q (Wn.no rfl) rfl rfl (R.bin (v := (.bool (decide ((((n : Nat) : Int) : Int) < 1)))) rfl rfl (bi_lss (r := decide ((((n : Nat) : Int) : Int) < 1)) rfl)) ?_
  refine WL.q (Wn.no rfl) rfl rfl (R.move (v := (.bool (decide ((((n : Nat) : Int) : Int) < 1)))) rfl) ?_
  refine WL.want rfl (congrArg Value.bool (decide_eq_false (by omega))) ?_
  refine WL.q (Wn.no rfl) rfl rfl (R.move (v := (.string (bstr l))) rfl) ?_
  refine WL.want rfl (congrArg Value.bool (decide_eq_false (by omega))) ?_
  refine WL.q (Wn.no rfl) rfl rfl (R.lenStrL (l := l) (m := n) rfl rfl Try.underlying9 hl) ?_
  refine WL.want rfl (congrArg Value.bool (decide_eq_false (by omega))) ?_
  refine WL.q (Wn.no rfl) rfl rfl (R.bin (v := (.bool (decide ((((n : Nat) : Int) : Int) > 64)))) rfl rfl (bi_gtr (r := decide ((((n : Nat) : Int) : Int) > 64)) rfl)) ?_
  refine WL.q (Wn.no rfl) rfl rfl (R.pickF (v := (.bool (decide ((((n : Nat) : Int) : Int) > 64)))) (congrArg Value.bool (decide_eq_false (by omega))) rfl) ?_
  refine WL.nil ?_
  refine thn_n ?_
  refine WP.condF (congrArg Value.bool (decide_eq_false (by omega))) ?_
  refine WP.skip ?_
  refine thn_n ?_
  refine WP.seq ?_
  refine WP.reg ?_
  refine WL.q (Wn.no rfl) rfl rfl (R.move (v := (vu64 x)) rfl) ?_
  refine WL.call (al := [(vu64 x), (vi 8)]) Try.call60 rfl rfl (c_Put_b x 8 rfl _) rfl ?_
  rintro _ w_9 ⟨a_7, cap_8, rfl, hc_10, ho_11⟩
  have h_12 := h_6.gotRow hc_10 ho_11
  refine WL.q (Wn.no rfl) rfl rfl (R.move (v := (.tuple [(.slice a_7 8 cap_8), (vi 0)].toArray)) rfl) ?_
  refine WL.q (Wn.no rfl) rfl rfl (R.extract (l := [(.slice a_7 8 cap_8), (vi 0)]) (v := (.slice a_7 8 cap_8)) rfl rfl) ?_
  refine WL.q (Wn.no rfl) rfl rfl (R.extract (l := [(.slice a_7 8 cap_8), (vi 0)]) (v := (vi 0)) rfl rfl) ?_
  refine WL.q (Wn.no rfl) rfl rfl (R.assign (v := (.slice a_7 8 cap_8)) rfl) ?_
  refine WL.q (Wn.no rfl) rfl rfl (R.assign (v := (vi 0)) rfl) ?_
  refine WL.nil ?_
  refine thn_n ?_
  refine WP.seq ?_
  refine WP.reg ?_
  refine WL.q (Wn.no rfl) rfl rfl (R.move (v := (.string (bstr l))) rfl) ?_
  refine WL.toBytes (bs := l) h_12 rfl Try.underlying9 Try.underlying26 Try.underlying5 (by simp only [maxLen]; first | decide | omega) rfl (fun a_13 c_14 w_15 h_16 => ?_)
  refine WL.q (Wn.no rfl) rfl rfl (R.move (v := (.slice a_7 8 cap_8)) rfl) ?_
  refine WL.buildSl (vs := [(0, (.slice a_13 l.length c_14)), (1, (.slice a_7 8 cap_8))]) (cs := [(.slice a_13 l.length c_14), (.slice a_7 8 cap_8)]) h_16 Try.underlying40 Try.sizeOf26 (zv Try.typeInfo26 rfl) rfl rfl (by kernel_rfl) rfl (by simp [Value.oneCell']) rfl rfl (fun b_17 w_18 h_19 => ?_)
  refine WL.call (al := [(.slice (some ⟨b_17, 0, none⟩) 2 2)]) Try.call65 rfl rfl (c_Pack_t (some ⟨b_17, 0, none⟩) 2 2 [(.slice a_13 l.length c_14), (.slice a_7 8 cap_8)] [l, leN 8 x.toNat] rfl (may2 hl (by omega) x) _ (viewB (h_19.ok _ (.head _)) Sg.h) (Sls.cons (rfl : List.length l = l.length) (h_19.own (.tail _ (.head _))).2.2.1 (ownView (h_19.ok _ (.tail _ (.head _)))) (Sls.cons (leN_len ..) (h_19.own (.tail _ (.tail _ (.head _)))).2.2.1 (ownView (h_19.ok _ (.tail _ (.tail _ (.head _))))) Sls.nil))) rfl ?_
  rintro _ w_22 ⟨a_20, cap_21, rfl, hc_23, ho_24⟩
  have h_25 := h_19.gotRow hc_23 ho_24
  refine WL.q (Wn.no rfl) rfl rfl (R.move (v := (.tuple [(.slice a_20 ((Go.Wr.packL [l, leN 8 x.toNat]).length) cap_21), (vi 0)].toArray)) rfl) ?_
  refine WL.q (Wn.no rfl) rfl rfl (R.extract (l := [(.slice a_20 ((Go.Wr.packL [l, leN 8 x.toNat]).length) cap_21), (vi 0)]) (v := (.slice a_20 ((Go.Wr.packL [l, leN 8 x.toNat]).length) cap_21)) rfl rfl) ?_
  refine WL.q (Wn.no rfl) rfl rfl (R.extract (l := [(.slice a_20 ((Go.Wr.packL [l, leN 8 x.toNat]).length) cap_21), (vi 0)]) (v := (vi 0)) rfl rfl) ?_
  refine WL.q (Wn.no rfl) rfl rfl (R.assign (v := (.slice a_20 ((Go.Wr.packL [l, leN 8 x.toNat]).length) cap_21)) rfl) ?_
  refine WL.q (Wn.no rfl) rfl rfl (R.assign (v := (vi 0)) rfl) ?_
  refine WL.nil ?_
  refine thn_n ?_
  refine WP.seq ?_
  refine WP.seq ?_
  refine WP.reg ?_
  refine WL.q (Wn.no rfl) rfl rfl (R.move (v := (vi 0)) rfl) ?_
  refine WL.q (Wn.no rfl) rfl rfl (R.bin (v := (.bool false)) rfl rfl (bi_neq (r := false) (by decide))) ?_
  refine WL.nil ?_
  refine thn_n ?_
  refine WP.condF rfl ?_
  refine WP.skip ?_
  refine thn_n ?_
  refine WP.seq ?_
  refine WP.reg ?_
  refine WL.q (Wn.no rfl) rfl rfl (R.sliceA (b := b_1) (off := 0) (off' := 0) (l := 0) (h := 32) rfl EvB.dflt EvB.dflt (by decide) (by decide) Try.underlying28 Try.sizeOf5 rfl) ?_
  refine WL.q (Wn.no rfl) rfl rfl (R.move (v := (.slice a_20 ((Go.Wr.packL [l, leN 8 x.toNat]).length) cap_21)) rfl) ?_
  refine WL.call (al := [(.slice (some ⟨b_1, 0, none⟩) 32 32), (.slice a_20 ((Go.Wr.packL [l, leN 8 x.toNat]).length) cap_21)]) Try.call36 rfl rfl (c_Tag (some ⟨b_1, 0, none⟩) 32 32 key hkey (by decide) (by decide) a_20 ((Go.Wr.packL [l, leN 8 x.toNat]).length) cap_21 (Go.Wr.packL [l, leN 8 x.toNat]) (rfl : List.length (Go.Wr.packL [l, leN 8 x.toNat]) = (Go.Wr.packL [l, leN 8 x.toNat]).length) (h_25.own (.head _)).2.2.1 (by rw [pack2_len hl x]; omega) _ (viewB (h_25.ok _ (.tail _ (.tail _ (.tail _ (.tail _ (.tail _ (.head _))))))) Sg.h) (ownView (h_25.ok _ (.head _)))) rfl ?_
  rintro _ w_27 ⟨rfl, hc_26⟩
  have h_28 := h_25.same hc_26
  refine WL.storeA (b := b_4) (off := 0) [] [(32, (List.replicate 32 (0 : UInt8)).map vu8)] [(32, (tagL key (Go.Wr.packL [l, leN 8 x.toNat])).map vu8)] [] (ys := (tagL key (Go.Wr.packL [l, leN 8 x.toNat])).map vu8) h_28 rfl rfl Try.sizeOf28 (At.t (At.t (At.t (At.t At.h)))) (by decide) rfl rfl rfl rfl rfl rfl (SsOk.cons (SOk.u8 (tagL_len _ _)) SsOk.nil) (fun w_29 h_30 => ?_)
  refine WL.q (Wn.no rfl) rfl rfl (R.assign (v := (vi 0)) rfl) ?_
  refine WL.nil ?_
  refine thn_n ?_
  refine WP.ret ?_
  refine ret_of Try.results39 (RV.cell rfl (h_30.loadA (cs := (tagL key (Go.Wr.packL [l, leN 8 x.toNat])).map vu8) Try.isAgg28 Try.sizeOf28 (.tail _ (.tail _ (.tail _ (.tail _ (.head _))))) rfl rfl) (RV.tmp (v := (vi 0)) rfl RV.nil)) ?_
  exact ⟨rfl, h_30.chgS⟩

theorem c_MayLabel_lo (l : List UInt8) (n : Nat) (hl : l.length = n) (h : n < 1) (w : World) :
    Cs Try.prog 40 [(.string (bstr l))].toArray w (fun v w1 => v = (.bool false) ∧ Chg w w1 []) := by
  refine Cs.of (n := 11) (args := [(.string (bstr l))]) Try.func40 rfl rfl rfl ?_
  have h_0 := HP.init w
  refine WP.seq ?_
  refine WP.reg ?_
  refine WL.q (Wn.no rfl) rfl rfl (R.assign (v := (.bool false)) rfl) ?_
  refine WL.nil ?_
  refine thn_n ?_
  refine WP.seq ?_
  refine WP.reg ?_
  refine WL.q (Wn.no rfl) rfl rfl (R.move (v := (.string (bstr l))) rfl) ?_
  refine WL.q (Wn.no rfl) rfl rfl (R.lenStrL (l := l) (m := n) rfl rfl Try.underlying9 hl) ?_
  refine WL.q (Wn.no rfl) rfl rfl (R.bin (v := (.bool (decide ((((n : Nat) : Int) : Int) ≥ 1)))) rfl rfl (bi_geq (r := decide ((((n : Nat) : Int) : Int) ≥ 1)) rfl)) ?_
  refine WL.q (Wn.no rfl) rfl rfl (R.move (v := (.bool (decide ((((n : Nat) : Int) : Int) ≥ 1)))) rfl) ?_
  refine WL.skip rfl (congrArg Value.bool (decide_eq_false (by omega))) rfl ?_
  refine WL.skip rfl (congrArg Value.bool (decide_eq_false (by omega))) rfl ?_
  refine WL.skip rfl (congrArg Value.bool (decide_eq_false (by omega))) rfl ?_
  refine WL.q (Wn.no rfl) rfl rfl (R.pickF (v := (.bool false)) (congrArg Value.bool (decide_eq_false (by omega))) rfl) ?_
  refine WL.q (Wn.no rfl) rfl rfl (R.assign (v := (.bool false)) rfl) ?_
  refine WL.nil ?_
  refine thn_n ?_
  refine WP.ret ?_
  refine ret_of Try.results40 (RV.tmp (v := (.bool false)) rfl RV.nil) ?_
  exact ⟨rfl, h_0.chgS⟩

theorem c_MayLabel_hi (l : List UInt8) (n : Nat) (hl : l.length = n) (h : 64 < n) (w : World) :
    Cs Try.prog 40 [(.string (bstr l))].toArray w (fun v w1 => v = (.bool false) ∧ Chg w w1 []) := by
  refine Cs.of (n := 11) (args := [(.string (bstr l))]) Try.func40 rfl rfl rfl ?_
  have h_0 := HP.init w
  refine WP.seq ?_
  refine WP.reg ?_
  refine WL.q (Wn.no rfl) rfl rfl (R.assign (v := (.bool false)) rfl) ?_
  refine WL.nil ?_
  refine thn_n ?_
  refine WP.seq ?_
  refine WP.reg ?_
  refine WL.q (Wn.no rfl) rfl rfl (R.move (v := (.string (bstr l))) rfl) ?_
  refine WL.q (Wn.no rfl) rfl rfl (R.lenStrL (l := l) (m := n) rfl rfl Try.underlying9 hl) ?_
  refine WL.q (Wn.no rfl) rfl rfl (R.bin (v := (.bool (decide ((((n : Nat) : Int) : Int) ≥ 1)))) rfl rfl (bi_geq (r := decide ((((n : Nat) : Int) : Int) ≥ 1)) rfl)) ?_
  refine WL.q (Wn.no rfl) rfl rfl (R.move (v := (.bool (decide ((((n : Nat) : Int) : Int) ≥ 1)))) rfl) ?_
  refine WL.want rfl (congrArg Value.bool (decide_eq_true (by omega))) ?_
  refine WL.q (Wn.no rfl) rfl rfl (R.move (v := (.string (bstr l))) rfl) ?_
  refine WL.want rfl (congrArg Value.bool (decide_eq_true (by omega))) ?_
  refine WL.q (Wn.no rfl) rfl rfl (R.lenStrL (l := l) (m := n) rfl rfl Try.underlying9 hl) ?_
  refine WL.want rfl (congrArg Value.bool (decide_eq_true (by omega))) ?_
  refine WL.q (Wn.no rfl) rfl rfl (R.bin (v := (.bool (decide ((((n : Nat) : Int) : Int) ≤ 64)))) rfl rfl (bi_leq (r := decide ((((n : Nat) : Int) : Int) ≤ 64)) rfl)) ?_
  refine WL.q (Wn.no rfl) rfl rfl (R.pickT (v := (.bool (decide ((((n : Nat) : Int) : Int) ≤ 64)))) (congrArg Value.bool (decide_eq_true (by omega))) rfl) ?_
  refine WL.q (Wn.no rfl) rfl rfl (R.assign (v := (.bool (decide ((((n : Nat) : Int) : Int) ≤ 64)))) rfl) ?_
  refine WL.nil ?_
  refine thn_n ?_
  refine WP.ret ?_
  refine ret_of Try.results40 (RV.tmp (v := (.bool (decide ((((n : Nat) : Int) : Int) ≤ 64)))) rfl RV.nil) ?_
  exact ⟨congrArg Value.bool (decide_eq_false (by omega)), h_0.chgS⟩

theorem c_MayLabel_ok (l : List UInt8) (n : Nat) (hl : l.length = n) (h1 : 1 ≤ n) (h : n ≤ 64) (w : World) :
    Cs Try.prog 40 [(.string (bstr l))].toArray w (fun v w1 => v = (.bool true) ∧ Chg w w1 []) := by
  refine Cs.of (n := 11) (args := [(.string (bstr l))]) Try.func40 rfl rfl rfl ?_
  have h_0 := HP.init w
  refine WP.seq ?_
  refine WP.reg ?_
  refine WL.q (Wn.no rfl) rfl rfl (R.assign (v := (.bool false)) rfl) ?_
  refine WL.nil ?_
  refine thn_n ?_
  refine WP.seq ?_
  refine WP.reg ?_
  refine WL.q (Wn.no rfl) rfl rfl (R.move (v := (.string (bstr l))) rfl) ?_
  refine WL.q (Wn.no rfl) rfl rfl (R.lenStrL (l := l) (m := n) rfl rfl Try.underlying9 hl) ?_
  refine WL.q (Wn.no rfl) rfl rfl (R.bin (v := (.bool (decide ((((n : Nat) : Int) : Int) ≥ 1)))) rfl rfl (bi_geq (r := decide ((((n : Nat) : Int) : Int) ≥ 1)) rfl)) ?_
  refine WL.q (Wn.no rfl) rfl rfl (R.move (v := (.bool (decide ((((n : Nat) : Int) : Int) ≥ 1)))) rfl) ?_
  refine WL.want rfl (congrArg Value.bool (decide_eq_true (by omega))) ?_
  refine WL.q (Wn.no rfl) rfl rfl (R.move (v := (.string (bstr l))) rfl) ?_
  refine WL.want rfl (congrArg Value.bool (decide_eq_true (by omega))) ?_
  refine WL.q (Wn.no rfl) rfl rfl (R.lenStrL (l := l) (m := n) rfl rfl Try.underlying9 hl) ?_
  refine WL.want rfl (congrArg Value.bool (decide_eq_true (by omega))) ?_
  refine WL.q (Wn.no rfl) rfl rfl (R.bin (v := (.bool (decide ((((n : Nat) : Int) : Int) ≤ 64)))) rfl rfl (bi_leq (r := decide ((((n : Nat) : Int) : Int) ≤ 64)) rfl)) ?_
  refine WL.q (Wn.no rfl) rfl rfl (R.pickT (v := (.bool (decide ((((n : Nat) : Int) : Int) ≤ 64)))) (congrArg Value.bool (decide_eq_true (by omega))) rfl) ?_
  refine WL.q (Wn.no rfl) rfl rfl (R.assign (v := (.bool (decide ((((n : Nat) : Int) : Int) ≤ 64)))) rfl) ?_
  refine WL.nil ?_
  refine thn_n ?_
  refine WP.ret ?_
  refine ret_of Try.results40 (RV.tmp (v := (.bool (decide ((((n : Nat) : Int) : Int) ≤ 64)))) rfl RV.nil) ?_
  exact ⟨congrArg Value.bool (decide_eq_true (by omega)), h_0.chgS⟩

theorem c_DeriveR (key l : List UInt8) (n : Nat) (hkey : key.length = 32) (hl : l.length = n) (x : UInt64) (h1 : 1 ≤ n) (h : n ≤ 64) (w : World) :
    Cs Try.prog 42 [(.agg ⟨key.map vu8⟩), (.string (bstr l)), (vu64 x)].toArray w (fun v w1 => v = (.agg ⟨(deriveL key l x).map vu8⟩) ∧ Chg w w1 []) := by
  refine Cs.of (n := 15) (args := [(.agg ⟨key.map vu8⟩), (.string (bstr l)), (vu64 x)]) Try.func42 rfl rfl rfl ?_
  have h_0 := HP.init w
  refine WP.seq ?_
  refine WP.reg ?_
  refine WL.box (v := (.agg ⟨key.map vu8⟩)) (segs := [(32, key.map vu8)]) h_0 rfl rfl (SsOk.cons (SOk.u8 hkey) SsOk.nil) rfl (fun b_1 w_2 h_3 => ?_)
  refine WL.alloc (segs := [(32, (List.replicate 32 (0 : UInt8)).map vu8)]) h_3 (zv Try.typeInfo28 rfl) rfl (SsOk.cons (SOk.u8 (List.length_replicate ..)) SsOk.nil) rfl (fun b_4 w_5 h_6 => ?_)
  refine WL.nil ?_
  refine thn_n ?_
  refine WP.seq ?_
  refine WP.cutG (G := Option Addr × Nat × Option Addr × Nat × Nat × Option Addr × Nat) [7, 8, 9, 10, 11, 12, 13, 14] (fun (aY1Y2Y0Y0, cY1Y2Y0Y0, aY1Y4Y0Y0, capY1Y4Y0Y0, bY1Y5Y0Y0, aY1Y6Y0Y0, capY1Y6Y0Y0) => [(7, (.slice (some ⟨b_1, 0, none⟩) 32 32)), (8, (.string (bstr l))), (10, (vu64 x)), (9, (.slice aY1Y2Y0Y0 l.length cY1Y2Y0Y0)), (11, (.slice aY1Y4Y0Y0 8 capY1Y4Y0Y0)), (12, (.slice (some ⟨bY1Y5Y0Y0, 0, none⟩) 2 2)), (13, (.slice aY1Y6Y0Y0 ((Go.Wr.packL [l, leN 8 x.toNat]).length) capY1Y6Y0Y0)), (14, (.agg ⟨(tagL key (Go.Wr.packL [l, leN 8 x.toNat])).map vu8⟩))]) (fun (aY1Y2Y0Y0, cY1Y2Y0Y0, aY1Y4Y0Y0, capY1Y4Y0Y0, bY1Y5Y0Y0, aY1Y6Y0Y0, capY1Y6Y0Y0) w1 => HP w w1 [.row aY1Y6Y0Y0 ((Go.Wr.packL [l, leN 8 x.toNat]).length) capY1Y6Y0Y0 5 1 ((Go.Wr.packL [l, leN 8 x.toNat]).map vu8), .blk bY1Y5Y0Y0 .nw 26 [(2, [(.slice aY1Y2Y0Y0 l.length cY1Y2Y0Y0), (.slice aY1Y4Y0Y0 8 capY1Y4Y0Y0)])], .row aY1Y4Y0Y0 8 capY1Y4Y0Y0 5 1 ((leN 8 x.toNat).map vu8), .row aY1Y2Y0Y0 l.length cY1Y2Y0Y0 5 1 (l.map vu8), .blk b_4 .nw 28 [(32, (tagL key (Go.Wr.packL [l, leN 8 x.toNat])).map vu8)], .blk b_1 .nw 28 [(32, key.map vu8)]]) ?_ ?_
  · refine WP.drawZ 8 (SL w.heap.size [.blk b_4 .nw 28 [(32, (List.replicate 32 (0 : UInt8)).map vu8)], .blk b_1 .nw 28 [(32, key.map vu8)]]) (.q 0 (.q 1 (.q 3 (.s2 2 4 (.s 4 (.s 5 (.s 6 (.s 7 (.s 8 .nil))))) (.s 2 (.s 5 (.s 6 (.s 7 (.s 8 .nil))))))))) (by kernel_rfl) (by kernel_rfl) rfl (by kernel_rfl) (fun w_7 hc_9 => (SL.cons ((h_6.same hc_9).ok _ (.head _)) (SL.cons ((h_6.same hc_9).ok _ (.tail _ (.head _))) (SL.nil _ _)))) (fun w_7 hc_9 => ?_)
    have h_8 := h_6.same hc_9
    refine ZT.q rfl (Wn.no rfl) rfl rfl (fun wq hS => R.sliceA (b := b_1) (off := 0) (off' := 0) (l := 0) (h := 32) rfl EvB.dflt EvB.dflt (by decide) (by decide) Try.underlying28 Try.sizeOf5 rfl) ?_
    refine ZT.q rfl (Wn.no rfl) rfl rfl (fun wq hS => R.move (v := (.string (bstr l))) rfl) ?_
    refine ZT.q rfl (Wn.no rfl) rfl rfl (fun wq hS => R.move (v := (vu64 x)) rfl) ?_
    refine ZT.s2 ?_ ?_
    · refine OpZ.one rfl (Wn.no rfl) ?_
      refine WL.toBytes (bs := l) h_8 rfl Try.underlying9 Try.underlying26 Try.underlying5 (by simp only [maxLen]; first | decide | omega) rfl (fun a_10 c_11 w_12 h_13 => ?_)
      refine WL.nil ?_
      refine ⟨(SL.cons (h_13.ok _ (.tail _ (.head _))) (SL.cons (h_13.ok _ (.tail _ (.tail _ (.head _)))) (SL.nil _ _))), ?_⟩
      refine ZT.s ?_
      refine OpZ.one rfl (Wn.no rfl) ?_
      refine WL.call (al := [(vu64 x), (vi 8)]) Try.call67 rfl rfl (c_PutR x 8 (by omega) _) rfl ?_
      rintro _ w_16 ⟨a_14, cap_15, rfl, hc_17, ho_18⟩
      have h_19 := h_13.gotRow hc_17 ho_18
      refine WL.nil ?_
      refine ⟨(SL.cons (h_19.ok _ (.tail _ (.tail _ (.head _)))) (SL.cons (h_19.ok _ (.tail _ (.tail _ (.tail _ (.head _))))) (SL.nil _ _))), ?_⟩
      refine ZT.s ?_
      refine OpZ.one rfl (Wn.no rfl) ?_
      refine WL.buildSl (vs := [(0, (.slice a_10 l.length c_11)), (1, (.slice a_14 8 cap_15))]) (cs := [(.slice a_10 l.length c_11), (.slice a_14 8 cap_15)]) h_19 Try.underlying40 Try.sizeOf26 (zv Try.typeInfo26 rfl) rfl rfl (by kernel_rfl) rfl (by simp [Value.oneCell']) rfl rfl (fun b_20 w_21 h_22 => ?_)
      refine WL.nil ?_
      refine ⟨(SL.cons (h_22.ok _ (.tail _ (.tail _ (.tail _ (.head _))))) (SL.cons (h_22.ok _ (.tail _ (.tail _ (.tail _ (.tail _ (.head _)))))) (SL.nil _ _))), ?_⟩
      refine ZT.s ?_
      refine OpZ.one rfl (Wn.no rfl) ?_
      refine WL.call (al := [(.slice (some ⟨b_20, 0, none⟩) 2 2)]) Try.call66 rfl rfl (c_PackR (some ⟨b_20, 0, none⟩) 2 2 [(.slice a_10 l.length c_11), (.slice a_14 8 cap_15)] [l, leN 8 x.toNat] rfl (may2 hl (by omega) x) _ (viewB (h_22.ok _ (.head _)) Sg.h) (Sls.cons (rfl : List.length l = l.length) (h_22.own (.tail _ (.tail _ (.head _)))).2.2.1 (ownView (h_22.ok _ (.tail _ (.tail _ (.head _))))) (Sls.cons (leN_len ..) (h_22.own (.tail _ (.head _))).2.2.1 (ownView (h_22.ok _ (.tail _ (.head _)))) Sls.nil))) rfl ?_
      rintro _ w_25 ⟨a_23, cap_24, rfl, hc_26, ho_27⟩
      have h_28 := h_22.gotRow hc_26 ho_27
      refine WL.nil ?_
      refine ⟨(SL.cons (h_28.ok _ (.tail _ (.tail _ (.tail _ (.tail _ (.head _)))))) (SL.cons (h_28.ok _ (.tail _ (.tail _ (.tail _ (.tail _ (.tail _ (.head _))))))) (SL.nil _ _))), ?_⟩
      refine ZT.s ?_
      refine OpZ.one rfl (Wn.no rfl) ?_
      refine WL.call (al := [(.slice (some ⟨b_1, 0, none⟩) 32 32), (.slice a_23 ((Go.Wr.packL [l, leN 8 x.toNat]).length) cap_24)]) Try.call37 rfl rfl (c_TagR (some ⟨b_1, 0, none⟩) 32 32 key hkey (by decide) (by decide) a_23 ((Go.Wr.packL [l, leN 8 x.toNat]).length) cap_24 (Go.Wr.packL [l, leN 8 x.toNat]) (rfl : List.length (Go.Wr.packL [l, leN 8 x.toNat]) = (Go.Wr.packL [l, leN 8 x.toNat]).length) (h_28.own (.head _)).2.2.1 (by rw [pack2_len hl x]; omega) _ (viewB (h_28.ok _ (.tail _ (.tail _ (.tail _ (.tail _ (.tail _ (.head _))))))) Sg.h) (ownView (h_28.ok _ (.head _)))) rfl ?_
      rintro _ w_30 ⟨rfl, hc_29⟩
      have h_31 := h_28.same hc_29
      refine WL.nil ?_
      refine ⟨(SL.cons (h_31.ok _ (.tail _ (.tail _ (.tail _ (.tail _ (.head _)))))) (SL.cons (h_31.ok _ (.tail _ (.tail _ (.tail _ (.tail _ (.tail _ (.head _))))))) (SL.nil _ _))), ?_⟩
      refine ZT.s ?_
      refine OpZ.last rfl (Wn.no rfl) ?_
      refine WL.storeA (b := b_4) (off := 0) [] [(32, (List.replicate 32 (0 : UInt8)).map vu8)] [(32, (tagL key (Go.Wr.packL [l, leN 8 x.toNat])).map vu8)] [] (ys := (tagL key (Go.Wr.packL [l, leN 8 x.toNat])).map vu8) h_31 rfl rfl Try.sizeOf28 (At.t (At.t (At.t (At.t At.h)))) (by decide) rfl rfl rfl rfl rfl rfl (SsOk.cons (SOk.u8 (tagL_len _ _)) SsOk.nil) (fun w_32 h_33 => ?_)
      refine WL.nil ?_
      refine ZT.nil ?_
      refine thn_n ?_
      exact ⟨(a_10, c_11, a_14, cap_15, b_20, a_23, cap_24), (Ag.upd rfl (Ag.upd rfl (Ag.upd rfl (Ag.upd rfl (Ag.upd rfl (Ag.upd rfl (Ag.upd rfl (Ag.upd rfl (Ag.refl _ _))))))))), ⟨rfl, rfl, rfl, rfl, rfl, rfl, rfl, rfl, trivial⟩, h_33⟩
    · refine OpZ.one rfl (Wn.no rfl) ?_
      refine WL.call (al := [(vu64 x), (vi 8)]) Try.call67 rfl rfl (c_PutR x 8 (by omega) _) rfl ?_
      rintro _ w_36 ⟨a_34, cap_35, rfl, hc_37, ho_38⟩
      have h_39 := h_8.gotRow hc_37 ho_38
      refine WL.nil ?_
      refine ⟨(SL.cons (h_39.ok _ (.tail _ (.head _))) (SL.cons (h_39.ok _ (.tail _ (.tail _ (.head _)))) (SL.nil _ _))), ?_⟩
      refine ZT.s ?_
      refine OpZ.one rfl (Wn.no rfl) ?_
      refine WL.toBytes (bs := l) h_39 rfl Try.underlying9 Try.underlying26 Try.underlying5 (by simp only [maxLen]; first | decide | omega) rfl (fun a_40 c_41 w_42 h_43 => ?_)
      refine WL.nil ?_
      refine ⟨(SL.cons (h_43.ok _ (.tail _ (.tail _ (.head _)))) (SL.cons (h_43.ok _ (.tail _ (.tail _ (.tail _ (.head _))))) (SL.nil _ _))), ?_⟩
      refine ZT.s ?_
      refine OpZ.one rfl (Wn.no rfl) ?_
      refine WL.buildSl (vs := [(0, (.slice a_40 l.length c_41)), (1, (.slice a_34 8 cap_35))]) (cs := [(.slice a_40 l.length c_41), (.slice a_34 8 cap_35)]) h_43 Try.underlying40 Try.sizeOf26 (zv Try.typeInfo26 rfl) rfl rfl (by kernel_rfl) rfl (by simp [Value.oneCell']) rfl rfl (fun b_44 w_45 h_46 => ?_)
      refine WL.nil ?_
      refine ⟨(SL.cons (h_46.ok _ (.tail _ (.tail _ (.tail _ (.head _))))) (SL.cons (h_46.ok _ (.tail _ (.tail _ (.tail _ (.tail _ (.head _)))))) (SL.nil _ _))), ?_⟩
      refine ZT.s ?_
      refine OpZ.one rfl (Wn.no rfl) ?_
      refine WL.call (al := [(.slice (some ⟨b_44, 0, none⟩) 2 2)]) Try.call66 rfl rfl (c_PackR (some ⟨b_44, 0, none⟩) 2 2 [(.slice a_40 l.length c_41), (.slice a_34 8 cap_35)] [l, leN 8 x.toNat] rfl (may2 hl (by omega) x) _ (viewB (h_46.ok _ (.head _)) Sg.h) (Sls.cons (rfl : List.length l = l.length) (h_46.own (.tail _ (.head _))).2.2.1 (ownView (h_46.ok _ (.tail _ (.head _)))) (Sls.cons (leN_len ..) (h_46.own (.tail _ (.tail _ (.head _)))).2.2.1 (ownView (h_46.ok _ (.tail _ (.tail _ (.head _))))) Sls.nil))) rfl ?_
      rintro _ w_49 ⟨a_47, cap_48, rfl, hc_50, ho_51⟩
      have h_52 := h_46.gotRow hc_50 ho_51
      refine WL.nil ?_
      refine ⟨(SL.cons (h_52.ok _ (.tail _ (.tail _ (.tail _ (.tail _ (.head _)))))) (SL.cons (h_52.ok _ (.tail _ (.tail _ (.tail _ (.tail _ (.tail _ (.head _))))))) (SL.nil _ _))), ?_⟩
      refine ZT.s ?_
      refine OpZ.one rfl (Wn.no rfl) ?_
      refine WL.call (al := [(.slice (some ⟨b_1, 0, none⟩) 32 32), (.slice a_47 ((Go.Wr.packL [l, leN 8 x.toNat]).length) cap_48)]) Try.call37 rfl rfl (c_TagR (some ⟨b_1, 0, none⟩) 32 32 key hkey (by decide) (by decide) a_47 ((Go.Wr.packL [l, leN 8 x.toNat]).length) cap_48 (Go.Wr.packL [l, leN 8 x.toNat]) (rfl : List.length (Go.Wr.packL [l, leN 8 x.toNat]) = (Go.Wr.packL [l, leN 8 x.toNat]).length) (h_52.own (.head _)).2.2.1 (by rw [pack2_len hl x]; omega) _ (viewB (h_52.ok _ (.tail _ (.tail _ (.tail _ (.tail _ (.tail _ (.head _))))))) Sg.h) (ownView (h_52.ok _ (.head _)))) rfl ?_
      rintro _ w_54 ⟨rfl, hc_53⟩
      have h_55 := h_52.same hc_53
      refine WL.nil ?_
      refine ⟨(SL.cons (h_55.ok _ (.tail _ (.tail _ (.tail _ (.tail _ (.head _)))))) (SL.cons (h_55.ok _ (.tail _ (.tail _ (.tail _ (.tail _ (.tail _ (.head _))))))) (SL.nil _ _))), ?_⟩
      refine ZT.s ?_
      refine OpZ.last rfl (Wn.no rfl) ?_
      refine WL.storeA (b := b_4) (off := 0) [] [(32, (List.replicate 32 (0 : UInt8)).map vu8)] [(32, (tagL key (Go.Wr.packL [l, leN 8 x.toNat])).map vu8)] [] (ys := (tagL key (Go.Wr.packL [l, leN 8 x.toNat])).map vu8) h_55 rfl rfl Try.sizeOf28 (At.t (At.t (At.t (At.t At.h)))) (by decide) rfl rfl rfl rfl rfl rfl (SsOk.cons (SOk.u8 (tagL_len _ _)) SsOk.nil) (fun w_56 h_57 => ?_)
      refine WL.nil ?_
      refine ZT.nil ?_
      refine thn_n ?_
      have h_58 := h_57.up (Pick.t (Pick.t (Pick.t (Pick.t (Pick.t Pick.h)))))
      have h_59 := h_58.up (Pick.t (Pick.t (Pick.t (Pick.t (Pick.t Pick.h)))))
      have h_60 := h_59.up (Pick.t (Pick.t (Pick.t (Pick.t Pick.h))))
      have h_61 := h_60.up (Pick.t (Pick.t (Pick.t (Pick.t (Pick.t Pick.h)))))
      have h_62 := h_61.up (Pick.t (Pick.t (Pick.t (Pick.t (Pick.t Pick.h)))))
      have h_63 := h_62.up (Pick.t (Pick.t (Pick.t (Pick.t (Pick.t Pick.h)))))
      exact ⟨(a_40, c_41, a_34, cap_35, b_44, a_47, cap_48), (Ag.upd rfl (Ag.upd rfl (Ag.upd rfl (Ag.upd rfl (Ag.upd rfl (Ag.upd rfl (Ag.upd rfl (Ag.upd rfl (Ag.refl _ _))))))))), ⟨rfl, rfl, rfl, rfl, rfl, rfl, rfl, rfl, trivial⟩, h_63⟩
  · rintro ⟨a_67, c_68, a_69, cap_70, b_71, a_72, cap_73⟩ J_64 w_65 h_66
    refine thn_n ?_
    refine WP.ret ?_
    refine ret_of Try.results42 (RV.cell rfl (h_66.loadA (cs := (tagL key (Go.Wr.packL [l, leN 8 x.toNat])).map vu8) Try.isAgg28 Try.sizeOf28 (.tail _ (.tail _ (.tail _ (.tail _ (.head _))))) rfl rfl) RV.nil) ?_
    exact ⟨rfl, h_66.chgS⟩

theorem c_Keys_lo (key l : List UInt8) (n : Nat) (hkey : key.length = 32) (hl : l.length = n) (c : Int) (h : n < 1) (w : World) :
    Cs Try.prog 43 [(.agg ⟨key.map vu8⟩), (.string (bstr l)), (vi c)].toArray w (fun v w1 => v = (.tuple [(.slice none 0 0), (vi 2)].toArray) ∧ Chg w w1 []) := by
  refine Cs.of (n := 48) (args := [(.agg ⟨key.map vu8⟩), (.string (bstr l)), (vi c)]) Try.func43 rfl rfl rfl ?_
  have h_0 := HP.init w
  refine WP.seq ?_
  refine WP.reg ?_
  refine WL.box (v := (.agg ⟨key.map vu8⟩)) (segs := [(32, key.map vu8)]) h_0 rfl rfl (SsOk.cons (SOk.u8 hkey) SsOk.nil) rfl (fun b_1 w_2 h_3 => ?_)
  refine WL.q (Wn.no rfl) rfl rfl (R.assign (v := (.slice none 0 0)) rfl) ?_
  refine WL.q (Wn.no rfl) rfl rfl (R.assign (v := (vi 0)) rfl) ?_
  refine WL.nil ?_
  refine thn_n ?_
  refine WP.seq ?_
  refine WP.seq ?_
  refine WP.reg ?_
  refine WL.q (Wn.no rfl) rfl rfl (R.loadA (b := b_1) (off := 0) [] [(32, key.map vu8)] [] (cs := key.map vu8) rfl Try.isAgg28 Try.sizeOf28 (h_3.ok _ (.head _)) rfl rfl rfl rfl) ?_
  refine WL.q (Wn.no rfl) rfl rfl (R.move (v := (.string (bstr l))) rfl) ?_
  refine WL.call (al := [(.agg ⟨key.map vu8⟩), (.string (bstr l)), (vu64 0)]) Try.call39 rfl rfl (c_Derive_lo key l n hkey hl (0 : UInt64) (by omega) _ ) rfl ?_
  rintro _ w_5 ⟨rfl, hc_4⟩
  have h_6 := h_3.same hc_4
  refine WL.q (Wn.no rfl) rfl rfl (R.move (v := (.tuple [(.agg ⟨(List.replicate 32 (0 : UInt8)).map vu8⟩), (vi 2)].toArray)) rfl) ?_
  refine WL.q (Wn.no rfl) rfl rfl (R.extract (l := [(.agg ⟨(List.replicate 32 (0 : UInt8)).map vu8⟩), (vi 2)]) (v := (.agg ⟨(List.replicate 32 (0 : UInt8)).map vu8⟩)) rfl rfl) ?_
  refine WL.q (Wn.no rfl) rfl rfl (R.extract (l := [(.agg ⟨(List.replicate 32 (0 : UInt8)).map vu8⟩), (vi 2)]) (v := (vi 2)) rfl rfl) ?_
  refine WL.alloc (segs := [(32, (List.replicate 32 (0 : UInt8)).map vu8)]) h_6 (zv Try.typeInfo28 rfl) rfl (SsOk.cons (SOk.u8 (List.length_replicate ..)) SsOk.nil) rfl (fun b_7 w_8 h_9 => ?_)
  refine WL.storeA (b := b_7) (off := 0) [] [(32, (List.replicate 32 (0 : UInt8)).map vu8)] [(32, (List.replicate 32 (0 : UInt8)).map vu8)] [] (ys := (List.replicate 32 (0 : UInt8)).map vu8) h_9 rfl rfl Try.sizeOf28 At.h (by decide) rfl rfl rfl rfl rfl rfl (SsOk.cons (SOk.u8 (List.length_replicate ..)) SsOk.nil) (fun w_10 h_11 => ?_)
  refine WL.q (Wn.no rfl) rfl rfl (R.assign (v := (vi 2)) rfl) ?_
  refine WL.nil ?_
  refine thn_n ?_
  refine WP.seq ?_
  refine WP.reg ?_
  refine WL.q (Wn.no rfl) rfl rfl (R.move (v := (vi 2)) rfl) ?_
  refine WL.q (Wn.no rfl) rfl rfl (R.bin (v := (.bool true)) rfl rfl (bi_neq (r := true) (by decide))) ?_
  refine WL.q (Wn.no rfl) rfl rfl (R.move (v := (.bool true)) rfl) ?_
  refine WL.skip rfl rfl rfl ?_
  refine WL.skip rfl rfl rfl ?_
  refine WL.q (Wn.no rfl) rfl rfl (R.pickT (v := (.bool true)) rfl rfl) ?_
  refine WL.q (Wn.no rfl) rfl rfl (R.move (v := (.bool true)) rfl) ?_
  refine WL.skip rfl rfl rfl ?_
  refine WL.skip rfl rfl rfl ?_
  refine WL.q (Wn.no rfl) rfl rfl (R.pickT (v := (.bool true)) rfl rfl) ?_
  refine WL.nil ?_
  refine thn_n ?_
  refine WP.condT rfl ?_
  refine WP.seq ?_
  refine WP.reg ?_
  refine WL.q (Wn.no rfl) rfl rfl (R.assign (v := (.slice none 0 0)) rfl) ?_
  refine WL.q (Wn.no rfl) rfl rfl (R.assign (v := (vi 2)) rfl) ?_
  refine WL.nil ?_
  refine thn_n ?_
  refine WP.ret ?_
  refine thn_r ?_
  refine ret_of Try.results43 (RV.tmp (v := (.slice none 0 0)) rfl (RV.tmp (v := (vi 2)) rfl RV.nil)) ?_
  exact ⟨rfl, h_11.chgS⟩

theorem c_Keys_hi (key l : List UInt8) (n : Nat) (hkey : key.length = 32) (hl : l.length = n) (c : Int) (h : 64 < n) (w : World) :
    Cs Try.prog 43 [(.agg ⟨key.map vu8⟩), (.string (bstr l)), (vi c)].toArray w (fun v w1 => v = (.tuple [(.slice none 0 0), (vi 2)].toArray) ∧ Chg w w1 []) := by
  refine Cs.of (n := 48) (args := [(.agg ⟨key.map vu8⟩), (.string (bstr l)), (vi c)]) Try.func43 rfl rfl rfl ?_
  have h_0 := HP.init w
  refine WP.seq ?_
  refine WP.reg ?_
  refine WL.box (v := (.agg ⟨key.map vu8⟩)) (segs := [(32, key.map vu8)]) h_0 rfl rfl (SsOk.cons (SOk.u8 hkey) SsOk.nil) rfl (fun b_1 w_2 h_3 => ?_)
  refine WL.q (Wn.no rfl) rfl rfl (R.assign (v := (.slice none 0 0)) rfl) ?_
  refine WL.q (Wn.no rfl) rfl rfl (R.assign (v := (vi 0)) rfl) ?_
  refine WL.nil ?_
  refine thn_n ?_
  refine WP.seq ?_
  refine WP.seq ?_
  refine WP.reg ?_
  refine WL.q (Wn.no rfl) rfl rfl (R.loadA (b := b_1) (off := 0) [] [(32, key.map vu8)] [] (cs := key.map vu8) rfl Try.isAgg28 Try.sizeOf28 (h_3.ok _ (.head _)) rfl rfl rfl rfl) ?_
  refine WL.q (Wn.no rfl) rfl rfl (R.move (v := (.string (bstr l))) rfl) ?_
  refine WL.call (al := [(.agg ⟨key.map vu8⟩), (.string (bstr l)), (vu64 0)]) Try.call39 rfl rfl (c_Derive_hi key l n hkey hl (0 : UInt64) (by omega) _ ) rfl ?_
  rintro _ w_5 ⟨rfl, hc_4⟩
  have h_6 := h_3.same hc_4
  refine WL.q (Wn.no rfl) rfl rfl (R.move (v := (.tuple [(.agg ⟨(List.replicate 32 (0 : UInt8)).map vu8⟩), (vi 2)].toArray)) rfl) ?_
  refine WL.q (Wn.no rfl) rfl rfl (R.extract (l := [(.agg ⟨(List.replicate 32 (0 : UInt8)).map vu8⟩), (vi 2)]) (v := (.agg ⟨(List.replicate 32 (0 : UInt8)).map vu8⟩)) rfl rfl) ?_
  refine WL.q (Wn.no rfl) rfl rfl (R.extract (l := [(.agg ⟨(List.replicate 32 (0 : UInt8)).map vu8⟩), (vi 2)]) (v := (vi 2)) rfl rfl) ?_
  refine WL.alloc (segs := [(32, (List.replicate 32 (0 : UInt8)).map vu8)]) h_6 (zv Try.typeInfo28 rfl) rfl (SsOk.cons (SOk.u8 (List.length_replicate ..)) SsOk.nil) rfl (fun b_7 w_8 h_9 => ?_)
  refine WL.storeA (b := b_7) (off := 0) [] [(32, (List.replicate 32 (0 : UInt8)).map vu8)] [(32, (List.replicate 32 (0 : UInt8)).map vu8)] [] (ys := (List.replicate 32 (0 : UInt8)).map vu8) h_9 rfl rfl Try.sizeOf28 At.h (by decide) rfl rfl rfl rfl rfl rfl (SsOk.cons (SOk.u8 (List.length_replicate ..)) SsOk.nil) (fun w_10 h_11 => ?_)
  refine WL.q (Wn.no rfl) rfl rfl (R.assign (v := (vi 2)) rfl) ?_
  refine WL.nil ?_
  refine thn_n ?_
  refine WP.seq ?_
  refine WP.reg ?_
  refine WL.q (Wn.no rfl) rfl rfl (R.move (v := (vi 2)) rfl) ?_
  refine WL.q (Wn.no rfl) rfl rfl (R.bin (v := (.bool true)) rfl rfl (bi_neq (r := true) (by decide))) ?_
  refine WL.q (Wn.no rfl) rfl rfl (R.move (v := (.bool true)) rfl) ?_
  refine WL.skip rfl rfl rfl ?_
  refine WL.skip rfl rfl rfl ?_
  refine WL.q (Wn.no rfl) rfl rfl (R.pickT (v := (.bool true)) rfl rfl) ?_
  refine WL.q (Wn.no rfl) rfl rfl (R.move (v := (.bool true)) rfl) ?_
  refine WL.skip rfl rfl rfl ?_
  refine WL.skip rfl rfl rfl ?_
  refine WL.q (Wn.no rfl) rfl rfl (R.pickT (v := (.bool true)) rfl rfl) ?_
  refine WL.nil ?_
  refine thn_n ?_
  refine WP.condT rfl ?_
  refine WP.seq ?_
  refine WP.reg ?_
  refine WL.q (Wn.no rfl) rfl rfl (R.assign (v := (.slice none 0 0)) rfl) ?_
  refine WL.q (Wn.no rfl) rfl rfl (R.assign (v := (vi 2)) rfl) ?_
  refine WL.nil ?_
  refine thn_n ?_
  refine WP.ret ?_
  refine thn_r ?_
  refine ret_of Try.results43 (RV.tmp (v := (.slice none 0 0)) rfl (RV.tmp (v := (vi 2)) rfl RV.nil)) ?_
  exact ⟨rfl, h_11.chgS⟩

theorem c_Keys_neg (key l : List UInt8) (n : Nat) (hkey : key.length = 32) (hl : l.length = n) (c : Int) (h1 : 1 ≤ n) (h : n ≤ 64) (hc : c < 0) (w : World) :
    Cs Try.prog 43 [(.agg ⟨key.map vu8⟩), (.string (bstr l)), (vi c)].toArray w (fun v w1 => v = (.tuple [(.slice none 0 0), (vi 2)].toArray) ∧ Chg w w1 []) := by
  refine Cs.of (n := 48) (args := [(.agg ⟨key.map vu8⟩), (.string (bstr l)), (vi c)]) Try.func43 rfl rfl rfl ?_
  have h_0 := HP.init w
  refine WP.seq ?_
  refine WP.reg ?_
  refine WL.box (v := (.agg ⟨key.map vu8⟩)) (segs := [(32, key.map vu8)]) h_0 rfl rfl (SsOk.cons (SOk.u8 hkey) SsOk.nil) rfl (fun b_1 w_2 h_3 => ?_)
  refine WL.q (Wn.no rfl) rfl rfl (R.assign (v := (.slice none 0 0)) rfl) ?_
  refine WL.q (Wn.no rfl) rfl rfl (R.assign (v := (vi 0)) rfl) ?_
  refine WL.nil ?_
  refine thn_n ?_
  refine WP.seq ?_
  refine WP.seq ?_
  refine WP.reg ?_
  refine WL.q (Wn.no rfl) rfl rfl (R.loadA (b := b_1) (off := 0) [] [(32, key.map vu8)] [] (cs := key.map vu8) rfl Try.isAgg28 Try.sizeOf28 (h_3.ok _ (.head _)) rfl rfl rfl rfl) ?_
  refine WL.q (Wn.no rfl) rfl rfl (R.move (v := (.string (bstr l))) rfl) ?_
  refine WL.call (al := [(.agg ⟨key.map vu8⟩), (.string (bstr l)), (vu64 0)]) Try.call39 rfl rfl (c_Derive_ok key l n hkey hl (0 : UInt64) (by omega) (by omega) _ ) rfl ?_
  rintro _ w_5 ⟨rfl, hc_4⟩
  have h_6 := h_3.same hc_4
  refine WL.q (Wn.no rfl) rfl rfl (R.move (v := (.tuple [(.agg ⟨(deriveL key l (0 : UInt64)).map vu8⟩), (vi 0)].toArray)) rfl) ?_
  refine WL.q (Wn.no rfl) rfl rfl (R.extract (l := [(.agg ⟨(deriveL key l (0 : UInt64)).map vu8⟩), (vi 0)]) (v := (.agg ⟨(deriveL key l (0 : UInt64)).map vu8⟩)) rfl rfl) ?_
  refine WL.q (Wn.no rfl) rfl rfl (R.extract (l := [(.agg ⟨(deriveL key l (0 : UInt64)).map vu8⟩), (vi 0)]) (v := (vi 0)) rfl rfl) ?_
  refine WL.alloc (segs := [(32, (List.replicate 32 (0 : UInt8)).map vu8)]) h_6 (zv Try.typeInfo28 rfl) rfl (SsOk.cons (SOk.u8 (List.length_replicate ..)) SsOk.nil) rfl (fun b_7 w_8 h_9 => ?_)
  refine WL.storeA (b := b_7) (off := 0) [] [(32, (List.replicate 32 (0 : UInt8)).map vu8)] [(32, (deriveL key l (0 : UInt64)).map vu8)] [] (ys := (deriveL key l (0 : UInt64)).map vu8) h_9 rfl rfl Try.sizeOf28 At.h (by decide) rfl rfl rfl rfl rfl rfl (SsOk.cons (SOk.u8 (deriveL_len _ _ _)) SsOk.nil) (fun w_10 h_11 => ?_)
  refine WL.q (Wn.no rfl) rfl rfl (R.assign (v := (vi 0)) rfl) ?_
  refine WL.nil ?_
  refine thn_n ?_
  refine WP.seq ?_
  refine WP.reg ?_
  refine WL.q (Wn.no rfl) rfl rfl (R.move (v := (vi 0)) rfl) ?_
  refine WL.q (Wn.no rfl) rfl rfl (R.bin (v := (.bool false)) rfl rfl (bi_neq (r := false) (by decide))) ?_
  refine WL.q (Wn.no rfl) rfl rfl (R.move (v := (.bool false)) rfl) ?_
  refine WL.want rfl rfl ?_
  refine WL.q (Wn.no rfl) rfl rfl (R.move (v := (vi c)) rfl) ?_
  refine WL.want rfl rfl ?_
  refine WL.q (Wn.no rfl) rfl rfl (R.bin (v := (.bool (decide ((c : Int) < 0)))) rfl rfl (bi_lss (r := decide ((c : Int) < 0)) rfl)) ?_
  refine WL.q (Wn.no rfl) rfl rfl (R.pickF (v := (.bool (decide ((c : Int) < 0)))) rfl rfl) ?_
  refine WL.q (Wn.no rfl) rfl rfl (R.move (v := (.bool (decide ((c : Int) < 0)))) rfl) ?_
  refine WL.skip rfl (congrArg Value.bool (decide_eq_true hc)) rfl ?_
  refine WL.skip rfl (congrArg Value.bool (decide_eq_true hc)) rfl ?_
  refine WL.q (Wn.no rfl) rfl rfl (R.pickT (v := (.bool true)) (congrArg Value.bool (decide_eq_true hc)) rfl) ?_
  refine WL.nil ?_
  refine thn_n ?_
  refine WP.condT rfl ?_
  refine WP.seq ?_
  refine WP.reg ?_
  refine WL.q (Wn.no rfl) rfl rfl (R.assign (v := (.slice none 0 0)) rfl) ?_
  refine WL.q (Wn.no rfl) rfl rfl (R.assign (v := (vi 2)) rfl) ?_
  refine WL.nil ?_
  refine thn_n ?_
  refine WP.ret ?_
  refine thn_r ?_
  refine ret_of Try.results43 (RV.tmp (v := (.slice none 0 0)) rfl (RV.tmp (v := (vi 2)) rfl RV.nil)) ?_
  exact ⟨rfl, h_11.chgS⟩

theorem c_Keys_big (key l : List UInt8) (n : Nat) (hkey : key.length = 32) (hl : l.length = n) (c : Int) (h1 : 1 ≤ n) (h : n ≤ 64) (hc : 256 < c) (w : World) :
    Cs Try.prog 43 [(.agg ⟨key.map vu8⟩), (.string (bstr l)), (vi c)].toArray w (fun v w1 => v = (.tuple [(.slice none 0 0), (vi 2)].toArray) ∧ Chg w w1 []) := by
  refine Cs.of (n := 48) (args := [(.agg ⟨key.map vu8⟩), (.string (bstr l)), (vi c)]) Try.func43 rfl rfl rfl ?_
  have h_0 := HP.init w
  refine WP.seq ?_
  refine WP.reg ?_
  refine WL.box (v := (.agg ⟨key.map vu8⟩)) (segs := [(32, key.map vu8)]) h_0 rfl rfl (SsOk.cons (SOk.u8 hkey) SsOk.nil) rfl (fun b_1 w_2 h_3 => ?_)
  refine WL.q (Wn.no rfl) rfl rfl (R.assign (v := (.slice none 0 0)) rfl) ?_
  refine WL.q (Wn.no rfl) rfl rfl (R.assign (v := (vi 0)) rfl) ?_
  refine WL.nil ?_
  refine thn_n ?_
  refine WP.seq ?_
  refine WP.seq ?_
  refine WP.reg ?_
  refine WL.q (Wn.no rfl) rfl rfl (R.loadA (b := b_1) (off := 0) [] [(32, key.map vu8)] [] (cs := key.map vu8) rfl Try.isAgg28 Try.sizeOf28 (h_3.ok _ (.head _)) rfl rfl rfl rfl) ?_
  refine WL.q (Wn.no rfl) rfl rfl (R.move (v := (.string (bstr l))) rfl) ?_
  refine WL.call (al := [(.agg ⟨key.map vu8⟩), (.string (bstr l)), (vu64 0)]) Try.call39 rfl rfl (c_Derive_ok key l n hkey hl (0 : UInt64) (by omega) (by omega) _ ) rfl ?_
  rintro _ w_5 ⟨rfl, hc_4⟩
  have h_6 := h_3.same hc_4
  refine WL.q (Wn.no rfl) rfl rfl (R.move (v := (.tuple [(.agg ⟨(deriveL key l (0 : UInt64)).map vu8⟩), (vi 0)].toArray)) rfl) ?_
  refine WL.q (Wn.no rfl) rfl rfl (R.extract (l := [(.agg ⟨(deriveL key l (0 : UInt64)).map vu8⟩), (vi 0)]) (v := (.agg ⟨(deriveL key l (0 : UInt64)).map vu8⟩)) rfl rfl) ?_
  refine WL.q (Wn.no rfl) rfl rfl (R.extract (l := [(.agg ⟨(deriveL key l (0 : UInt64)).map vu8⟩), (vi 0)]) (v := (vi 0)) rfl rfl) ?_
  refine WL.alloc (segs := [(32, (List.replicate 32 (0 : UInt8)).map vu8)]) h_6 (zv Try.typeInfo28 rfl) rfl (SsOk.cons (SOk.u8 (List.length_replicate ..)) SsOk.nil) rfl (fun b_7 w_8 h_9 => ?_)
  refine WL.storeA (b := b_7) (off := 0) [] [(32, (List.replicate 32 (0 : UInt8)).map vu8)] [(32, (deriveL key l (0 : UInt64)).map vu8)] [] (ys := (deriveL key l (0 : UInt64)).map vu8) h_9 rfl rfl Try.sizeOf28 At.h (by decide) rfl rfl rfl rfl rfl rfl (SsOk.cons (SOk.u8 (deriveL_len _ _ _)) SsOk.nil) (fun w_10 h_11 => ?_)
  refine WL.q (Wn.no rfl) rfl rfl (R.assign (v := (vi 0)) rfl) ?_
  refine WL.nil ?_
  refine thn_n ?_
  refine WP.seq ?_
  refine WP.reg ?_
  refine WL.q (Wn.no rfl) rfl rfl (R.move (v := (vi 0)) rfl) ?_
  refine WL.q (Wn.no rfl) rfl rfl (R.bin (v := (.bool false)) rfl rfl (bi_neq (r := false) (by decide))) ?_
  refine WL.q (Wn.no rfl) rfl rfl (R.move (v := (.bool false)) rfl) ?_
  refine WL.want rfl rfl ?_
  refine WL.q (Wn.no rfl) rfl rfl (R.move (v := (vi c)) rfl) ?_
  refine WL.want rfl rfl ?_
  refine WL.q (Wn.no rfl) rfl rfl (R.bin (v := (.bool (decide ((c : Int) < 0)))) rfl rfl (bi_lss (r := decide ((c : Int) < 0)) rfl)) ?_
  refine WL.q (Wn.no rfl) rfl rfl (R.pickF (v := (.bool (decide ((c : Int) < 0)))) rfl rfl) ?_
  refine WL.q (Wn.no rfl) rfl rfl (R.move (v := (.bool (decide ((c : Int) < 0)))) rfl) ?_
  refine WL.want rfl (congrArg Value.bool (decide_eq_false (by omega))) ?_
  refine WL.q (Wn.no rfl) rfl rfl (R.move (v := (vi c)) rfl) ?_
  refine WL.want rfl (congrArg Value.bool (decide_eq_false (by omega))) ?_
  refine WL.q (Wn.no rfl) rfl rfl (R.bin (v := (.bool (decide ((c : Int) > 256)))) rfl rfl (bi_gtr (r := decide ((c : Int) > 256)) rfl)) ?_
  refine WL.q (Wn.no rfl) rfl rfl (R.pickF (v := (.bool (decide ((c : Int) > 256)))) (congrArg Value.bool (decide_eq_false (by omega))) rfl) ?_
  refine WL.nil ?_
  refine thn_n ?_
  refine WP.condT (congrArg Value.bool (decide_eq_true hc)) ?_
  refine WP.seq ?_
  refine WP.reg ?_
  refine WL.q (Wn.no rfl) rfl rfl (R.assign (v := (.slice none 0 0)) rfl) ?_
  refine WL.q (Wn.no rfl) rfl rfl (R.assign (v := (vi 2)) rfl) ?_
  refine WL.nil ?_
  refine thn_n ?_
  refine WP.ret ?_
  refine thn_r ?_
  refine ret_of Try.results43 (RV.tmp (v := (.slice none 0 0)) rfl (RV.tmp (v := (vi 2)) rfl RV.nil)) ?_
  exact ⟨rfl, h_11.chgS⟩

theorem c_Keys_ok (key l : List UInt8) (n : Nat) (hkey : key.length = 32) (hl : l.length = n) (c : Nat) (h1 : 1 ≤ n) (h : n ≤ 64) (hc : c ≤ 256) (w : World) :
    Cs Try.prog 43 [(.agg ⟨key.map vu8⟩), (.string (bstr l)), (vi ((c : Nat) : Int))].toArray w (fun v w1 => ∃ a cap, v = .tuple [.slice a c cap, vi 0].toArray ∧ Chg w w1 [] ∧ Own w.heap.size w1 28 32 a c cap ((kfL key l c).map vu8)) := by
  refine Cs.of (n := 48) (args := [(.agg ⟨key.map vu8⟩), (.string (bstr l)), (vi ((c : Nat) : Int))]) Try.func43 rfl rfl rfl ?_
  have h_0 := HP.init w
  refine WP.seq ?_
  refine WP.reg ?_
  refine WL.box (v := (.agg ⟨key.map vu8⟩)) (segs := [(32, key.map vu8)]) h_0 rfl rfl (SsOk.cons (SOk.u8 hkey) SsOk.nil) rfl (fun b_1 w_2 h_3 => ?_)
  refine WL.q (Wn.no rfl) rfl rfl (R.assign (v := (.slice none 0 0)) rfl) ?_
  refine WL.q (Wn.no rfl) rfl rfl (R.assign (v := (vi 0)) rfl) ?_
  refine WL.nil ?_
  refine thn_n ?_
  refine WP.seq ?_
  refine WP.seq ?_
  refine WP.reg ?_
  refine WL.q (Wn.no rfl) rfl rfl (R.loadA (b := b_1) (off := 0) [] [(32, key.map vu8)] [] (cs := key.map vu8) rfl Try.isAgg28 Try.sizeOf28 (h_3.ok _ (.head _)) rfl rfl rfl rfl) ?_
  refine WL.q (Wn.no rfl) rfl rfl (R.move (v := (.string (bstr l))) rfl) ?_
  refine WL.call (al := [(.agg ⟨key.map vu8⟩), (.string (bstr l)), (vu64 0)]) Try.call39 rfl rfl (c_Derive_ok key l n hkey hl (0 : UInt64) (by omega) (by omega) _ ) rfl ?_
  rintro _ w_5 ⟨rfl, hc_4⟩
  have h_6 := h_3.same hc_4
  refine WL.q (Wn.no rfl) rfl rfl (R.move (v := (.tuple [(.agg ⟨(deriveL key l (0 : UInt64)).map vu8⟩), (vi 0)].toArray)) rfl) ?_
  refine WL.q (Wn.no rfl) rfl rfl (R.extract (l := [(.agg ⟨(deriveL key l (0 : UInt64)).map vu8⟩), (vi 0)]) (v := (.agg ⟨(deriveL key l (0 : UInt64)).map vu8⟩)) rfl rfl) ?_
  refine WL.q (Wn.no rfl) rfl rfl (R.extract (l := [(.agg ⟨(deriveL key l (0 : UInt64)).map vu8⟩), (vi 0)]) (v := (vi 0)) rfl rfl) ?_
  refine WL.alloc (segs := [(32, (List.replicate 32 (0 : UInt8)).map vu8)]) h_6 (zv Try.typeInfo28 rfl) rfl (SsOk.cons (SOk.u8 (List.length_replicate ..)) SsOk.nil) rfl (fun b_7 w_8 h_9 => ?_)
  refine WL.storeA (b := b_7) (off := 0) [] [(32, (List.replicate 32 (0 : UInt8)).map vu8)] [(32, (deriveL key l (0 : UInt64)).map vu8)] [] (ys := (deriveL key l (0 : UInt64)).map vu8) h_9 rfl rfl Try.sizeOf28 At.h (by decide) rfl rfl rfl rfl rfl rfl (SsOk.cons (SOk.u8 (deriveL_len _ _ _)) SsOk.nil) (fun w_10 h_11 => ?_)
  refine WL.q (Wn.no rfl) rfl rfl (R.assign (v := (vi 0)) rfl) ?_
  refine WL.nil ?_
  refine thn_n ?_
  refine WP.seq ?_
  refine WP.reg ?_
  refine WL.q (Wn.no rfl) rfl rfl (R.move (v := (vi 0)) rfl) ?_
  refine WL.q (Wn.no rfl) rfl rfl (R.bin (v := (.bool false)) rfl rfl (bi_neq (r := false) (by decide))) ?_
  refine WL.q (Wn.no rfl) rfl rfl (R.move (v := (.bool false)) rfl) ?_
  refine WL.want rfl rfl ?_
  refine WL.q (Wn.no rfl) rfl rfl (R.move (v := (vi ((c : Nat) : Int))) rfl) ?_
  refine WL.want rfl rfl ?_
  refine WL.q (Wn.no rfl) rfl rfl (R.bin (v := (.bool (decide ((((c : Nat) : Int) : Int) < 0)))) rfl rfl (bi_lss (r := decide ((((c : Nat) : Int) : Int) < 0)) rfl)) ?_
  refine WL.q (Wn.no rfl) rfl rfl (R.pickF (v := (.bool (decide ((((c : Nat) : Int) : Int) < 0)))) rfl rfl) ?_
  refine WL.q (Wn.no rfl) rfl rfl (R.move (v := (.bool (decide ((((c : Nat) : Int) : Int) < 0)))) rfl) ?_
  refine WL.want rfl (congrArg Value.bool (decide_eq_false (by omega))) ?_
  refine WL.q (Wn.no rfl) rfl rfl (R.move (v := (vi ((c : Nat) : Int))) rfl) ?_
  refine WL.want rfl (congrArg Value.bool (decide_eq_false (by omega))) ?_
  refine WL.q (Wn.no rfl) rfl rfl (R.bin (v := (.bool (decide ((((c : Nat) : Int) : Int) > 256)))) rfl rfl (bi_gtr (r := decide ((((c : Nat) : Int) : Int) > 256)) rfl)) ?_
  refine WL.q (Wn.no rfl) rfl rfl (R.pickF (v := (.bool (decide ((((c : Nat) : Int) : Int) > 256)))) (congrArg Value.bool (decide_eq_false (by omega))) rfl) ?_
  refine WL.nil ?_
  refine thn_n ?_
  refine WP.condF (congrArg Value.bool (decide_eq_false (by omega))) ?_
  refine WP.skip ?_
  refine thn_n ?_
  refine WP.seq ?_
  refine WP.reg ?_
  refine WL.q (Wn.no rfl) rfl rfl (R.assign (v := (.slice none 0 0)) rfl) ?_
  refine WL.nil ?_
  refine thn_n ?_
  refine WP.seq ?_
  refine WP.seq ?_
  refine WP.reg ?_
  refine WL.q (Wn.no rfl) rfl rfl (R.move (v := (vi ((c : Nat) : Int))) rfl) ?_
  refine WL.q (Wn.no rfl) rfl rfl (R.move (v := (vi 0)) rfl) ?_
  refine WL.nil ?_
  refine thn_n ?_
  refine WP.block ?_
  have h_12 := h_11.rowNil 28 32
  refine WP.loopG (G := Nat × Option Addr × Nat) [10, 11, 12, 13, 31, 32, 33, 34, 35, 36, 37, 38, 39, 40, 41, 42, 43, 44, 45, 46] (fun (k, ra, rc) => [(10, (.slice ra k rc)), (31, (vi ((k : Nat) : Int)))]) (fun (k, ra, rc) m w1 => HP w w1 [.row ra k rc 28 32 ((kfL key l k).map vu8), .blk b_7 .nw 28 [(32, (deriveL key l (0 : UInt64)).map vu8)], .blk b_1 .nw 28 [(32, key.map vu8)]] ∧ (k ≤ c) ∧ m = c - k) ⟨(0, none, 0), _, ⟨rfl, rfl, trivial⟩, h_12, Nat.zero_le _, rfl⟩ ?_
  rintro ⟨k, ra, rc⟩ m_15 J_16 w_13 ⟨h_14, hk, rfl⟩
  refine WP.seq ?_
  refine WP.reg ?_
  refine WL.q (Wn.no rfl) rfl rfl (R.bin (v := (.bool (decide ((((k : Nat) : Int) : Int) < ((c : Nat) : Int))))) rfl rfl (bi_lss (r := decide ((((k : Nat) : Int) : Int) < ((c : Nat) : Int))) rfl)) ?_
  refine WL.nil ?_
  refine thn_n ?_
  refine WP.seq ?_
  refine WP.cond (b := decide ((((k : Nat) : Int) : Int) < ((c : Nat) : Int))) rfl (fun c_17 => ?_) (fun c_17 => ?_)
  · have p_18 := of_decide_eq_true c_17
    refine WP.skip ?_
    refine thn_n ?_
    refine WP.seq ?_
    refine WP.block ?_
    refine WP.seq ?_
    refine WP.reg ?_
    refine WL.q (Wn.no rfl) rfl rfl (R.move (v := (vi ((k : Nat) : Int))) rfl) ?_
    refine WL.q (Wn.no rfl) rfl rfl (R.assign (v := (vi ((k : Nat) : Int))) rfl) ?_
    refine WL.nil ?_
    refine thn_n ?_
    refine WP.seq ?_
    refine WP.reg ?_
    refine WL.q (Wn.no rfl) rfl rfl (R.loadA (b := b_1) (off := 0) [] [(32, key.map vu8)] [] (cs := key.map vu8) rfl Try.isAgg28 Try.sizeOf28 (h_14.ok _ (.tail _ (.tail _ (.head _)))) rfl rfl rfl rfl) ?_
    refine WL.q (Wn.no rfl) rfl rfl (R.move (v := (.string (bstr l))) rfl) ?_
    refine WL.q (Wn.no rfl) rfl rfl (R.move (v := (vi ((k : Nat) : Int))) rfl) ?_
    refine WL.q (Wn.no rfl) rfl rfl (R.conv (b := ((UInt64.ofNat k) : UInt64).toNat) rfl Try.underlying3 Try.underlying58 (w64_nat k)) ?_
    refine WL.call (al := [(.agg ⟨key.map vu8⟩), (.string (bstr l)), (vu64 (UInt64.ofNat k))]) Try.call39 rfl rfl (c_Derive_ok key l n hkey hl (UInt64.ofNat k) (by omega) (by omega) _ ) rfl ?_
    rintro _ w_20 ⟨rfl, hc_19⟩
    have h_21 := h_14.same hc_19
    refine WL.q (Wn.no rfl) rfl rfl (R.move (v := (.tuple [(.agg ⟨(deriveL key l (UInt64.ofNat k)).map vu8⟩), (vi 0)].toArray)) rfl) ?_
    refine WL.q (Wn.no rfl) rfl rfl (R.extract (l := [(.agg ⟨(deriveL key l (UInt64.ofNat k)).map vu8⟩), (vi 0)]) (v := (.agg ⟨(deriveL key l (UInt64.ofNat k)).map vu8⟩)) rfl rfl) ?_
    refine WL.q (Wn.no rfl) rfl rfl (R.extract (l := [(.agg ⟨(deriveL key l (UInt64.ofNat k)).map vu8⟩), (vi 0)]) (v := (vi 0)) rfl rfl) ?_
    refine WL.alloc (segs := [(32, (List.replicate 32 (0 : UInt8)).map vu8)]) h_21 (zv Try.typeInfo28 rfl) rfl (SsOk.cons (SOk.u8 (List.length_replicate ..)) SsOk.nil) rfl (fun b_22 w_23 h_24 => ?_)
    refine WL.storeA (b := b_22) (off := 0) [] [(32, (List.replicate 32 (0 : UInt8)).map vu8)] [(32, (deriveL key l (UInt64.ofNat k)).map vu8)] [] (ys := (deriveL key l (UInt64.ofNat k)).map vu8) h_24 rfl rfl Try.sizeOf28 At.h (by decide) rfl rfl rfl rfl rfl rfl (SsOk.cons (SOk.u8 (deriveL_len _ _ _)) SsOk.nil) (fun w_25 h_26 => ?_)
    refine WL.q (Wn.no rfl) rfl rfl (R.assign (v := (vi 0)) rfl) ?_
    refine WL.nil ?_
    refine thn_n ?_
    refine WP.reg ?_
    refine WL.q (Wn.no rfl) rfl rfl (R.move (v := (.slice ra k rc)) rfl) ?_
    refine WL.q (Wn.no rfl) rfl rfl (R.loadA (b := b_22) (off := 0) [] [(32, (deriveL key l (UInt64.ofNat k)).map vu8)] [] (cs := (deriveL key l (UInt64.ofNat k)).map vu8) rfl Try.isAgg28 Try.sizeOf28 (h_26.ok _ (.head _)) rfl rfl rfl rfl) ?_
    refine WL.buildSl (vs := [(0, (.agg ⟨(deriveL key l (UInt64.ofNat k)).map vu8⟩))]) (cs := (deriveL key l (UInt64.ofNat k)).map vu8) h_26 Try.underlying63 Try.sizeOf28 (zv Try.typeInfo28 rfl) rfl rfl (fill_d (by kernel_rfl) (deriveL_len _ _ _)) (len_map (deriveL_len _ _ _)) (one_u8 _) rfl rfl (fun b_27 w_28 h_29 => ?_)
    refine WL.append (km := k + 1) (xs := (kfL key l k).map vu8) (ys := (deriveL key l (UInt64.ofNat k)).map vu8) (zs := (kfL key l (k + 1)).map vu8) h_29 rfl rfl el63 (viewB (h_29.ok _ (.head _)) Sg.h) (len_map (deriveL_len _ _ _)) (one_u8 _) (by rw [kfL, List.map_append]) (by omega) (by omega) (by omega) (fun _ _ => (At.t (At.t At.h))) rfl (fun a_30 c_31 w_32 h_33 => ?_)
    refine WL.q (Wn.no rfl) rfl rfl (R.assign (v := (.slice a_30 (k + 1) c_31)) rfl) ?_
    refine WL.nil ?_
    refine inb_n ?_
    refine thn_n ?_
    refine WP.reg ?_
    refine WL.q (Wn.no rfl) rfl rfl (R.bin (v := (vi ((k + 1 : Nat) : Int))) rfl rfl (bi_add (c := ((k + 1 : Nat) : Int)) (by omega) (by omega))) ?_
    refine WL.q (Wn.no rfl) rfl rfl (R.move (v := (vi ((k + 1 : Nat) : Int))) rfl) ?_
    refine WL.nil ?_
    refine thn_n ?_
    have h_34 := h_33.drop rfl
    have h_35 := h_34.drop rfl
    have h_36 := h_35.up (Pick.t (Pick.t Pick.h))
    have h_37 := h_36.up (Pick.t (Pick.t Pick.h))
    have h_38 := h_37.up (Pick.t (Pick.t Pick.h))
    exact ⟨(k + 1, a_30, c_31), _, (by omega), (Ag.upd rfl (Ag.upd rfl (Ag.upd rfl (Ag.upd rfl (Ag.upd rfl (Ag.upd rfl (Ag.upd rfl (Ag.upd rfl (Ag.upd rfl (Ag.upd rfl (Ag.upd rfl (Ag.upd rfl (Ag.upd rfl (Ag.upd rfl (Ag.upd rfl (Ag.upd rfl (Ag.upd rfl (Ag.upd rfl (Ag.upd rfl (Ag.upd rfl (Ag.updL rfl (Ag.mix _ _ _)))))))))))))))))))))), ⟨rfl, rfl, trivial⟩, h_38, (by omega), rfl⟩
  · have p_39 := of_decide_eq_false c_17
    refine WP.exit ?_
    refine thn_x ?_
    refine thn_x ?_
    refine inb_hit ?_
    refine thn_n ?_
    refine WP.seq ?_
    refine WP.reg ?_
    refine WL.q (Wn.no rfl) rfl rfl (R.move (v := (.slice ra k rc)) rfl) ?_
    refine WL.q (Wn.no rfl) rfl rfl (R.assign (v := (.slice ra k rc)) rfl) ?_
    refine WL.q (Wn.no rfl) rfl rfl (R.assign (v := (vi 0)) rfl) ?_
    refine WL.nil ?_
    refine thn_n ?_
    refine WP.ret ?_
    refine ret_of Try.results43 (RV.tmp (v := (.slice ra k rc)) rfl (RV.tmp (v := (vi 0)) rfl RV.nil)) ?_
    have hkc : k = c := by omega
    subst hkc
    exact ⟨_, _, rfl, h_14.chgS, h_14.own (.head _)⟩

theorem c_Half (d : List UInt8) (hd : d.length = 32) (w : World) :
    Cs Try.prog 44 [(.agg ⟨d.map vu8⟩)].toArray w (fun v w1 => v = (.tuple [(.agg ⟨(halfL d 0).map vu8⟩), (.agg ⟨(halfL d 16).map vu8⟩)].toArray) ∧ Chg w w1 []) := by
  refine Cs.of (n := 12) (args := [(.agg ⟨d.map vu8⟩)]) Try.func44 rfl rfl rfl ?_
  have h_0 := HP.init w
  refine WP.seq ?_
  refine WP.reg ?_
  refine WL.box (v := (.agg ⟨d.map vu8⟩)) (segs := [(32, d.map vu8)]) h_0 rfl rfl (SsOk.cons (SOk.u8 hd) SsOk.nil) rfl (fun b_1 w_2 h_3 => ?_)
  refine WL.alloc (segs := [(16, (List.replicate 16 (0 : UInt8)).map vu8)]) h_3 (zv Try.typeInfo67 rfl) rfl (SsOk.cons (SOk.u8 (List.length_replicate ..)) SsOk.nil) rfl (fun b_4 w_5 h_6 => ?_)
  refine WL.alloc (segs := [(16, (List.replicate 16 (0 : UInt8)).map vu8)]) h_6 (zv Try.typeInfo67 rfl) rfl (SsOk.cons (SOk.u8 (List.length_replicate ..)) SsOk.nil) rfl (fun b_7 w_8 h_9 => ?_)
  refine WL.nil ?_
  refine thn_n ?_
  refine WP.seq ?_
  refine WP.drawT (SL w.heap.size [.blk b_7 .nw 67 [(16, (List.replicate 16 (0 : UInt8)).map vu8)], .blk b_1 .nw 28 [(32, d.map vu8)]]) (.q 0 (.q 1 (.s 2 .nil))) (by kernel_rfl) (by kernel_rfl) rfl (by kernel_rfl) (fun w_10 hc_12 => (SL.cons ((h_9.same hc_12).ok _ (.head _)) (SL.cons ((h_9.same hc_12).ok _ (.tail _ (.tail _ (.head _)))) (SL.nil _ _)))) (fun w_10 hc_12 => ?_)
  have h_11 := h_9.same hc_12
  refine WT.q rfl (Wn.no rfl) rfl rfl (fun wq hS => R.sliceA (b := b_4) (off := 0) (off' := 0) (l := 0) (h := 16) rfl EvB.dflt EvB.dflt (by decide) (by decide) Try.underlying67 Try.sizeOf5 rfl) ?_
  refine WT.q rfl (Wn.no rfl) rfl rfl (fun wq hS => R.sliceA (b := b_1) (off := 0) (off' := 0) (l := 0) (h := 16) rfl EvB.dflt (EvB.it (l := 16) rfl rfl) (by decide) (by decide) Try.underlying28 Try.sizeOf5 rfl) ?_
  refine WT.s ?_
  refine Op1.one rfl (Wn.no rfl) ?_
  refine WL.copy (q := 16) (i := 0) (ys := ((d.drop 0).take 16).map vu8) (cs' := ((d.drop 0).take 16).map vu8) h_11 rfl rfl Try.underlying26 Try.sizeOf5 (viewPart 0 16 (h_11.ok _ (.tail _ (.tail _ (.head _)))) Sg.h) (len_map (subLen (K := 32) hd (by omega) : List.length ((d.drop 0).take 16) = 16)) (one_u8 _) (At.t At.h) (by decide) Sg.h rfl (by decide) (by rw [len_map (List.length_replicate ..)]; decide) (cpAll (subLen (K := 32) hd (by omega) : List.length ((d.drop 0).take 16) = 16) (List.length_replicate ..)) rfl (fun w_13 h_14 => ?_)
  refine WL.nil ?_
  refine ⟨(SL.cons (h_14.ok _ (.head _)) (SL.cons (h_14.ok _ (.tail _ (.tail _ (.head _)))) (SL.nil _ _))), ?_⟩
  refine WT.nil ?_
  refine thn_n ?_
  refine WP.seq ?_
  refine WP.drawT (SL w.heap.size [.blk b_4 .nw 67 [(16, ((d.drop 0).take 16).map vu8)], .blk b_1 .nw 28 [(32, d.map vu8)]]) (.q 0 (.q 1 (.s 2 .nil))) (by kernel_rfl) (by kernel_rfl) rfl (by kernel_rfl) (fun w_15 hc_17 => (SL.cons ((h_14.same hc_17).ok _ (.tail _ (.head _))) (SL.cons ((h_14.same hc_17).ok _ (.tail _ (.tail _ (.head _)))) (SL.nil _ _)))) (fun w_15 hc_17 => ?_)
  have h_16 := h_14.same hc_17
  refine WT.q rfl (Wn.no rfl) rfl rfl (fun wq hS => R.sliceA (b := b_7) (off := 0) (off' := 0) (l := 0) (h := 16) rfl EvB.dflt EvB.dflt (by decide) (by decide) Try.underlying67 Try.sizeOf5 rfl) ?_
  refine WT.q rfl (Wn.no rfl) rfl rfl (fun wq hS => R.sliceA (b := b_1) (off := 0) (off' := 16) (l := 16) (h := 32) rfl (EvB.it (l := 16) rfl rfl) EvB.dflt (by decide) (by decide) Try.underlying28 Try.sizeOf5 rfl) ?_
  refine WT.s ?_
  refine Op1.one rfl (Wn.no rfl) ?_
  refine WL.copy (q := 16) (i := 0) (ys := ((d.drop 16).take 16).map vu8) (cs' := ((d.drop 16).take 16).map vu8) h_16 rfl rfl Try.underlying26 Try.sizeOf5 (viewPart 16 16 (h_16.ok _ (.tail _ (.tail _ (.head _)))) Sg.h) (len_map (subLen (K := 32) hd (by omega) : List.length ((d.drop 16).take 16) = 16)) (one_u8 _) At.h (by decide) Sg.h rfl (by decide) (by rw [len_map (List.length_replicate ..)]; decide) (cpAll (subLen (K := 32) hd (by omega) : List.length ((d.drop 16).take 16) = 16) (List.length_replicate ..)) rfl (fun w_18 h_19 => ?_)
  refine WL.nil ?_
  refine ⟨(SL.cons (h_19.ok _ (.tail _ (.head _))) (SL.cons (h_19.ok _ (.tail _ (.tail _ (.head _)))) (SL.nil _ _))), ?_⟩
  refine WT.nil ?_
  refine thn_n ?_
  refine WP.seq ?_
  refine WP.reg ?_
  refine WL.q (Wn.no rfl) rfl rfl (R.loadA (b := b_4) (off := 0) [] [(16, ((d.drop 0).take 16).map vu8)] [] (cs := ((d.drop 0).take 16).map vu8) rfl Try.isAgg67 Try.sizeOf67 (h_19.ok _ (.tail _ (.head _))) rfl rfl rfl rfl) ?_
  refine WL.q (Wn.no rfl) rfl rfl (R.loadA (b := b_7) (off := 0) [] [(16, ((d.drop 16).take 16).map vu8)] [] (cs := ((d.drop 16).take 16).map vu8) rfl Try.isAgg67 Try.sizeOf67 (h_19.ok _ (.head _)) rfl rfl rfl rfl) ?_
  refine WL.storeA (b := b_4) (off := 0) [] [(16, ((d.drop 0).take 16).map vu8)] [(16, ((d.drop 0).take 16).map vu8)] [] (ys := ((d.drop 0).take 16).map vu8) h_19 rfl rfl Try.sizeOf67 (At.t At.h) (by decide) rfl rfl rfl rfl rfl rfl (SsOk.cons (SOk.u8 (subLen (K := 32) hd (by omega) : List.length ((d.drop 0).take 16) = 16)) SsOk.nil) (fun w_20 h_21 => ?_)
  refine WL.storeA (b := b_7) (off := 0) [] [(16, ((d.drop 16).take 16).map vu8)] [(16, ((d.drop 16).take 16).map vu8)] [] (ys := ((d.drop 16).take 16).map vu8) h_21 rfl rfl Try.sizeOf67 At.h (by decide) rfl rfl rfl rfl rfl rfl (SsOk.cons (SOk.u8 (subLen (K := 32) hd (by omega) : List.length ((d.drop 16).take 16) = 16)) SsOk.nil) (fun w_22 h_23 => ?_)
  refine WL.nil ?_
  refine thn_n ?_
  refine WP.ret ?_
  refine ret_of Try.results44 (RV.cell rfl (h_23.loadA (cs := ((d.drop 0).take 16).map vu8) Try.isAgg67 Try.sizeOf67 (.tail _ (.head _)) rfl rfl) (RV.cell rfl (h_23.loadA (cs := ((d.drop 16).take 16).map vu8) Try.isAgg67 Try.sizeOf67 (.head _) rfl rfl) RV.nil)) ?_
  exact ⟨rfl, h_23.chgS⟩

theorem c_HalfR (d : List UInt8) (hd : d.length = 32) (w : World) :
    Cs Try.prog 45 [(.agg ⟨d.map vu8⟩)].toArray w (fun v w1 => v = (.tuple [(.agg ⟨(halfL d 0).map vu8⟩), (.agg ⟨(halfL d 16).map vu8⟩)].toArray) ∧ Chg w w1 []) := by
  refine Cs.of (n := 24) (args := [(.agg ⟨d.map vu8⟩)]) Try.func45 rfl rfl rfl ?_
  have h_0 := HP.init w
  refine WP.seq ?_
  refine WP.reg ?_
  refine WL.box (v := (.agg ⟨d.map vu8⟩)) (segs := [(32, d.map vu8)]) h_0 rfl rfl (SsOk.cons (SOk.u8 hd) SsOk.nil) rfl (fun b_1 w_2 h_3 => ?_)
  refine WL.alloc (segs := [(16, (List.replicate 16 (0 : UInt8)).map vu8)]) h_3 (zv Try.typeInfo67 rfl) rfl (SsOk.cons (SOk.u8 (List.length_replicate ..)) SsOk.nil) rfl (fun b_4 w_5 h_6 => ?_)
  refine WL.alloc (segs := [(16, (List.replicate 16 (0 : UInt8)).map vu8)]) h_6 (zv Try.typeInfo67 rfl) rfl (SsOk.cons (SOk.u8 (List.length_replicate ..)) SsOk.nil) rfl (fun b_7 w_8 h_9 => ?_)
  refine WL.nil ?_
  refine thn_n ?_
  refine WP.seq ?_
  refine WP.reg ?_
  refine WL.alloc (segs := [(16, (List.replicate 16 (0 : UInt8)).map vu8)]) h_9 (zv Try.typeInfo67 rfl) rfl (SsOk.cons (SOk.u8 (List.length_replicate ..)) SsOk.nil) rfl (fun b_10 w_11 h_12 => ?_)
  refine WL.alloc (segs := [(16, (List.replicate 16 (0 : UInt8)).map vu8)]) h_12 (zv Try.typeInfo67 rfl) rfl (SsOk.cons (SOk.u8 (List.length_replicate ..)) SsOk.nil) rfl (fun b_13 w_14 h_15 => ?_)
  refine WL.nil ?_
  refine thn_n ?_
  refine WP.seq ?_
  refine WP.seq ?_
  refine WP.reg ?_
  refine WL.q (Wn.no rfl) rfl rfl (R.assign (v := (vi 0)) rfl) ?_
  refine WL.nil ?_
  refine thn_n ?_
  refine WP.block ?_
  refine WP.loopG (G := Nat) [6, 7, 8, 9, 10, 11, 12, 13, 14, 15, 16, 17, 18, 19, 20, 21] (fun i => [(6, (vi ((i : Nat) : Int)))]) (fun i m w1 => HP w w1 [.blk b_13 .nw 67 [(16, (mix (halfL d 16) (List.replicate 16 0) i).map vu8)], .blk b_10 .nw 67 [(16, (mix (halfL d 0) (List.replicate 16 0) i).map vu8)], .blk b_7 .nw 67 [(16, (List.replicate 16 (0 : UInt8)).map vu8)], .blk b_4 .nw 67 [(16, (List.replicate 16 (0 : UInt8)).map vu8)], .blk b_1 .nw 28 [(32, d.map vu8)]] ∧ (i ≤ 16) ∧ m = 16 - i) ⟨0, _, ⟨rfl, trivial⟩, (by rw [mix_0, mix_0]; exact h_15), (by omega), rfl⟩ ?_
  rintro i m_18 J_19 w_16 ⟨h_17, hi, rfl⟩
  refine WP.seq ?_
  refine WP.seq ?_
  refine WP.reg ?_
  refine WL.q (Wn.no rfl) rfl rfl (R.move (v := (vi ((i : Nat) : Int))) rfl) ?_
  refine WL.q (Wn.no rfl) rfl rfl (R.bin (v := (.bool (decide ((((i : Nat) : Int) : Int) < 16)))) rfl rfl (bi_lss (r := decide ((((i : Nat) : Int) : Int) < 16)) rfl)) ?_
  refine WL.nil ?_
  refine thn_n ?_
  refine WP.cond (b := decide ((((i : Nat) : Int) : Int) < 16)) rfl (fun c_20 => ?_) (fun c_20 => ?_)
  · have p_21 := of_decide_eq_true c_20
    refine WP.skip ?_
    refine thn_n ?_
    refine WP.seq ?_
    refine WP.block ?_
    refine WP.seq ?_
    refine WP.reg ?_
    refine WL.q (Wn.no rfl) rfl rfl (R.move (v := (vi ((i : Nat) : Int))) rfl) ?_
    refine WL.q (Wn.no rfl) rfl rfl (R.move (v := (vi ((i : Nat) : Int))) rfl) ?_
    refine WL.q (Wn.no rfl) rfl rfl (R.indexA (b := b_1) (off := 0) (off' := (0 + i)) (i := i) rfl rfl rfl (by omega) Try.underlying28 Try.sizeOf5 (by rw [Nat.mul_one])) ?_
    refine WL.q (Wn.no rfl) rfl rfl (R.loadE (b := b_1) (off := (0 + i)) (i := i) (v := (vu8 (d.getD i 0))) rfl Try.isAgg5 (h_17.ok _ (.tail _ (.tail _ (.tail _ (.tail _ (.head _)))))) Sg.h rfl (get_u8 (lt_len (K := 32) hd (by omega)))) ?_
    refine WL.q (Wn.no rfl) rfl rfl (R.indexA (b := b_10) (off := 0) (off' := (0 + i)) (i := i) rfl rfl rfl (by omega) Try.underlying67 Try.sizeOf5 (by rw [Nat.mul_one])) ?_
    refine WL.storeE (b := b_10) (off := (0 + i)) (i := i) (v := (vu8 (d.getD i 0))) (cs' := ((mix (halfL d 0) (List.replicate 16 0) i).set i (d.getD i 0)).map vu8) h_17 rfl rfl Try.sizeOf5 rfl (At.t At.h) (by decide) Sg.h rfl (lt_len (K := 16) (len_map (mix_len (halfL_len hd (by decide)) (List.length_replicate ..))) (by omega)) (set_u8 _ _ _) (fun w_22 h_23 => ?_)
    refine WL.nil ?_
    refine thn_n ?_
    refine WP.reg ?_
    refine WL.q (Wn.no rfl) rfl rfl (R.move (v := (vi ((i : Nat) : Int))) rfl) ?_
    refine WL.q (Wn.no rfl) rfl rfl (R.move (v := (vi ((i : Nat) : Int))) rfl) ?_
    refine WL.q (Wn.no rfl) rfl rfl (R.bin (v := (vi ((16 + i : Nat) : Int))) rfl rfl (bi_add (c := ((16 + i : Nat) : Int)) (by omega) (by omega))) ?_
    refine WL.q (Wn.no rfl) rfl rfl (R.indexA (b := b_1) (off := 0) (off' := (0 + (16 + i))) (i := 16 + i) rfl rfl rfl (by omega) Try.underlying28 Try.sizeOf5 (by rw [Nat.mul_one])) ?_
    refine WL.q (Wn.no rfl) rfl rfl (R.loadE (b := b_1) (off := (0 + (16 + i))) (i := 16 + i) (v := (vu8 (d.getD (16 + i) 0))) rfl Try.isAgg5 (h_23.ok _ (.tail _ (.tail _ (.tail _ (.tail _ (.head _)))))) Sg.h rfl (get_u8 (lt_len (K := 32) hd (by omega)))) ?_
    refine WL.q (Wn.no rfl) rfl rfl (R.indexA (b := b_13) (off := 0) (off' := (0 + i)) (i := i) rfl rfl rfl (by omega) Try.underlying67 Try.sizeOf5 (by rw [Nat.mul_one])) ?_
    refine WL.storeE (b := b_13) (off := (0 + i)) (i := i) (v := (vu8 (d.getD (16 + i) 0))) (cs' := ((mix (halfL d 16) (List.replicate 16 0) i).set i (d.getD (16 + i) 0)).map vu8) h_23 rfl rfl Try.sizeOf5 rfl At.h (by decide) Sg.h rfl (lt_len (K := 16) (len_map (mix_len (halfL_len hd (by decide)) (List.length_replicate ..))) (by omega)) (set_u8 _ _ _) (fun w_24 h_25 => ?_)
    refine WL.nil ?_
    refine inb_n ?_
    refine thn_n ?_
    refine WP.reg ?_
    refine WL.q (Wn.no rfl) rfl rfl (R.move (v := (vi ((i : Nat) : Int))) rfl) ?_
    refine WL.q (Wn.no rfl) rfl rfl (R.bin (v := (vi ((i + 1 : Nat) : Int))) rfl rfl (bi_add (c := ((i + 1 : Nat) : Int)) (by omega) (by omega))) ?_
    refine WL.q (Wn.no rfl) rfl rfl (R.assign (v := (vi ((i + 1 : Nat) : Int))) rfl) ?_
    refine WL.nil ?_
    refine thn_n ?_
    have h_26 := h_25.up (Pick.t (Pick.t (Pick.t (Pick.t Pick.h))))
    have h_27 := h_26.up (Pick.t (Pick.t (Pick.t (Pick.t Pick.h))))
    have h_28 := h_27.up (Pick.t (Pick.t (Pick.t (Pick.t Pick.h))))
    have h_29 := h_28.up (Pick.t (Pick.t (Pick.t (Pick.t Pick.h))))
    have h_30 := h_29.up (Pick.t (Pick.t (Pick.t (Pick.t Pick.h))))
    have e0 := half_set (c := 0) (i := i) hd (by decide) (by omega)
    rw [Nat.zero_add] at e0
    rw [e0, half_set hd (by decide) (by omega)] at h_30
    exact ⟨i + 1, _, (by omega), (Ag.upd rfl (Ag.upd rfl (Ag.upd rfl (Ag.upd rfl (Ag.upd rfl (Ag.upd rfl (Ag.upd rfl (Ag.upd rfl (Ag.upd rfl (Ag.upd rfl (Ag.upd rfl (Ag.upd rfl (Ag.upd rfl (Ag.upd rfl (Ag.upd rfl (Ag.upd rfl (Ag.updL rfl (Ag.mix _ _ _)))))))))))))))))), ⟨rfl, trivial⟩, h_30, (by omega), rfl⟩
  · have p_31 := of_decide_eq_false c_20
    refine WP.exit ?_
    refine thn_x ?_
    refine thn_x ?_
    refine inb_hit ?_
    refine thn_n ?_
    refine WP.seq ?_
    refine WP.drawZ 3 (SL w.heap.size [.blk b_13 .nw 67 [(16, (mix (halfL d 16) (List.replicate 16 0) i).map vu8)], .blk b_10 .nw 67 [(16, (mix (halfL d 0) (List.replicate 16 0) i).map vu8)], .blk b_7 .nw 67 [(16, (List.replicate 16 (0 : UInt8)).map vu8)], .blk b_1 .nw 28 [(32, d.map vu8)]]) (.q 0 (.q 1 (.s 2 (.s 3 .nil)))) (by kernel_rfl) (by kernel_rfl) rfl (by kernel_rfl) (fun w_32 hc_34 => (SL.cons ((h_17.same hc_34).ok _ (.head _)) (SL.cons ((h_17.same hc_34).ok _ (.tail _ (.head _))) (SL.cons ((h_17.same hc_34).ok _ (.tail _ (.tail _ (.head _)))) (SL.cons ((h_17.same hc_34).ok _ (.tail _ (.tail _ (.tail _ (.tail _ (.head _)))))) (SL.nil _ _)))))) (fun w_32 hc_34 => ?_)
    have h_33 := h_17.same hc_34
    refine ZT.q rfl (Wn.no rfl) rfl rfl (fun wq hS => R.loadA (b := b_10) (off := 0) [] [(16, (mix (halfL d 0) (List.replicate 16 0) i).map vu8)] [] (cs := (mix (halfL d 0) (List.replicate 16 0) i).map vu8) rfl Try.isAgg67 Try.sizeOf67 (hS _ (.tail _ (.head _))) rfl rfl rfl rfl) ?_
    refine ZT.q rfl (Wn.no rfl) rfl rfl (fun wq hS => R.loadA (b := b_13) (off := 0) [] [(16, (mix (halfL d 16) (List.replicate 16 0) i).map vu8)] [] (cs := (mix (halfL d 16) (List.replicate 16 0) i).map vu8) rfl Try.isAgg67 Try.sizeOf67 (hS _ (.head _)) rfl rfl rfl rfl) ?_
    refine ZT.s ?_
    refine OpZ.one rfl (Wn.no rfl) ?_
    refine WL.storeA (b := b_4) (off := 0) [] [(16, (List.replicate 16 (0 : UInt8)).map vu8)] [(16, (mix (halfL d 0) (List.replicate 16 0) i).map vu8)] [] (ys := (mix (halfL d 0) (List.replicate 16 0) i).map vu8) h_33 rfl rfl Try.sizeOf67 (At.t (At.t (At.t At.h))) (by decide) rfl rfl rfl rfl rfl rfl (SsOk.cons (SOk.u8 (mix_len (halfL_len hd (by decide)) (List.length_replicate ..))) SsOk.nil) (fun w_35 h_36 => ?_)
    refine WL.nil ?_
    refine ⟨(SL.cons (h_36.ok _ (.head _)) (SL.cons (h_36.ok _ (.tail _ (.head _))) (SL.cons (h_36.ok _ (.tail _ (.tail _ (.head _)))) (SL.cons (h_36.ok _ (.tail _ (.tail _ (.tail _ (.tail _ (.head _)))))) (SL.nil _ _))))), ?_⟩
    refine ZT.s ?_
    refine OpZ.last rfl (Wn.no rfl) ?_
    refine WL.storeA (b := b_7) (off := 0) [] [(16, (List.replicate 16 (0 : UInt8)).map vu8)] [(16, (mix (halfL d 16) (List.replicate 16 0) i).map vu8)] [] (ys := (mix (halfL d 16) (List.replicate 16 0) i).map vu8) h_36 rfl rfl Try.sizeOf67 (At.t (At.t At.h)) (by decide) rfl rfl rfl rfl rfl rfl (SsOk.cons (SOk.u8 (mix_len (halfL_len hd (by decide)) (List.length_replicate ..))) SsOk.nil) (fun w_37 h_38 => ?_)
    refine WL.nil ?_
    refine ZT.nil ?_
    refine thn_n ?_
    refine WP.ret ?_
    refine ret_of Try.results45 (RV.cell rfl (h_38.loadA (cs := (mix (halfL d 0) (List.replicate 16 0) i).map vu8) Try.isAgg67 Try.sizeOf67 (.tail _ (.tail _ (.tail _ (.head _)))) rfl rfl) (RV.cell rfl (h_38.loadA (cs := (mix (halfL d 16) (List.replicate 16 0) i).map vu8) Try.isAgg67 Try.sizeOf67 (.tail _ (.tail _ (.head _))) rfl rfl) RV.nil)) ?_
    have hi16 : i = 16 := by omega
    subst hi16
    have e0 := half_all (c := 0) hd (by decide)
    have e1 := half_all (c := 16) hd (by decide)
    exact ⟨by rw [e0, e1]; rfl, h_38.chgS⟩
theorem known_m : Go.Wr.hexL (tagL K11 ([72, 105, 32, 84, 104, 101, 114, 101] : List UInt8)) = ([98, 48, 51, 52, 52, 99, 54, 49, 100, 56, 100, 98, 51, 56, 53, 51, 53, 99, 97, 56, 97, 102, 99, 101, 97, 102, 48, 98, 102, 49, 50, 98, 56, 56, 49, 100, 99, 50, 48, 48, 99, 57, 56, 51, 51, 100, 97, 55, 50, 54, 101, 57, 51, 55, 54, 99, 50, 101, 51, 50, 99, 102, 102, 55] : List UInt8) := by decide +kernel
theorem known_n : ¬ tagL K11 ([72, 105, 32, 84, 104, 101, 114, 101] : List UInt8) = (tagL K11 ([72, 105, 32, 84, 104, 101, 114, 101] : List UInt8)).set 31 ((tagL K11 ([72, 105, 32, 84, 104, 101, 114, 101] : List UInt8)).getD 31 0 ^^^ 1) := by decide +kernel
theorem c_num3 (e : Int) (be : -9223372036854775808 ≤ e ∧ e < 9223372036854775808) (w : World) :
    Cs Try.prog 41 [(vi e)].toArray w (fun v w1 => v = vi e ∧ Chg w w1 []) := by
  refine Cs.of (n := 4) (args := [(vi e)]) Try.func41 rfl rfl rfl ?_
  have h_0 := HP.init w
  refine WP.seq ?_
  refine WP.reg ?_
  refine WL.q (Wn.no rfl) rfl rfl (R.assign (v := (vi 0)) rfl) ?_
  refine WL.nil ?_
  refine thn_n ?_
  refine WP.seq ?_
  refine WP.reg ?_
  refine WL.q (Wn.no rfl) rfl rfl (R.move (v := (vi e)) rfl) ?_
  refine WL.q (Wn.no rfl) rfl rfl (R.assign (v := (vi e)) rfl) ?_
  refine WL.nil ?_
  refine thn_n ?_
  refine WP.ret ?_
  refine ret_of Try.results41 (RV.tmp (v := (vi e)) rfl RV.nil) ?_
  exact ⟨rfl, h_0.chgS⟩

theorem c_known3  (w : World) :
    Cs Try.prog 35 [].toArray w (fun v w1 => v = .bool true ∧ Chg w w1 []) := by
  refine Cs.of (n := 62) (args := []) Try.func35 rfl rfl rfl ?_
  have h_0 := HP.init w
  refine WP.seq ?_
  refine WP.reg ?_
  refine WL.q (Wn.no rfl) rfl rfl (R.assign (v := (.bool false)) rfl) ?_
  refine WL.nil ?_
  refine thn_n ?_
  refine WP.seq ?_
  refine WP.reg ?_
  refine WL.makeSl (m := 20) (i := Try.t5) (z := vu8 0) h_0 rfl rfl Try.underlying26 rfl rfl rfl rfl (by decide) (by decide) rfl (fun b_1 w_2 h_3 => ?_)
  rw [show List.replicate 20 (vu8 0) = (List.replicate 20 (0 : UInt8)).map vu8 from (List.map_replicate ..).symm] at h_3
  refine WL.q (Wn.no rfl) rfl rfl (R.assign (v := (.slice (some ⟨b_1, 0, none⟩) 20 20)) rfl) ?_
  refine WL.nil ?_
  refine thn_n ?_
  refine WP.seq ?_
  refine WP.seq ?_
  refine WP.reg ?_
  refine WL.q (Wn.no rfl) rfl rfl (R.assign (v := (vi 0)) rfl) ?_
  refine WL.nil ?_
  refine thn_n ?_
  refine WP.block ?_
  refine WP.loopG (G := Nat) [2, 10, 11, 12, 13, 14, 15, 16] (fun i => [(2, (vi ((i : Nat) : Int)))]) (fun i m w1 => HP w w1 [.row (some ⟨b_1, 0, none⟩) 20 20 5 1 ((mix K11 (List.replicate 20 0) i).map vu8)] ∧ (i ≤ 20) ∧ m = 20 - i) ⟨0, _, ⟨rfl, trivial⟩, (by rw [mix_0]; exact h_3), (by omega), rfl⟩ ?_
  rintro i m_7 J_8 w_5 ⟨h_6, hi, rfl⟩
  refine WP.seq ?_
  refine WP.seq ?_
  refine WP.reg ?_
  refine WL.q (Wn.no rfl) rfl rfl (R.move (v := (vi ((i : Nat) : Int))) rfl) ?_
  refine WL.q (Wn.no rfl) rfl rfl (R.bin (v := (.bool (decide ((((i : Nat) : Int) : Int) < 20)))) rfl rfl (bi_lss (r := decide ((((i : Nat) : Int) : Int) < 20)) rfl)) ?_
  refine WL.nil ?_
  refine thn_n ?_
  refine WP.cond (b := decide ((((i : Nat) : Int) : Int) < 20)) rfl (fun c_9 => ?_) (fun c_9 => ?_)
  · have p_10 := of_decide_eq_true c_9
    refine WP.skip ?_
    refine thn_n ?_
    refine WP.seq ?_
    refine WP.block ?_
    refine WP.reg ?_
    refine WL.q (Wn.no rfl) rfl rfl (R.move (v := (.slice (some ⟨b_1, 0, none⟩) 20 20)) rfl) ?_
    refine WL.q (Wn.no rfl) rfl rfl (R.move (v := (vi ((i : Nat) : Int))) rfl) ?_
    refine WL.q (Wn.no rfl) rfl rfl (R.indexS (a := some ⟨b_1, 0, none⟩) (i := i) (off := i) (xs := (mix K11 (List.replicate 20 0) i).map vu8) rfl rfl rfl (by omega) (ownView (h_6.ok _ (.head _))) (lt_len (K := 20) (len_map (mix_len (List.length_replicate ..) (List.length_replicate ..))) (by omega)) Try.underlying26 Try.sizeOf5 (Nat.mul_one _).symm) ?_
    refine WL.storeR (a := some ⟨b_1, 0, none⟩) (i := i) (v := (vu8 11)) (xs' := ((mix K11 (List.replicate 20 0) i).set i 11).map vu8) h_6 rfl rfl Try.sizeOf5 rfl At.h (lt_len (K := 20) (len_map (mix_len (List.length_replicate ..) (List.length_replicate ..))) (by omega)) (set_u8 _ _ _) (fun w_11 h_12 => ?_)
    refine WL.nil ?_
    refine inb_n ?_
    refine thn_n ?_
    refine WP.reg ?_
    refine WL.q (Wn.no rfl) rfl rfl (R.move (v := (vi ((i : Nat) : Int))) rfl) ?_
    refine WL.q (Wn.no rfl) rfl rfl (R.bin (v := (vi ((i + 1 : Nat) : Int))) rfl rfl (bi_add (c := ((i + 1 : Nat) : Int)) (by omega) (by omega))) ?_
    refine WL.q (Wn.no rfl) rfl rfl (R.assign (v := (vi ((i + 1 : Nat) : Int))) rfl) ?_
    refine WL.nil ?_
    refine thn_n ?_
    rw [k11_set (by omega)] at h_12
    exact ⟨i + 1, _, (by omega), (Ag.upd rfl (Ag.upd rfl (Ag.upd rfl (Ag.upd rfl (Ag.upd rfl (Ag.upd rfl (Ag.upd rfl (Ag.upd rfl (Ag.updL rfl (Ag.mix _ _ _)))))))))), ⟨rfl, trivial⟩, h_12, (by omega), rfl⟩
  · have p_13 := of_decide_eq_false c_9
    refine WP.exit ?_
    refine thn_x ?_
    refine thn_x ?_
    refine inb_hit ?_
    refine thn_n ?_
    refine WP.seq ?_
    refine WP.reg ?_
    have hi20 : i = 20 := by omega
    subst hi20
    rw [k11_all] at h_6
    refine WL.q (Wn.no rfl) rfl rfl (R.move (v := (.slice (some ⟨b_1, 0, none⟩) 20 20)) rfl) ?_
    refine WL.buildSl (vs := [(0, (vu8 72)), (1, (vu8 105)), (2, (vu8 32)), (3, (vu8 84)), (4, (vu8 104)), (5, (vu8 101)), (6, (vu8 114)), (7, (vu8 101))]) (cs := ([72, 105, 32, 84, 104, 101, 114, 101] : List UInt8).map vu8) h_6 Try.underlying26 Try.sizeOf5 (zv Try.typeInfo5 rfl) rfl rfl (by kernel_rfl) rfl (one_u8 _) rfl rfl (fun b_14 w_15 h_16 => ?_)
    refine WL.convSl h_16 rfl Try.underlying26 Try.underlying5 At.h (by decide) rfl (fun w_17 h_18 => ?_)
    refine WL.call (al := [(.slice (some ⟨b_1, 0, none⟩) 20 20), (.slice (some ⟨b_14, 0, none⟩) 8 8)]) Try.call36 rfl rfl (c_Tag (some ⟨b_1, 0, none⟩) 20 20 K11 (List.length_replicate ..) (by decide) (by decide) (some ⟨b_14, 0, none⟩) 8 8 ([72, 105, 32, 84, 104, 101, 114, 101] : List UInt8) (rfl : List.length ([72, 105, 32, 84, 104, 101, 114, 101] : List UInt8) = 8) (by decide) (by decide) _ (ownView (h_18.ok _ (.tail _ (.head _)))) (viewB (h_18.ok _ (.head _)) Sg.h)) rfl ?_
    rintro _ w_20 ⟨rfl, hc_19⟩
    have h_21 := h_18.same hc_19
    refine WL.alloc (segs := [(32, (List.replicate 32 (0 : UInt8)).map vu8)]) h_21 (zv Try.typeInfo28 rfl) rfl (SsOk.cons (SOk.u8 (List.length_replicate ..)) SsOk.nil) rfl (fun b_22 w_23 h_24 => ?_)
    refine WL.storeA (b := b_22) (off := 0) [] [(32, (List.replicate 32 (0 : UInt8)).map vu8)] [(32, (tagL K11 ([72, 105, 32, 84, 104, 101, 114, 101] : List UInt8)).map vu8)] [] (ys := (tagL K11 ([72, 105, 32, 84, 104, 101, 114, 101] : List UInt8)).map vu8) h_24 rfl rfl Try.sizeOf28 At.h (by decide) rfl rfl rfl rfl rfl rfl (SsOk.cons (SOk.u8 (tagL_len _ _)) SsOk.nil) (fun w_25 h_26 => ?_)
    refine WL.nil ?_
    refine thn_n ?_
    refine WP.seq ?_
    refine WP.reg ?_
    refine WL.q (Wn.no rfl) rfl rfl (R.loadA (b := b_22) (off := 0) [] [(32, (tagL K11 ([72, 105, 32, 84, 104, 101, 114, 101] : List UInt8)).map vu8)] [] (cs := (tagL K11 ([72, 105, 32, 84, 104, 101, 114, 101] : List UInt8)).map vu8) rfl Try.isAgg28 Try.sizeOf28 (h_26.ok _ (.head _)) rfl rfl rfl rfl) ?_
    refine WL.alloc (segs := [(32, (List.replicate 32 (0 : UInt8)).map vu8)]) h_26 (zv Try.typeInfo28 rfl) rfl (SsOk.cons (SOk.u8 (List.length_replicate ..)) SsOk.nil) rfl (fun b_27 w_28 h_29 => ?_)
    refine WL.storeA (b := b_27) (off := 0) [] [(32, (List.replicate 32 (0 : UInt8)).map vu8)] [(32, (tagL K11 ([72, 105, 32, 84, 104, 101, 114, 101] : List UInt8)).map vu8)] [] (ys := (tagL K11 ([72, 105, 32, 84, 104, 101, 114, 101] : List UInt8)).map vu8) h_29 rfl rfl Try.sizeOf28 At.h (by decide) rfl rfl rfl rfl rfl rfl (SsOk.cons (SOk.u8 (tagL_len _ _)) SsOk.nil) (fun w_30 h_31 => ?_)
    refine WL.nil ?_
    refine thn_n ?_
    refine WP.seq ?_
    refine WP.reg ?_
    refine WL.q (Wn.no rfl) rfl rfl (R.indexA (b := b_27) (off := 0) (off' := 31) (i := 31) rfl rfl rfl (by decide) Try.underlying28 Try.sizeOf5 rfl) ?_
    refine WL.q (Wn.no rfl) rfl rfl (R.loadE (b := b_27) (off := 31) (i := 31) (v := (vu8 ((tagL K11 ([72, 105, 32, 84, 104, 101, 114, 101] : List UInt8)).getD 31 0))) rfl Try.isAgg5 (h_31.ok _ (.head _)) Sg.h rfl (get_u8 (lt_len (K := 32) (tagL_len _ _) (by decide)))) ?_
    refine WL.q (Wn.no rfl) rfl rfl (R.bin (v := (vu8 (((tagL K11 ([72, 105, 32, 84, 104, 101, 114, 101] : List UInt8)).getD 31 0) ^^^ 1))) rfl rfl (b8_xor ((tagL K11 ([72, 105, 32, 84, 104, 101, 114, 101] : List UInt8)).getD 31 0) 1)) ?_
    refine WL.q (Wn.no rfl) rfl rfl (R.indexA (b := b_27) (off := 0) (off' := 31) (i := 31) rfl rfl rfl (by decide) Try.underlying28 Try.sizeOf5 rfl) ?_
    refine WL.storeE (b := b_27) (off := 31) (i := 31) (v := (vu8 (((tagL K11 ([72, 105, 32, 84, 104, 101, 114, 101] : List UInt8)).getD 31 0) ^^^ 1))) (cs' := ((tagL K11 ([72, 105, 32, 84, 104, 101, 114, 101] : List UInt8)).set 31 (((tagL K11 ([72, 105, 32, 84, 104, 101, 114, 101] : List UInt8)).getD 31 0) ^^^ 1)).map vu8) h_31 rfl rfl Try.sizeOf5 rfl At.h (by decide) Sg.h rfl (lt_len (K := 32) (len_map (tagL_len _ _)) (by decide)) (set_u8 _ _ _) (fun w_32 h_33 => ?_)
    refine WL.nil ?_
    refine thn_n ?_
    refine WP.seq ?_
    refine WP.reg ?_
    refine WL.q (Wn.no rfl) rfl rfl (R.loadA (b := b_22) (off := 0) [] [(32, (tagL K11 ([72, 105, 32, 84, 104, 101, 114, 101] : List UInt8)).map vu8)] [] (cs := (tagL K11 ([72, 105, 32, 84, 104, 101, 114, 101] : List UInt8)).map vu8) rfl Try.isAgg28 Try.sizeOf28 (h_33.ok _ (.tail _ (.head _))) rfl rfl rfl rfl) ?_
    refine WL.call (al := [(.agg ⟨(tagL K11 ([72, 105, 32, 84, 104, 101, 114, 101] : List UInt8)).map vu8⟩), (.string (bstr ([] : List UInt8))), (vu64 0)]) Try.call39 rfl rfl (c_Derive_lo (tagL K11 ([72, 105, 32, 84, 104, 101, 114, 101] : List UInt8)) ([] : List UInt8) 0 (tagL_len _ _) rfl (0 : UInt64) (by decide) _ ) rfl ?_
    rintro _ w_35 ⟨rfl, hc_34⟩
    have h_36 := h_33.same hc_34
    refine WL.q (Wn.no rfl) rfl rfl (R.move (v := (.tuple [(.agg ⟨(List.replicate 32 (0 : UInt8)).map vu8⟩), (vi 2)].toArray)) rfl) ?_
    refine WL.q (Wn.no rfl) rfl rfl (R.extract (l := [(.agg ⟨(List.replicate 32 (0 : UInt8)).map vu8⟩), (vi 2)]) (v := (.agg ⟨(List.replicate 32 (0 : UInt8)).map vu8⟩)) rfl rfl) ?_
    refine WL.q (Wn.no rfl) rfl rfl (R.extract (l := [(.agg ⟨(List.replicate 32 (0 : UInt8)).map vu8⟩), (vi 2)]) (v := (vi 2)) rfl rfl) ?_
    refine WL.alloc (segs := [(32, (List.replicate 32 (0 : UInt8)).map vu8)]) h_36 (zv Try.typeInfo28 rfl) rfl (SsOk.cons (SOk.u8 (List.length_replicate ..)) SsOk.nil) rfl (fun b_37 w_38 h_39 => ?_)
    refine WL.storeA (b := b_37) (off := 0) [] [(32, (List.replicate 32 (0 : UInt8)).map vu8)] [(32, (List.replicate 32 (0 : UInt8)).map vu8)] [] (ys := (List.replicate 32 (0 : UInt8)).map vu8) h_39 rfl rfl Try.sizeOf28 At.h (by decide) rfl rfl rfl rfl rfl rfl (SsOk.cons (SOk.u8 (List.length_replicate ..)) SsOk.nil) (fun w_40 h_41 => ?_)
    refine WL.q (Wn.no rfl) rfl rfl (R.assign (v := (vi 2)) rfl) ?_
    refine WL.nil ?_
    refine thn_n ?_
    refine WP.seq ?_
    refine WP.reg ?_
    refine WL.q (Wn.no rfl) rfl rfl (R.loadA (b := b_22) (off := 0) [] [(32, (tagL K11 ([72, 105, 32, 84, 104, 101, 114, 101] : List UInt8)).map vu8)] [] (cs := (tagL K11 ([72, 105, 32, 84, 104, 101, 114, 101] : List UInt8)).map vu8) rfl Try.isAgg28 Try.sizeOf28 (h_41.ok _ (.tail _ (.tail _ (.head _)))) rfl rfl rfl rfl) ?_
    refine WL.call (al := [(.agg ⟨(tagL K11 ([72, 105, 32, 84, 104, 101, 114, 101] : List UInt8)).map vu8⟩), (.string (bstr ([97] : List UInt8))), (vi 257)]) Try.call43 rfl rfl (c_Keys_big (tagL K11 ([72, 105, 32, 84, 104, 101, 114, 101] : List UInt8)) ([97] : List UInt8) 1 (tagL_len _ _) rfl 257 (by decide) (by decide) (by decide) _ ) rfl ?_
    rintro _ w_43 ⟨rfl, hc_42⟩
    have h_44 := h_41.same hc_42
    refine WL.q (Wn.no rfl) rfl rfl (R.move (v := (.tuple [(.slice none 0 0), (vi 2)].toArray)) rfl) ?_
    refine WL.q (Wn.no rfl) rfl rfl (R.extract (l := [(.slice none 0 0), (vi 2)]) (v := (.slice none 0 0)) rfl rfl) ?_
    refine WL.q (Wn.no rfl) rfl rfl (R.extract (l := [(.slice none 0 0), (vi 2)]) (v := (vi 2)) rfl rfl) ?_
    refine WL.q (Wn.no rfl) rfl rfl (R.assign (v := (.slice none 0 0)) rfl) ?_
    refine WL.q (Wn.no rfl) rfl rfl (R.assign (v := (vi 2)) rfl) ?_
    refine WL.nil ?_
    refine thn_n ?_
    refine WP.seq ?_
    refine WP.reg ?_
    refine WL.q (Wn.no rfl) rfl rfl (R.sliceA (b := b_22) (off := 0) (off' := 0) (l := 0) (h := 32) rfl EvB.dflt EvB.dflt (by decide) (by decide) Try.underlying28 Try.sizeOf5 rfl) ?_
    refine WL.call (al := [(.slice (some ⟨b_22, 0, none⟩) 32 32)]) Try.call63 rfl rfl (c_HexR (some ⟨b_22, 0, none⟩) 32 32 (tagL K11 ([72, 105, 32, 84, 104, 101, 114, 101] : List UInt8)) (tagL_len _ _) (by omega) _ (viewB (h_44.ok _ (.tail _ (.tail _ (.head _)))) Sg.h)) rfl ?_
    rintro _ w_46 ⟨rfl, hc_45⟩
    have h_47 := h_44.same hc_45
    refine WL.q (Wn.no rfl) rfl rfl (R.eqStr (a := Go.Wr.hexL (tagL K11 ([72, 105, 32, 84, 104, 101, 114, 101] : List UInt8))) (b := ([98, 48, 51, 52, 52, 99, 54, 49, 100, 56, 100, 98, 51, 56, 53, 51, 53, 99, 97, 56, 97, 102, 99, 101, 97, 102, 48, 98, 102, 49, 50, 98, 56, 56, 49, 100, 99, 50, 48, 48, 99, 57, 56, 51, 51, 100, 97, 55, 50, 54, 101, 57, 51, 55, 54, 99, 50, 101, 51, 50, 99, 102, 102, 55] : List UInt8)) (r := true) rfl rfl (decide_eq_true known_m)) ?_
    refine WL.q (Wn.no rfl) rfl rfl (R.move (v := (.bool true)) rfl) ?_
    refine WL.want rfl rfl ?_
    refine WL.q (Wn.no rfl) rfl rfl (R.move (v := (vi 2)) rfl) ?_
    refine WL.want rfl rfl ?_
    refine WL.call (al := [(vi 2)]) Try.call41 rfl rfl (c_num3 2 (by omega) _ ) rfl ?_
    rintro _ w_49 ⟨rfl, hc_48⟩
    have h_50 := h_47.same hc_48
    refine WL.want rfl rfl ?_
    refine WL.q (Wn.no rfl) rfl rfl (R.bin (v := (.bool true)) rfl rfl (bi_eql (r := true) (by decide))) ?_
    refine WL.q (Wn.no rfl) rfl rfl (R.pickT (v := (.bool true)) rfl rfl) ?_
    refine WL.q (Wn.no rfl) rfl rfl (R.move (v := (.bool true)) rfl) ?_
    refine WL.want rfl rfl ?_
    refine WL.q (Wn.no rfl) rfl rfl (R.move (v := (vi 2)) rfl) ?_
    refine WL.want rfl rfl ?_
    refine WL.call (al := [(vi 2)]) Try.call41 rfl rfl (c_num3 2 (by omega) _ ) rfl ?_
    rintro _ w_52 ⟨rfl, hc_51⟩
    have h_53 := h_50.same hc_51
    refine WL.want rfl rfl ?_
    refine WL.q (Wn.no rfl) rfl rfl (R.bin (v := (.bool true)) rfl rfl (bi_eql (r := true) (by decide))) ?_
    refine WL.q (Wn.no rfl) rfl rfl (R.pickT (v := (.bool true)) rfl rfl) ?_
    refine WL.q (Wn.no rfl) rfl rfl (R.move (v := (.bool true)) rfl) ?_
    refine WL.want rfl rfl ?_
    refine WL.q (Wn.no rfl) rfl rfl (R.loadA (b := b_22) (off := 0) [] [(32, (tagL K11 ([72, 105, 32, 84, 104, 101, 114, 101] : List UInt8)).map vu8)] [] (cs := (tagL K11 ([72, 105, 32, 84, 104, 101, 114, 101] : List UInt8)).map vu8) rfl Try.isAgg28 Try.sizeOf28 (h_53.ok _ (.tail _ (.tail _ (.head _)))) rfl rfl rfl rfl) ?_
    refine WL.want rfl rfl ?_
    refine WL.q (Wn.no rfl) rfl rfl (R.loadA (b := b_22) (off := 0) [] [(32, (tagL K11 ([72, 105, 32, 84, 104, 101, 114, 101] : List UInt8)).map vu8)] [] (cs := (tagL K11 ([72, 105, 32, 84, 104, 101, 114, 101] : List UInt8)).map vu8) rfl Try.isAgg28 Try.sizeOf28 (h_53.ok _ (.tail _ (.tail _ (.head _)))) rfl rfl rfl rfl) ?_
    refine WL.want rfl rfl ?_
    refine WL.call (al := [(.agg ⟨(tagL K11 ([72, 105, 32, 84, 104, 101, 114, 101] : List UInt8)).map vu8⟩), (.agg ⟨(tagL K11 ([72, 105, 32, 84, 104, 101, 114, 101] : List UInt8)).map vu8⟩)]) Try.call46 rfl rfl (c_Equal (tagL K11 ([72, 105, 32, 84, 104, 101, 114, 101] : List UInt8)) (tagL K11 ([72, 105, 32, 84, 104, 101, 114, 101] : List UInt8)) (tagL_len _ _) (tagL_len _ _) _ ) rfl ?_
    rintro _ w_55 ⟨rfl, hc_54⟩
    have h_56 := h_53.same hc_54
    refine WL.q (Wn.no rfl) rfl rfl (R.pickT (v := (.bool true)) rfl (congrArg Value.bool (decide_eq_true rfl))) ?_
    refine WL.q (Wn.no rfl) rfl rfl (R.move (v := (.bool true)) rfl) ?_
    refine WL.want rfl rfl ?_
    refine WL.q (Wn.no rfl) rfl rfl (R.move (v := (.slice (some ⟨b_1, 0, none⟩) 20 20)) rfl) ?_
    refine WL.want rfl rfl ?_
    refine WL.buildSl (vs := [(0, (vu8 72)), (1, (vu8 105)), (2, (vu8 32)), (3, (vu8 84)), (4, (vu8 104)), (5, (vu8 101)), (6, (vu8 114)), (7, (vu8 101))]) (cs := ([72, 105, 32, 84, 104, 101, 114, 101] : List UInt8).map vu8) h_56 Try.underlying26 Try.sizeOf5 (zv Try.typeInfo5 rfl) rfl rfl (by kernel_rfl) rfl (one_u8 _) rfl rfl (fun b_57 w_58 h_59 => ?_)
    refine WL.want rfl rfl ?_
    refine WL.convSl h_59 rfl Try.underlying26 Try.underlying5 At.h (by decide) rfl (fun w_60 h_61 => ?_)
    refine WL.want rfl rfl ?_
    refine WL.q (Wn.no rfl) rfl rfl (R.loadA (b := b_27) (off := 0) [] [(32, ((tagL K11 ([72, 105, 32, 84, 104, 101, 114, 101] : List UInt8)).set 31 (((tagL K11 ([72, 105, 32, 84, 104, 101, 114, 101] : List UInt8)).getD 31 0) ^^^ 1)).map vu8)] [] (cs := ((tagL K11 ([72, 105, 32, 84, 104, 101, 114, 101] : List UInt8)).set 31 (((tagL K11 ([72, 105, 32, 84, 104, 101, 114, 101] : List UInt8)).getD 31 0) ^^^ 1)).map vu8) rfl Try.isAgg28 Try.sizeOf28 (h_61.ok _ (.tail _ (.tail _ (.head _)))) rfl rfl rfl rfl) ?_
    refine WL.want rfl rfl ?_
    refine WL.call (al := [(.slice (some ⟨b_1, 0, none⟩) 20 20), (.slice (some ⟨b_57, 0, none⟩) 8 8), (.agg ⟨((tagL K11 ([72, 105, 32, 84, 104, 101, 114, 101] : List UInt8)).set 31 (((tagL K11 ([72, 105, 32, 84, 104, 101, 114, 101] : List UInt8)).getD 31 0) ^^^ 1)).map vu8⟩)]) Try.call38 rfl rfl (c_Check (some ⟨b_1, 0, none⟩) 20 20 K11 (List.length_replicate ..) (by decide) (by decide) (some ⟨b_57, 0, none⟩) 8 8 ([72, 105, 32, 84, 104, 101, 114, 101] : List UInt8) (rfl : List.length ([72, 105, 32, 84, 104, 101, 114, 101] : List UInt8) = 8) (by decide) (by decide) ((tagL K11 ([72, 105, 32, 84, 104, 101, 114, 101] : List UInt8)).set 31 (((tagL K11 ([72, 105, 32, 84, 104, 101, 114, 101] : List UInt8)).getD 31 0) ^^^ 1)) (len_set (tagL_len _ _) _ _) _ (ownView (h_61.ok _ (.tail _ (.tail _ (.tail _ (.tail _ (.tail _ (.head _)))))))) (viewB (h_61.ok _ (.head _)) Sg.h)) rfl ?_
    rintro _ w_63 ⟨rfl, hc_62⟩
    have h_64 := h_61.same hc_62
    refine WL.want rfl rfl ?_
    refine WL.q (Wn.no rfl) rfl rfl (R.not (b := false) (congrArg Value.bool (decide_eq_false known_n))) ?_
    refine WL.q (Wn.no rfl) rfl rfl (R.pickT (v := (.bool true)) rfl rfl) ?_
    refine WL.q (Wn.no rfl) rfl rfl (R.assign (v := (.bool true)) rfl) ?_
    refine WL.nil ?_
    refine thn_n ?_
    refine WP.ret ?_
    refine ret_of Try.results35 (RV.tmp (v := (.bool true)) rfl RV.nil) ?_
    exact ⟨rfl, h_64.chgS⟩
end Go.Proofs.Ytelkjcigdhgcoaa
