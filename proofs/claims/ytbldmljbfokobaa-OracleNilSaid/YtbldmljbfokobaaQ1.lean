/- An oracle: contracts. Conditions: those that each theorem states. -/
import Derived.Test.YtbldmljbfokobaaT5
import Derived.Test.YtbldmljbfokobaaO3
namespace Go.Proofs.Ytbldmljbfokobaa
open Go.Vc Go.Orc Go.RowKit
set_option linter.unusedVariables false
set_option linter.unusedSimpArgs false
set_option maxRecDepth 20000
theorem el22 : ElT Try.prog 22 29 32 32 := ElT.mk' Try.underlying22 (i := Try.t29) rfl rfl rfl rfl rfl rfl
theorem c_oword (x : UInt64) (w : World) :
    Cs Try.prog 70 [(vu64 x)].toArray w (fun v w1 => ∃ a cap, v = .slice a 8 cap ∧ Chg w w1 [] ∧ Own w.heap.size w1 5 1 a 8 cap ((leN 8 x.toNat).map vu8)) := by
  refine Cs.of (n := 11) (args := [(vu64 x)]) Try.func70 rfl rfl rfl ?_
  have h_0 := HP.init w
  refine WP.seq ?_
  refine WP.reg ?_
  refine WL.q (Wn.no rfl) rfl rfl (R.assign (v := (.slice none 0 0)) rfl) ?_
  refine WL.nil ?_
  refine thn_n ?_
  refine WP.seq ?_
  refine WP.reg ?_
  refine WL.q (Wn.no rfl) rfl rfl (R.move (v := (vu64 x)) rfl) ?_
  refine WL.call (al := [(vu64 x), (vi 8)]) Try.call48 rfl rfl (c_Put_b x 8 rfl _) rfl ?_
  rintro _ w_3 ⟨a_1, cap_2, rfl, hc_4, ho_5⟩
  have h_6 := h_0.gotRow hc_4 ho_5
  refine WL.q (Wn.no rfl) rfl rfl (R.move (v := (.tuple [(.slice a_1 8 cap_2), (vi 0)].toArray)) rfl) ?_
  refine WL.q (Wn.no rfl) rfl rfl (R.extract (l := [(.slice a_1 8 cap_2), (vi 0)]) (v := (.slice a_1 8 cap_2)) rfl rfl) ?_
  refine WL.q (Wn.no rfl) rfl rfl (R.extract (l := [(.slice a_1 8 cap_2), (vi 0)]) (v := (vi 0)) rfl rfl) ?_
  refine WL.q (Wn.no rfl) rfl rfl (R.assign (v := (.slice a_1 8 cap_2)) rfl) ?_
  refine WL.q (Wn.no rfl) rfl rfl (R.assign (v := (vi 0)) rfl) ?_
  refine WL.nil ?_
  refine thn_n ?_
  refine WP.seq ?_
  refine WP.reg ?_
  refine WL.q (Wn.no rfl) rfl rfl (R.move (v := (.slice a_1 8 cap_2)) rfl) ?_
  refine WL.q (Wn.no rfl) rfl rfl (R.assign (v := (.slice a_1 8 cap_2)) rfl) ?_
  refine WL.nil ?_
  refine thn_n ?_
  refine WP.ret ?_
  refine ret_of Try.results70 (RV.tmp (v := (.slice a_1 8 cap_2)) rfl RV.nil) ?_
  exact ⟨_, _, rfl, h_6.chgS, h_6.ok _ (.head _)⟩

theorem c_CloneD (a : Option Addr) (n cap : Nat) (df : List UInt8) (hl : df.length = 32 * n) (hn : n ≤ 1000000000) (w : World) (hv : View w a (df.map vu8)) :
    Cs Try.prog 46 [(.slice a n cap)].toArray w (fun v w1 => ∃ a cap, v = .slice a n cap ∧ Chg w w1 [] ∧ Own w.heap.size w1 29 32 a n cap (df.map vu8)) := by
  refine Cs.of (n := 8) (args := [(.slice a n cap)]) Try.func46 rfl rfl rfl ?_
  have h_0 := HP.init w
  have h_00 := h_0.old (View.arg hv) (fun f hf => by cases hf)
  refine WP.seq ?_
  refine WP.reg ?_
  refine WL.q (Wn.no rfl) rfl rfl (R.assign (v := (.slice none 0 0)) rfl) ?_
  refine WL.nil ?_
  refine thn_n ?_
  refine WP.seq ?_
  refine WP.seq ?_
  refine WP.reg ?_
  refine WL.q (Wn.no rfl) rfl rfl (R.move (v := (.slice a n cap)) rfl) ?_
  refine WL.q (Wn.no rfl) rfl rfl (R.eqNilS rfl rfl Try.underlying22) ?_
  refine WL.nil ?_
  refine thn_n ?_
  refine WP.cond (b := a.isNone) rfl (fun c_1 => ?_) (fun c_1 => ?_)
  · refine WP.seq ?_
    refine WP.reg ?_
    refine WL.q (Wn.no rfl) rfl rfl (R.assign (v := (.slice none 0 0)) rfl) ?_
    refine WL.nil ?_
    refine thn_n ?_
    refine WP.ret ?_
    refine thn_r ?_
    refine ret_of Try.results46 (RV.tmp (v := (.slice none 0 0)) rfl RV.nil) ?_
    obtain rfl : df = [] := view_none c_1 hv
    obtain rfl : n = 0 := by simp at hl; omega
    exact ⟨none, 0, rfl, h_00.chgS, Own.nil ..⟩
  · refine WP.skip ?_
    refine thn_n ?_
    refine WP.seq ?_
    refine WP.reg ?_
    refine WL.buildSl0 h_00 Try.underlying22 Try.sizeOf29 rfl (fun b_2 w_3 h_4 => ?_)
    refine WL.q (Wn.no rfl) rfl rfl (R.move (v := (.slice a n cap)) rfl) ?_
    refine WL.append (km := n) (xs := []) (ys := df.map vu8) (zs := df.map vu8) h_4 rfl rfl el22 (viewV (h_4.ok _ (.tail _ (.head _)))) ((len_map hl).trans (by omega)) (one_u8 _) rfl (by omega) (by omega) (by omega) (fun _ _ => At.h) rfl (fun a_5 c_6 w_7 h_8 => ?_)
    refine WL.q (Wn.no rfl) rfl rfl (R.assign (v := (.slice a_5 n c_6)) rfl) ?_
    refine WL.nil ?_
    refine thn_n ?_
    refine WP.ret ?_
    refine ret_of Try.results46 (RV.tmp (v := (.slice a_5 n c_6)) rfl RV.nil) ?_
    exact ⟨_, _, rfl, h_8.chgS, h_8.ok _ (.head _)⟩

theorem c_draw {w00 : World} {L : List Ent} (ob mp : Nat) (ms df : List UInt8) (hms : ms.length = 32) (da : Option Addr) (dn dc u : Nat) (hdf : df.length = 32 * dn) (la : Option Addr) (lc : Nat) (lx : List Value) (lg : Lg) (hu : u ≤ 1000000) (hlg : lg.length ≤ 1000000) (w : World) (h_0 : HP w00 w (Ent.blk ob .nw 47 [(1, [(.bool true)]), (32, ms.map vu8), (1, [(.slice da dn dc)]), (1, [(vi ((u : Nat) : Int))]), (1, [(.map (some mp))]), (1, [(.slice la lg.length lc)])] :: Ent.view da (df.map vu8) :: L)) :
    Cs Try.prog 77 [(.pointer (some ⟨ob, 0, none⟩))].toArray w (fun v w1 => v = (.agg ⟨(drawF df dn u).map vu8⟩) ∧ HP w00 w1 (Ent.blk ob .nw 47 [(1, [(.bool true)]), (32, ms.map vu8), (1, [(.slice da dn dc)]), (1, [(vi (((u + 1) : Nat) : Int))]), (1, [(.map (some mp))]), (1, [(.slice la lg.length lc)])] :: Ent.view da (df.map vu8) :: L)) := by
  refine Cs.of (n := 37) (args := [(.pointer (some ⟨ob, 0, none⟩))]) Try.func77 rfl rfl rfl ?_
  refine WP.seq ?_
  refine WP.reg ?_
  refine WL.alloc (segs := [(32, (List.replicate 32 (0 : UInt8)).map vu8)]) h_0 (zv Try.typeInfo29 rfl) rfl (SsOk.cons (SOk.u8 (List.length_replicate ..)) SsOk.nil) rfl (fun b_1 w_2 h_3 => ?_)
  refine WL.nil ?_
  refine thn_n ?_
  refine WP.seq ?_
  refine WP.reg ?_
  refine WL.q (Wn.no rfl) rfl rfl (R.move (v := (.pointer (some ⟨ob, 0, none⟩))) rfl) ?_
  refine WL.q (Wn.no rfl) rfl rfl (R.nilCheck rfl) ?_
  refine WL.q (Wn.no rfl) rfl rfl (R.fieldAddr (b := ob) (off := 0) (off' := 34) rfl Try.underlying47 rfl Try.sizeOf3 rfl rfl) ?_
  refine WL.q (Wn.no rfl) rfl rfl (R.load1 (b := ob) (off := 34) (v := (vi ((u : Nat) : Int))) rfl Try.isAgg3 (h_3.ok _ (.tail _ (.head _))) (Sg.t rfl (Sg.t rfl (Sg.t rfl Sg.h)))) ?_
  refine WL.q (Wn.no rfl) rfl rfl (R.assign (v := (vi ((u : Nat) : Int))) rfl) ?_
  refine WL.nil ?_
  refine thn_n ?_
  refine WP.seq ?_
  refine WP.reg ?_
  refine WL.q (Wn.no rfl) rfl rfl (R.move (v := (.pointer (some ⟨ob, 0, none⟩))) rfl) ?_
  refine WL.q (Wn.no rfl) rfl rfl (R.nilCheck rfl) ?_
  refine WL.q (Wn.no rfl) rfl rfl (R.fieldAddr (b := ob) (off := 0) (off' := 34) rfl Try.underlying47 rfl Try.sizeOf3 rfl rfl) ?_
  refine WL.q (Wn.no rfl) rfl rfl (R.load1 (b := ob) (off := 34) (v := (vi ((u : Nat) : Int))) rfl Try.isAgg3 (h_3.ok _ (.tail _ (.head _))) (Sg.t rfl (Sg.t rfl (Sg.t rfl Sg.h)))) ?_
  refine WL.q (Wn.no rfl) rfl rfl (R.bin (v := (vi ((u + 1 : Nat) : Int))) rfl rfl (bi_add (c := ((u + 1 : Nat) : Int)) (by omega) (by omega))) ?_
  refine WL.q (Wn.no rfl) rfl rfl (R.nilCheck rfl) ?_
  refine WL.q (Wn.no rfl) rfl rfl (R.fieldAddr (b := ob) (off := 0) (off' := 34) rfl Try.underlying47 rfl Try.sizeOf3 rfl rfl) ?_
  refine WL.store1 (b := ob) (off := 34) (v := (vi ((u + 1 : Nat) : Int))) h_3 rfl rfl Try.sizeOf3 rfl (At.t At.h) (by decide) (Sg.t rfl (Sg.t rfl (Sg.t rfl Sg.h))) (fun w_4 h_5 => ?_)
  refine WL.nil ?_
  refine thn_n ?_
  refine WP.seq ?_
  refine WP.seq ?_
  refine WP.reg ?_
  refine WL.q (Wn.no rfl) rfl rfl (R.move (v := (vi ((u : Nat) : Int))) rfl) ?_
  refine WL.q (Wn.no rfl) rfl rfl (R.move (v := (.pointer (some ⟨ob, 0, none⟩))) rfl) ?_
  refine WL.q (Wn.no rfl) rfl rfl (R.nilCheck rfl) ?_
  refine WL.q (Wn.no rfl) rfl rfl (R.fieldAddr (b := ob) (off := 0) (off' := 33) rfl Try.underlying47 rfl Try.sizeOf22 rfl rfl) ?_
  refine WL.q (Wn.no rfl) rfl rfl (R.load1 (b := ob) (off := 33) (v := (.slice da dn dc)) rfl Try.isAgg22 (h_5.ok _ (.tail _ (.head _))) (Sg.t rfl (Sg.t rfl Sg.h))) ?_
  refine WL.q (Wn.no rfl) rfl rfl (R.lenS (a := da) (m := dn) rfl rfl Try.underlying22) ?_
  refine WL.q (Wn.no rfl) rfl rfl (R.bin (v := (.bool (decide ((((u : Nat) : Int) : Int) < ((dn : Nat) : Int))))) rfl rfl (bi_lss (r := decide ((((u : Nat) : Int) : Int) < ((dn : Nat) : Int))) rfl)) ?_
  refine WL.nil ?_
  refine thn_n ?_
  refine WP.cond (b := decide ((((u : Nat) : Int) : Int) < ((dn : Nat) : Int))) rfl (fun c_6 => ?_) (fun c_6 => ?_)
  · have p_7 := of_decide_eq_true c_6
    refine WP.seq ?_
    refine WP.reg ?_
    refine WL.q (Wn.no rfl) rfl rfl (R.move (v := (.pointer (some ⟨ob, 0, none⟩))) rfl) ?_
    refine WL.q (Wn.no rfl) rfl rfl (R.nilCheck rfl) ?_
    refine WL.q (Wn.no rfl) rfl rfl (R.fieldAddr (b := ob) (off := 0) (off' := 33) rfl Try.underlying47 rfl Try.sizeOf22 rfl rfl) ?_
    refine WL.q (Wn.no rfl) rfl rfl (R.load1 (b := ob) (off := 33) (v := (.slice da dn dc)) rfl Try.isAgg22 (h_5.ok _ (.tail _ (.head _))) (Sg.t rfl (Sg.t rfl Sg.h))) ?_
    refine WL.q (Wn.no rfl) rfl rfl (R.move (v := (vi ((u : Nat) : Int))) rfl) ?_
    refine WL.q (Wn.no rfl) rfl rfl (R.indexS (a := da) (i := u) (off := u * 32) (xs := df.map vu8) rfl rfl rfl (by omega) (viewV (h_5.ok _ (.tail _ (.tail _ (.head _))))) (lt_len (K := 32 * dn) (len_map hdf) (by omega)) Try.underlying22 Try.sizeOf29 rfl) ?_
    refine WL.q (Wn.no rfl) rfl rfl (R.loadGA (a := da) (i := u * 32) (xs := df.map vu8) (cs := (((df).drop (u * 32)).take 32).map vu8) rfl (viewV (h_5.ok _ (.tail _ (.tail _ (.head _))))) Try.isAgg29 Try.sizeOf29 (by rw [List.map_take, List.map_drop]) (len_map (subLen (K := 32 * dn) hdf (by omega) : List.length (((df).drop (u * 32)).take 32) = 32)) (by decide)) ?_
    refine WL.storeA (b := b_1) (off := 0) [] [(32, (List.replicate 32 (0 : UInt8)).map vu8)] [(32, (((df).drop (u * 32)).take 32).map vu8)] [] (ys := (((df).drop (u * 32)).take 32).map vu8) h_5 rfl rfl Try.sizeOf29 At.h (by decide) rfl rfl rfl rfl rfl rfl (SsOk.cons (SOk.u8 (subLen (K := 32 * dn) hdf (by omega) : List.length (((df).drop (u * 32)).take 32) = 32)) SsOk.nil) (fun w_8 h_9 => ?_)
    refine WL.nil ?_
    refine thn_n ?_
    refine WP.ret ?_
    refine thn_r ?_
    refine ret_of Try.results77 (RV.cell rfl (h_9.loadA (cs := (((df).drop (u * 32)).take 32).map vu8) Try.isAgg29 Try.sizeOf29 (.head _) rfl rfl) RV.nil) ?_
    have h_10 := h_9.drop rfl
    have h_11 := h_10.up (Pick.t Pick.h)
    have h_12 := h_11.up (Pick.t Pick.h)
    exact ⟨by rw [drawF, if_pos (by omega)]; rfl, h_12⟩
  · have p_13 := of_decide_eq_false c_6
    refine WP.skip ?_
    refine thn_n ?_
    refine WP.seq ?_
    refine WP.reg ?_
    refine WL.alloc (segs := [(32, (List.replicate 32 (0 : UInt8)).map vu8)]) h_5 (zv Try.typeInfo29 rfl) rfl (SsOk.cons (SOk.u8 (List.length_replicate ..)) SsOk.nil) rfl (fun b_14 w_15 h_16 => ?_)
    refine WL.nil ?_
    refine thn_n ?_
    refine WP.seq ?_
    refine WP.drawT (SL w00.heap.size [.blk b_1 .nw 29 [(32, (List.replicate 32 (0 : UInt8)).map vu8)], .blk ob .nw 47 [(1, [(.bool true)]), (32, ms.map vu8), (1, [(.slice da dn dc)]), (1, [(vi ((u + 1 : Nat) : Int))]), (1, [(.map (some mp))]), (1, [(.slice la lg.length lc)])], .view da (df.map vu8)]) (.q 0 (.q 1 (.q 2 (.s 3 (.s 4 .nil))))) (by kernel_rfl) (by kernel_rfl) rfl (by kernel_rfl) (fun w_17 hc_19 => (SL.cons ((h_16.same hc_19).ok _ (.tail _ (.head _))) (SL.cons ((h_16.same hc_19).ok _ (.tail _ (.tail _ (.head _)))) (SL.cons ((h_16.same hc_19).ok _ (.tail _ (.tail _ (.tail _ (.head _))))) (SL.nil _ _))))) (fun w_17 hc_19 => ?_)
    have h_18 := h_16.same hc_19
    refine WT.q rfl (Wn.no rfl) rfl rfl (fun wq hS => R.sliceA (b := b_14) (off := 0) (off' := 0) (l := 0) (h := 32) rfl EvB.dflt EvB.dflt (by decide) (by decide) Try.underlying29 Try.sizeOf5 rfl) ?_
    refine WT.q rfl (Wn.no rfl) rfl rfl (fun wq hS => R.move (v := (vi ((u : Nat) : Int))) rfl) ?_
    refine WT.q rfl (Wn.no rfl) rfl rfl (fun wq hS => R.conv (b := ((UInt64.ofNat u) : UInt64).toNat) rfl Try.underlying3 Try.underlying37 (w64_nat u)) ?_
    refine WT.s ?_
    refine Op1.one rfl (Wn.no rfl) ?_
    refine WL.call (al := [(vu64 (UInt64.ofNat u))]) Try.call70 rfl rfl (c_oword (UInt64.ofNat u) _) rfl ?_
    rintro _ w_22 ⟨a_20, cap_21, rfl, hc_23, ho_24⟩
    have h_25 := h_18.gotRow hc_23 ho_24
    refine WL.nil ?_
    refine ⟨(SL.cons (h_25.ok _ (.tail _ (.tail _ (.head _)))) (SL.cons (h_25.ok _ (.tail _ (.tail _ (.tail _ (.head _))))) (SL.cons (h_25.ok _ (.tail _ (.tail _ (.tail _ (.tail _ (.head _)))))) (SL.nil _ _)))), ?_⟩
    refine WT.s ?_
    refine Op1.one rfl (Wn.no rfl) ?_
    refine WL.copy (q := 8) (i := 0) (ys := (leN 8 (UInt64.ofNat u).toNat).map vu8) (cs' := ((leN 8 (UInt64.ofNat u).toNat) ++ (List.replicate 32 (0 : UInt8)).drop 8).map vu8) h_25 rfl rfl Try.underlying62 Try.sizeOf5 (ownView (h_25.ok _ (.head _))) (len_map (leN_len ..)) (one_u8 _) (At.t At.h) (by decide) Sg.h rfl (by decide) (by rw [len_map (List.length_replicate ..)]; decide) (cpPre (leN_len ..)) rfl (fun w_26 h_27 => ?_)
    refine WL.nil ?_
    refine ⟨(SL.cons (h_27.ok _ (.tail _ (.tail _ (.head _)))) (SL.cons (h_27.ok _ (.tail _ (.tail _ (.tail _ (.head _))))) (SL.cons (h_27.ok _ (.tail _ (.tail _ (.tail _ (.tail _ (.head _)))))) (SL.nil _ _)))), ?_⟩
    refine WT.nil ?_
    refine thn_n ?_
    refine WP.seq ?_
    refine WP.reg ?_
    refine WL.q (Wn.no rfl) rfl rfl (R.indexA (b := b_14) (off := 0) (off' := 31) (i := 31) rfl rfl rfl (by decide) Try.underlying29 Try.sizeOf5 rfl) ?_
    refine WL.storeE (b := b_14) (off := 31) (i := 31) (v := (vu8 1)) (cs' := (((leN 8 (UInt64.ofNat u).toNat) ++ (List.replicate 32 (0 : UInt8)).drop 8).set 31 1).map vu8) h_27 rfl rfl Try.sizeOf5 rfl (At.t At.h) (by decide) Sg.h rfl (lt_len (K := 32) (len_map (cpLen (leN_len ..) (List.length_replicate ..) (by decide))) (by decide)) (set_u8 _ _ _) (fun w_28 h_29 => ?_)
    refine WL.nil ?_
    refine thn_n ?_
    refine WP.seq ?_
    refine WP.reg ?_
    refine WL.q (Wn.no rfl) rfl rfl (R.loadA (b := b_14) (off := 0) [] [(32, (((leN 8 (UInt64.ofNat u).toNat) ++ (List.replicate 32 (0 : UInt8)).drop 8).set 31 1).map vu8)] [] (cs := (((leN 8 (UInt64.ofNat u).toNat) ++ (List.replicate 32 (0 : UInt8)).drop 8).set 31 1).map vu8) rfl Try.isAgg29 Try.sizeOf29 (h_29.ok _ (.tail _ (.head _))) rfl rfl rfl rfl) ?_
    refine WL.storeA (b := b_1) (off := 0) [] [(32, (List.replicate 32 (0 : UInt8)).map vu8)] [(32, (((leN 8 (UInt64.ofNat u).toNat) ++ (List.replicate 32 (0 : UInt8)).drop 8).set 31 1).map vu8)] [] (ys := (((leN 8 (UInt64.ofNat u).toNat) ++ (List.replicate 32 (0 : UInt8)).drop 8).set 31 1).map vu8) h_29 rfl rfl Try.sizeOf29 (At.t (At.t At.h)) (by decide) rfl rfl rfl rfl rfl rfl (SsOk.cons (SOk.u8 (len_set (cpLen (leN_len ..) (List.length_replicate ..) (by decide)) _ _)) SsOk.nil) (fun w_30 h_31 => ?_)
    refine WL.nil ?_
    refine thn_n ?_
    refine WP.ret ?_
    refine ret_of Try.results77 (RV.cell rfl (h_31.loadA (cs := (((leN 8 (UInt64.ofNat u).toNat) ++ (List.replicate 32 (0 : UInt8)).drop 8).set 31 1).map vu8) Try.isAgg29 Try.sizeOf29 (.tail _ (.tail _ (.head _))) rfl rfl) RV.nil) ?_
    have h_32 := h_31.drop rfl
    have h_33 := h_32.drop rfl
    have h_34 := h_33.drop rfl
    have h_35 := h_34.up (Pick.t Pick.h)
    have h_36 := h_35.up (Pick.t Pick.h)
    exact ⟨by rw [drawF, if_neg (by omega), ← draw_tail (by omega)]; rfl, h_36⟩
end Go.Proofs.Ytbldmljbfokobaa
