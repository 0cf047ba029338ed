/- Tags: contracts. Conditions: those that each theorem states. -/
import Derived.Test.YtelkjcigdhgcoaaPA
import Derived.Test.YtelkjcigdhgcoaaH7
namespace Go.Proofs.Ytelkjcigdhgcoaa
open Go.Vc Go.Sh Go.RowKit
set_option linter.unusedVariables false
set_option linter.unusedSimpArgs false
set_option maxRecDepth 20000

theorem c_Tag1 (mk : UInt8) (key : List UInt8) (ak : Option Addr) (nk ck : Nat) (hkl : key.length = nk) (hk64 : nk ≤ 64) (bc : Nat) (a2 : Option Addr) (n2 cap2 : Nat) (bs2 : List UInt8) (hl2 : bs2.length = n2) (hcap2 : n2 ≤ cap2) (hn2 : n2 ≤ 100000000000) (w : World) (hvk : View w ak (key.map vu8)) (hcb : (Ent.blk bc .ro 26 [(1, [(.slice ak nk ck)])]).ok w.heap.size w) (hv2 : View w a2 (bs2.map vu8)) :
    Cs Try.prog 64 [(vu8 mk), (.slice a2 n2 cap2), (.pointer (some ⟨bc, 0, none⟩))].toArray w (fun v w1 => v = (.agg ⟨(sumL (xm mk (padK key) ++ bs2)).map vu8⟩) ∧ Chg w w1 []) := by
  refine Cs.of (n := 26) (args := [(vu8 mk), (.slice a2 n2 cap2), (.pointer (some ⟨bc, 0, none⟩))]) Try.func64 rfl rfl rfl ?_
  have h_0 := HP.init w
  have h_01 := h_0.oldV (View.arg hvk) rfl (by simp [Ent.mut])
  have h_02 := h_01.oldV hcb rfl (by simp [Ent.mut])
  have h_00 := h_02.oldV (View.arg hv2) rfl (by simp [Ent.mut])
  have hfl : ([xm mk (padK key), bs2].flatten).length = 64 + n2 := by rw [flat2, List.length_append, xm_len, (padK_len hkl hk64), hl2]
  refine WP.seq ?_
  refine WP.reg ?_
  refine WL.alloc (segs := [(32, (List.replicate 32 (0 : UInt8)).map vu8)]) h_00 (zv Try.typeInfo28 rfl) rfl (SsOk.cons (SOk.u8 (List.length_replicate ..)) SsOk.nil) rfl (fun b_1 w_2 h_3 => ?_)
  refine WL.nil ?_
  refine thn_n ?_
  refine WP.seq ?_
  refine WP.reg ?_
  refine WL.alloc (segs := [(64, (List.replicate 64 (0 : UInt8)).map vu8)]) h_3 (zv Try.typeInfo34 rfl) rfl (SsOk.cons (SOk.u8 (List.length_replicate ..)) SsOk.nil) rfl (fun b_4 w_5 h_6 => ?_)
  refine WL.nil ?_
  refine thn_n ?_
  refine WP.seq ?_
  refine WP.drawT (SL w.heap.size [.blk b_1 .nw 28 [(32, (List.replicate 32 (0 : UInt8)).map vu8)], .view a2 (bs2.map vu8), .blk bc .ro 26 [(1, [(.slice ak nk ck)])], .view ak (key.map vu8)]) (.q 0 (.q 1 (.s 2 .nil))) (by kernel_rfl) (by kernel_rfl) rfl (by kernel_rfl) (fun w_7 hc_9 => (SL.cons ((h_6.same hc_9).ok _ (.tail _ (.head _))) (SL.cons ((h_6.same hc_9).ok _ (.tail _ (.tail _ (.head _)))) (SL.cons ((h_6.same hc_9).ok _ (.tail _ (.tail _ (.tail _ (.head _))))) (SL.cons ((h_6.same hc_9).ok _ (.tail _ (.tail _ (.tail _ (.tail _ (.head _)))))) (SL.nil _ _)))))) (fun w_7 hc_9 => ?_)
  have h_8 := h_6.same hc_9
  refine WT.q rfl (Wn.no rfl) rfl rfl (fun wq hS => R.sliceA (b := b_4) (off := 0) (off' := 0) (l := 0) (h := 64) rfl EvB.dflt EvB.dflt (by decide) (by decide) Try.underlying34 Try.sizeOf5 rfl) ?_
  refine WT.q rfl (Wn.no rfl) rfl rfl (fun wq hS => R.load1 (b := bc) (off := 0) (v := (.slice ak nk ck)) rfl Try.isAgg26 (hS _ (.tail _ (.tail _ (.head _)))) Sg.h) ?_
  refine WT.s ?_
  refine Op1.one rfl (Wn.no rfl) ?_
  refine WL.copy (q := nk) (i := 0) (ys := key.map vu8) (cs' := (ovr (List.replicate 64 (0 : UInt8)) 0 key).map vu8) h_8 rfl rfl Try.underlying26 Try.sizeOf5 (viewV (h_8.ok _ (.tail _ (.tail _ (.tail _ (.tail _ (.head _))))))) (len_map hkl) (one_u8 _) At.h (by decide) Sg.h rfl (Nat.min_eq_left (by omega)) (by rw [len_map (List.length_replicate ..)]; omega) (cpOvr hkl) rfl (fun w_10 h_11 => ?_)
  refine WL.nil ?_
  refine ⟨(SL.cons (h_11.ok _ (.tail _ (.head _))) (SL.cons (h_11.ok _ (.tail _ (.tail _ (.head _)))) (SL.cons (h_11.ok _ (.tail _ (.tail _ (.tail _ (.head _))))) (SL.cons (h_11.ok _ (.tail _ (.tail _ (.tail _ (.tail _ (.head _)))))) (SL.nil _ _))))), ?_⟩
  refine WT.nil ?_
  refine thn_n ?_
  refine WP.seq ?_
  refine WP.seq ?_
  refine WP.reg ?_
  refine WL.q (Wn.no rfl) rfl rfl (R.move (v := (vi 0)) rfl) ?_
  refine WL.nil ?_
  refine thn_n ?_
  refine WP.block ?_
  rw [ovr_pad hkl] at h_11
  refine WP.loopG (G := Nat) [7, 11, 12, 13, 14, 15, 16, 17, 18, 19, 20] (fun i => [(11, (vi ((i : Nat) : Int)))]) (fun i m w1 => HP w w1 [.blk b_4 .nw 34 [(64, (mix (xm mk (padK key)) (padK key) i).map vu8)], .blk b_1 .nw 28 [(32, (List.replicate 32 (0 : UInt8)).map vu8)], .view a2 (bs2.map vu8), .blk bc .ro 26 [(1, [(.slice ak nk ck)])], .view ak (key.map vu8)] ∧ (i ≤ 64) ∧ m = 64 - i) ⟨0, _, ⟨rfl, trivial⟩, (by rw [mix_0]; exact h_11), (by omega), rfl⟩ ?_
  rintro i m_14 J_15 w_12 ⟨h_13, hi, rfl⟩
  refine WP.seq ?_
  refine WP.reg ?_
  refine WL.q (Wn.no rfl) rfl rfl (R.bin (v := (.bool (decide ((((i : Nat) : Int) : Int) < 64)))) rfl rfl (bi_lss (r := decide ((((i : Nat) : Int) : Int) < 64)) rfl)) ?_
  refine WL.nil ?_
  refine thn_n ?_
  refine WP.seq ?_
  refine WP.cond (b := decide ((((i : Nat) : Int) : Int) < 64)) rfl (fun c_16 => ?_) (fun c_16 => ?_)
  · have p_17 := of_decide_eq_true c_16
    refine WP.skip ?_
    refine thn_n ?_
    refine WP.seq ?_
    refine WP.block ?_
    refine WP.seq ?_
    refine WP.reg ?_
    refine WL.q (Wn.no rfl) rfl rfl (R.move (v := (vi ((i : Nat) : Int))) rfl) ?_
    refine WL.q (Wn.no rfl) rfl rfl (R.assign (v := (vi ((i : Nat) : Int))) rfl) ?_
    refine WL.nil ?_
    refine thn_n ?_
    refine WP.reg ?_
    refine WL.q (Wn.no rfl) rfl rfl (R.move (v := (vi ((i : Nat) : Int))) rfl) ?_
    refine WL.q (Wn.no rfl) rfl rfl (R.indexA (b := b_4) (off := 0) (off' := (0 + i)) (i := i) rfl rfl rfl (by omega) Try.underlying34 Try.sizeOf5 (by rw [Nat.mul_one])) ?_
    refine WL.q (Wn.no rfl) rfl rfl (R.loadE (b := b_4) (off := (0 + i)) (i := i) (v := (vu8 ((mix (xm mk (padK key)) (padK key) i).getD i 0))) rfl Try.isAgg5 (h_13.ok _ (.head _)) Sg.h rfl (get_u8 (lt_len (K := 64) (mix_len ((xm_len _ _).trans (padK_len hkl hk64)) (padK_len hkl hk64)) (by omega)))) ?_
    refine WL.q (Wn.no rfl) rfl rfl (R.move (v := (vu8 mk)) rfl) ?_
    refine WL.q (Wn.no rfl) rfl rfl (R.bin (v := (vu8 (((mix (xm mk (padK key)) (padK key) i).getD i 0) ^^^ mk))) rfl rfl (b8_xor ((mix (xm mk (padK key)) (padK key) i).getD i 0) mk)) ?_
    refine WL.q (Wn.no rfl) rfl rfl (R.indexA (b := b_4) (off := 0) (off' := (0 + i)) (i := i) rfl rfl rfl (by omega) Try.underlying34 Try.sizeOf5 (by rw [Nat.mul_one])) ?_
    refine WL.storeE (b := b_4) (off := (0 + i)) (i := i) (v := (vu8 (((mix (xm mk (padK key)) (padK key) i).getD i 0) ^^^ mk))) (cs' := ((mix (xm mk (padK key)) (padK key) i).set i (((mix (xm mk (padK key)) (padK key) i).getD i 0) ^^^ mk)).map vu8) h_13 rfl rfl Try.sizeOf5 rfl At.h (by decide) Sg.h rfl (lt_len (K := 64) (len_map (mix_len ((xm_len _ _).trans (padK_len hkl hk64)) (padK_len hkl hk64))) (by omega)) (set_u8 _ _ _) (fun w_18 h_19 => ?_)
    refine WL.nil ?_
    refine inb_n ?_
    refine thn_n ?_
    refine WP.reg ?_
    refine WL.q (Wn.no rfl) rfl rfl (R.bin (v := (vi ((i + 1 : Nat) : Int))) rfl rfl (bi_add (c := ((i + 1 : Nat) : Int)) (by omega) (by omega))) ?_
    refine WL.q (Wn.no rfl) rfl rfl (R.move (v := (vi ((i + 1 : Nat) : Int))) rfl) ?_
    refine WL.nil ?_
    refine thn_n ?_
    have h_20 := h_19.up (Pick.t (Pick.t (Pick.t (Pick.t Pick.h))))
    have h_21 := h_20.up (Pick.t (Pick.t (Pick.t (Pick.t Pick.h))))
    have h_22 := h_21.up (Pick.t (Pick.t (Pick.t (Pick.t Pick.h))))
    have h_23 := h_22.up (Pick.t (Pick.t (Pick.t (Pick.t Pick.h))))
    have h_24 := h_23.up (Pick.t (Pick.t (Pick.t (Pick.t Pick.h))))
    rw [xm_step (padK_len hkl hk64) (by omega)] at h_24
    exact ⟨i + 1, _, (by omega), (Ag.upd rfl (Ag.upd rfl (Ag.upd rfl (Ag.upd rfl (Ag.upd rfl (Ag.upd rfl (Ag.upd rfl (Ag.upd rfl (Ag.upd rfl (Ag.upd rfl (Ag.upd rfl (Ag.updL rfl (Ag.mix _ _ _))))))))))))), ⟨rfl, trivial⟩, h_24, (by omega), rfl⟩
  · have p_25 := of_decide_eq_false c_16
    refine WP.exit ?_
    refine thn_x ?_
    refine thn_x ?_
    refine inb_hit ?_
    refine thn_n ?_
    refine WP.seq ?_
    refine WP.reg ?_
    have hi64 : i = 64 := by omega
    subst hi64
    rw [xm_all (padK_len hkl hk64)] at h_13
    refine WL.q (Wn.no rfl) rfl rfl (R.sliceA (b := b_4) (off := 0) (off' := 0) (l := 0) (h := 64) rfl EvB.dflt EvB.dflt (by decide) (by decide) Try.underlying34 Try.sizeOf5 rfl) ?_
    refine WL.q (Wn.no rfl) rfl rfl (R.move (v := (.slice a2 n2 cap2)) rfl) ?_
    refine WL.buildSl (vs := [(0, (.slice (some ⟨b_4, 0, none⟩) 64 64)), (1, (.slice a2 n2 cap2))]) (cs := [(.slice (some ⟨b_4, 0, none⟩) 64 64), (.slice a2 n2 cap2)]) h_13 Try.underlying40 Try.sizeOf26 (zv Try.typeInfo26 rfl) rfl rfl (by kernel_rfl) rfl (by simp [Value.oneCell']) rfl rfl (fun b_26 w_27 h_28 => ?_)
    refine WL.call (al := [(.slice (some ⟨b_26, 0, none⟩) 2 2)]) Try.call53 rfl rfl (c_wJoin (some ⟨b_26, 0, none⟩) 2 2 [(.slice (some ⟨b_4, 0, none⟩) 64 64), (.slice a2 n2 cap2)] [xm mk (padK key), bs2] rfl (by omega) (by omega) _ (viewB (h_28.ok _ (.head _)) Sg.h) (Sls.cons ((xm_len _ _).trans (padK_len hkl hk64)) (by decide) (viewB (h_28.ok _ (.tail _ (.head _))) Sg.h) (Sls.cons hl2 (by omega) (viewV (h_28.ok _ (.tail _ (.tail _ (.tail _ (.head _)))))) Sls.nil))) rfl ?_
    rintro _ w_31 ⟨a_29, cap_30, rfl, hc_32, ho_33⟩
    have h_34 := h_28.gotRow hc_32 ho_33
    refine WL.call (al := [(.slice a_29 ([xm mk (padK key), bs2].flatten.length) cap_30)]) Try.call19 rfl rfl (c_Sum a_29 ([xm mk (padK key), bs2].flatten.length) cap_30 ([xm mk (padK key), bs2].flatten) (rfl : List.length ([xm mk (padK key), bs2].flatten) = [xm mk (padK key), bs2].flatten.length) (by omega) (h_34.own (.head _)).2.2.1 _ (ownView (h_34.ok _ (.head _)))) rfl ?_
    rintro _ w_36 ⟨rfl, hc_35⟩
    have h_37 := h_34.same hc_35
    refine WL.storeA (b := b_1) (off := 0) [] [(32, (List.replicate 32 (0 : UInt8)).map vu8)] [(32, (sumL ([xm mk (padK key), bs2].flatten)).map vu8)] [] (ys := (sumL ([xm mk (padK key), bs2].flatten)).map vu8) h_37 rfl rfl Try.sizeOf28 (At.t (At.t (At.t At.h))) (by decide) rfl rfl rfl rfl rfl rfl (SsOk.cons (SOk.u8 (sumL_len _)) SsOk.nil) (fun w_38 h_39 => ?_)
    refine WL.nil ?_
    refine thn_n ?_
    refine WP.ret ?_
    refine ret_of Try.results64 (RV.cell rfl (h_39.loadA (cs := (sumL ([xm mk (padK key), bs2].flatten)).map vu8) Try.isAgg28 Try.sizeOf28 (.tail _ (.tail _ (.tail _ (.head _)))) rfl rfl) RV.nil) ?_
    exact ⟨by rw [flat2]; rfl, h_39.chgS⟩

theorem c_Tag_s (a : Option Addr) (n cap : Nat) (key : List UInt8) (hl : key.length = n) (hcap : n ≤ cap) (hn : n ≤ 100000000000) (a2 : Option Addr) (n2 cap2 : Nat) (bs2 : List UInt8) (hl2 : bs2.length = n2) (hcap2 : n2 ≤ cap2) (hn2 : n2 ≤ 100000000000) (h : ¬ 64 < n) (w : World) (hv : View w a (key.map vu8)) (hv2 : View w a2 (bs2.map vu8)) :
    Cs Try.prog 36 [(.slice a n cap), (.slice a2 n2 cap2)].toArray w (fun v w1 => v = (.agg ⟨(tagL key bs2).map vu8⟩) ∧ Chg w w1 []) := by
  refine Cs.of (n := 21) (args := [(.slice a n cap), (.slice a2 n2 cap2)]) Try.func36 rfl rfl rfl ?_
  have h_0 := HP.init w
  have h_01 := h_0.oldV (View.arg hv) rfl (by simp [Ent.mut])
  have h_00 := h_01.oldV (View.arg hv2) rfl (by simp [Ent.mut])
  refine WP.seq ?_
  refine WP.reg ?_
  refine WL.box (v := (.slice a n cap)) (segs := [(1, [(.slice a n cap)])]) h_00 rfl rfl (SsOk.cons (SOk.v rfl) SsOk.nil) rfl (fun b_1 w_2 h_3 => ?_)
  refine WL.alloc (segs := [(32, (List.replicate 32 (0 : UInt8)).map vu8)]) h_3 (zv Try.typeInfo28 rfl) rfl (SsOk.cons (SOk.u8 (List.length_replicate ..)) SsOk.nil) rfl (fun b_4 w_5 h_6 => ?_)
  refine WL.nil ?_
  refine thn_n ?_
  refine WP.seq ?_
  refine WP.seq ?_
  refine WP.reg ?_
  refine WL.q (Wn.no rfl) rfl rfl (R.load1 (b := b_1) (off := 0) (v := (.slice a n cap)) rfl Try.isAgg26 (h_6.ok _ (.tail _ (.head _))) Sg.h) ?_
  refine WL.q (Wn.no rfl) rfl rfl (R.lenS (a := a) (m := n) rfl rfl Try.underlying26) ?_
  refine WL.q (Wn.no rfl) rfl rfl (R.bin (v := (.bool (decide ((((n : Nat) : Int) : Int) > 64)))) rfl rfl (bi_gtr (r := decide ((((n : Nat) : Int) : Int) > 64)) rfl)) ?_
  refine WL.nil ?_
  refine thn_n ?_
  refine WP.condF (congrArg Value.bool (decide_eq_false (by omega))) ?_
  refine WP.skip ?_
  refine thn_n ?_
  refine WP.seq ?_
  refine WP.reg ?_
  refine WL.q (Wn.no rfl) rfl rfl (R.makeFuncL (fi := []) (ca := [(.pointer (some ⟨b_1, 0, none⟩))]) rfl rfl) ?_
  refine WL.q (Wn.no rfl) rfl rfl (R.assign (v := (Value.func (Fn.func 64) [].toArray [(Value.pointer (some ⟨b_1, 0, none⟩))].toArray)) rfl) ?_
  refine WL.nil ?_
  refine thn_n ?_
  refine WP.seq ?_
  refine WP.reg ?_
  refine WL.q (Wn.no rfl) rfl rfl (R.move (v := (Value.func (Fn.func 64) [].toArray [(Value.pointer (some ⟨b_1, 0, none⟩))].toArray)) rfl) ?_
  refine WL.q (Wn.no rfl) rfl rfl (R.move (v := (.slice a2 n2 cap2)) rfl) ?_
  refine WL.call (al := [(vu8 54), (.slice a2 n2 cap2), (.pointer (some ⟨b_1, 0, none⟩))]) Try.call64 rfl rfl (c_Tag1 (54 : UInt8) key a n cap hl (by omega) b_1 a2 n2 cap2 bs2 hl2 (by omega) (by omega) _ (viewV (h_6.ok _ (.tail _ (.tail _ (.tail _ (.head _)))))) (h_6.argR (.tail _ (.head _))) (viewV (h_6.ok _ (.tail _ (.tail _ (.head _)))))) rfl ?_
  rintro _ w_8 ⟨rfl, hc_7⟩
  have h_9 := h_6.same hc_7
  refine WL.alloc (segs := [(32, (List.replicate 32 (0 : UInt8)).map vu8)]) h_9 (zv Try.typeInfo28 rfl) rfl (SsOk.cons (SOk.u8 (List.length_replicate ..)) SsOk.nil) rfl (fun b_10 w_11 h_12 => ?_)
  refine WL.storeA (b := b_10) (off := 0) [] [(32, (List.replicate 32 (0 : UInt8)).map vu8)] [(32, (sumL (xm (54 : UInt8) (padK key) ++ bs2)).map vu8)] [] (ys := (sumL (xm (54 : UInt8) (padK key) ++ bs2)).map vu8) h_12 rfl rfl Try.sizeOf28 At.h (by decide) rfl rfl rfl rfl rfl rfl (SsOk.cons (SOk.u8 (sumL_len _)) SsOk.nil) (fun w_13 h_14 => ?_)
  refine WL.nil ?_
  refine thn_n ?_
  refine WP.seq ?_
  refine WP.reg ?_
  refine WL.q (Wn.no rfl) rfl rfl (R.move (v := (Value.func (Fn.func 64) [].toArray [(Value.pointer (some ⟨b_1, 0, none⟩))].toArray)) rfl) ?_
  refine WL.q (Wn.no rfl) rfl rfl (R.sliceA (b := b_10) (off := 0) (off' := 0) (l := 0) (h := 32) rfl EvB.dflt EvB.dflt (by decide) (by decide) Try.underlying28 Try.sizeOf5 rfl) ?_
  refine WL.call (al := [(vu8 92), (.slice (some ⟨b_10, 0, none⟩) 32 32), (.pointer (some ⟨b_1, 0, none⟩))]) Try.call64 rfl rfl (c_Tag1 (92 : UInt8) key a n cap hl (by omega) b_1 (some ⟨b_10, 0, none⟩) 32 32 (sumL (xm (54 : UInt8) (padK key) ++ bs2)) (sumL_len _) (by decide) (by omega) _ (viewV (h_14.ok _ (.tail _ (.tail _ (.tail _ (.tail _ (.head _))))))) (h_14.argR (.tail _ (.tail _ (.head _)))) (viewB (h_14.ok _ (.head _)) Sg.h)) rfl ?_
  rintro _ w_16 ⟨rfl, hc_15⟩
  have h_17 := h_14.same hc_15
  refine WL.storeA (b := b_4) (off := 0) [] [(32, (List.replicate 32 (0 : UInt8)).map vu8)] [(32, (sumL (xm (92 : UInt8) (padK key) ++ (sumL (xm (54 : UInt8) (padK key) ++ bs2)))).map vu8)] [] (ys := (sumL (xm (92 : UInt8) (padK key) ++ (sumL (xm (54 : UInt8) (padK key) ++ bs2)))).map vu8) h_17 rfl rfl Try.sizeOf28 (At.t At.h) (by decide) rfl rfl rfl rfl rfl rfl (SsOk.cons (SOk.u8 (sumL_len _)) SsOk.nil) (fun w_18 h_19 => ?_)
  refine WL.nil ?_
  refine thn_n ?_
  refine WP.ret ?_
  refine ret_of Try.results36 (RV.cell rfl (h_19.loadA (cs := (sumL (xm (92 : UInt8) (padK key) ++ (sumL (xm (54 : UInt8) (padK key) ++ bs2)))).map vu8) Try.isAgg28 Try.sizeOf28 (.tail _ (.head _)) rfl rfl) RV.nil) ?_
  exact ⟨by rw [tag_s hl h]; rfl, h_19.chgS⟩

theorem c_Tag_l (a : Option Addr) (n cap : Nat) (key : List UInt8) (hl : key.length = n) (hcap : n ≤ cap) (hn : n ≤ 100000000000) (a2 : Option Addr) (n2 cap2 : Nat) (bs2 : List UInt8) (hl2 : bs2.length = n2) (hcap2 : n2 ≤ cap2) (hn2 : n2 ≤ 100000000000) (h : 64 < n) (w : World) (hv : View w a (key.map vu8)) (hv2 : View w a2 (bs2.map vu8)) :
    Cs Try.prog 36 [(.slice a n cap), (.slice a2 n2 cap2)].toArray w (fun v w1 => v = (.agg ⟨(tagL key bs2).map vu8⟩) ∧ Chg w w1 []) := by
  refine Cs.of (n := 21) (args := [(.slice a n cap), (.slice a2 n2 cap2)]) Try.func36 rfl rfl rfl ?_
  have h_0 := HP.init w
  have h_01 := h_0.oldV (View.arg hv) rfl (by simp [Ent.mut])
  have h_00 := h_01.oldV (View.arg hv2) rfl (by simp [Ent.mut])
  refine WP.seq ?_
  refine WP.reg ?_
  refine WL.box (v := (.slice a n cap)) (segs := [(1, [(.slice a n cap)])]) h_00 rfl rfl (SsOk.cons (SOk.v rfl) SsOk.nil) rfl (fun b_1 w_2 h_3 => ?_)
  refine WL.alloc (segs := [(32, (List.replicate 32 (0 : UInt8)).map vu8)]) h_3 (zv Try.typeInfo28 rfl) rfl (SsOk.cons (SOk.u8 (List.length_replicate ..)) SsOk.nil) rfl (fun b_4 w_5 h_6 => ?_)
  refine WL.nil ?_
  refine thn_n ?_
  refine WP.seq ?_
  refine WP.seq ?_
  refine WP.reg ?_
  refine WL.q (Wn.no rfl) rfl rfl (R.load1 (b := b_1) (off := 0) (v := (.slice a n cap)) rfl Try.isAgg26 (h_6.ok _ (.tail _ (.head _))) Sg.h) ?_
  refine WL.q (Wn.no rfl) rfl rfl (R.lenS (a := a) (m := n) rfl rfl Try.underlying26) ?_
  refine WL.q (Wn.no rfl) rfl rfl (R.bin (v := (.bool (decide ((((n : Nat) : Int) : Int) > 64)))) rfl rfl (bi_gtr (r := decide ((((n : Nat) : Int) : Int) > 64)) rfl)) ?_
  refine WL.nil ?_
  refine thn_n ?_
  refine WP.condT (congrArg Value.bool (decide_eq_true (by omega))) ?_
  refine WP.seq ?_
  refine WP.reg ?_
  refine WL.q (Wn.no rfl) rfl rfl (R.load1 (b := b_1) (off := 0) (v := (.slice a n cap)) rfl Try.isAgg26 (h_6.ok _ (.tail _ (.head _))) Sg.h) ?_
  refine WL.call (al := [(.slice a n cap)]) Try.call19 rfl rfl (c_Sum a n cap key hl (by omega) (by omega) _ (viewV (h_6.ok _ (.tail _ (.tail _ (.tail _ (.head _))))))) rfl ?_
  rintro _ w_8 ⟨rfl, hc_7⟩
  have h_9 := h_6.same hc_7
  refine WL.alloc (segs := [(32, (List.replicate 32 (0 : UInt8)).map vu8)]) h_9 (zv Try.typeInfo28 rfl) rfl (SsOk.cons (SOk.u8 (List.length_replicate ..)) SsOk.nil) rfl (fun b_10 w_11 h_12 => ?_)
  refine WL.storeA (b := b_10) (off := 0) [] [(32, (List.replicate 32 (0 : UInt8)).map vu8)] [(32, (sumL key).map vu8)] [] (ys := (sumL key).map vu8) h_12 rfl rfl Try.sizeOf28 At.h (by decide) rfl rfl rfl rfl rfl rfl (SsOk.cons (SOk.u8 (sumL_len _)) SsOk.nil) (fun w_13 h_14 => ?_)
  refine WL.nil ?_
  refine thn_n ?_
  refine WP.reg ?_
  refine WL.q (Wn.no rfl) rfl rfl (R.sliceA (b := b_10) (off := 0) (off' := 0) (l := 0) (h := 32) rfl EvB.dflt EvB.dflt (by decide) (by decide) Try.underlying28 Try.sizeOf5 rfl) ?_
  refine WL.store1 (b := b_1) (off := 0) (v := (.slice (some ⟨b_10, 0, none⟩) 32 32)) h_14 rfl rfl Try.sizeOf26 rfl (At.t (At.t At.h)) (by decide) Sg.h (fun w_15 h_16 => ?_)
  refine WL.nil ?_
  refine thn_n ?_
  refine WP.seq ?_
  refine WP.reg ?_
  refine WL.q (Wn.no rfl) rfl rfl (R.makeFuncL (fi := []) (ca := [(.pointer (some ⟨b_1, 0, none⟩))]) rfl rfl) ?_
  refine WL.q (Wn.no rfl) rfl rfl (R.assign (v := (Value.func (Fn.func 64) [].toArray [(Value.pointer (some ⟨b_1, 0, none⟩))].toArray)) rfl) ?_
  refine WL.nil ?_
  refine thn_n ?_
  refine WP.seq ?_
  refine WP.reg ?_
  refine WL.q (Wn.no rfl) rfl rfl (R.move (v := (Value.func (Fn.func 64) [].toArray [(Value.pointer (some ⟨b_1, 0, none⟩))].toArray)) rfl) ?_
  refine WL.q (Wn.no rfl) rfl rfl (R.move (v := (.slice a2 n2 cap2)) rfl) ?_
  refine WL.call (al := [(vu8 54), (.slice a2 n2 cap2), (.pointer (some ⟨b_1, 0, none⟩))]) Try.call64 rfl rfl (c_Tag1 (54 : UInt8) (sumL key) (some ⟨b_10, 0, none⟩) 32 32 (sumL_len _) (by omega) b_1 a2 n2 cap2 bs2 hl2 (by omega) (by omega) _ (viewB (h_16.ok _ (.head _)) Sg.h) (h_16.argR (.tail _ (.tail _ (.head _)))) (viewV (h_16.ok _ (.tail _ (.tail _ (.tail _ (.head _))))))) rfl ?_
  rintro _ w_18 ⟨rfl, hc_17⟩
  have h_19 := h_16.same hc_17
  refine WL.alloc (segs := [(32, (List.replicate 32 (0 : UInt8)).map vu8)]) h_19 (zv Try.typeInfo28 rfl) rfl (SsOk.cons (SOk.u8 (List.length_replicate ..)) SsOk.nil) rfl (fun b_20 w_21 h_22 => ?_)
  refine WL.storeA (b := b_20) (off := 0) [] [(32, (List.replicate 32 (0 : UInt8)).map vu8)] [(32, (sumL (xm (54 : UInt8) (padK (sumL key)) ++ bs2)).map vu8)] [] (ys := (sumL (xm (54 : UInt8) (padK (sumL key)) ++ bs2)).map vu8) h_22 rfl rfl Try.sizeOf28 At.h (by decide) rfl rfl rfl rfl rfl rfl (SsOk.cons (SOk.u8 (sumL_len _)) SsOk.nil) (fun w_23 h_24 => ?_)
  refine WL.nil ?_
  refine thn_n ?_
  refine WP.seq ?_
  refine WP.reg ?_
  refine WL.q (Wn.no rfl) rfl rfl (R.move (v := (Value.func (Fn.func 64) [].toArray [(Value.pointer (some ⟨b_1, 0, none⟩))].toArray)) rfl) ?_
  refine WL.q (Wn.no rfl) rfl rfl (R.sliceA (b := b_20) (off := 0) (off' := 0) (l := 0) (h := 32) rfl EvB.dflt EvB.dflt (by decide) (by decide) Try.underlying28 Try.sizeOf5 rfl) ?_
  refine WL.call (al := [(vu8 92), (.slice (some ⟨b_20, 0, none⟩) 32 32), (.pointer (some ⟨b_1, 0, none⟩))]) Try.call64 rfl rfl (c_Tag1 (92 : UInt8) (sumL key) (some ⟨b_10, 0, none⟩) 32 32 (sumL_len _) (by omega) b_1 (some ⟨b_20, 0, none⟩) 32 32 (sumL (xm (54 : UInt8) (padK (sumL key)) ++ bs2)) (sumL_len _) (by decide) (by omega) _ (viewB (h_24.ok _ (.tail _ (.head _))) Sg.h) (h_24.argR (.tail _ (.tail _ (.tail _ (.head _))))) (viewB (h_24.ok _ (.head _)) Sg.h)) rfl ?_
  rintro _ w_26 ⟨rfl, hc_25⟩
  have h_27 := h_24.same hc_25
  refine WL.storeA (b := b_4) (off := 0) [] [(32, (List.replicate 32 (0 : UInt8)).map vu8)] [(32, (sumL (xm (92 : UInt8) (padK (sumL key)) ++ (sumL (xm (54 : UInt8) (padK (sumL key)) ++ bs2)))).map vu8)] [] (ys := (sumL (xm (92 : UInt8) (padK (sumL key)) ++ (sumL (xm (54 : UInt8) (padK (sumL key)) ++ bs2)))).map vu8) h_27 rfl rfl Try.sizeOf28 (At.t (At.t At.h)) (by decide) rfl rfl rfl rfl rfl rfl (SsOk.cons (SOk.u8 (sumL_len _)) SsOk.nil) (fun w_28 h_29 => ?_)
  refine WL.nil ?_
  refine thn_n ?_
  refine WP.ret ?_
  refine ret_of Try.results36 (RV.cell rfl (h_29.loadA (cs := (sumL (xm (92 : UInt8) (padK (sumL key)) ++ (sumL (xm (54 : UInt8) (padK (sumL key)) ++ bs2)))).map vu8) Try.isAgg28 Try.sizeOf28 (.tail _ (.tail _ (.head _))) rfl rfl) RV.nil) ?_
  exact ⟨by rw [tag_l hl h]; rfl, h_29.chgS⟩

theorem c_Tag (a : Option Addr) (n cap : Nat) (key : List UInt8) (hl : key.length = n) (hcap : n ≤ cap) (hn : n ≤ 100000000000) (a2 : Option Addr) (n2 cap2 : Nat) (bs2 : List UInt8) (hl2 : bs2.length = n2) (hcap2 : n2 ≤ cap2) (hn2 : n2 ≤ 100000000000) (w : World) (hv : View w a (key.map vu8)) (hv2 : View w a2 (bs2.map vu8)) : Cs Try.prog 36 [.slice a n cap, .slice a2 n2 cap2].toArray w (fun v w1 => v = (.agg ⟨(tagL key bs2).map vu8⟩) ∧ Chg w w1 []) := by
  by_cases h : 64 < n
  · exact c_Tag_l a n cap key hl hcap hn a2 n2 cap2 bs2 hl2 hcap2 hn2 h w hv hv2
  · exact c_Tag_s a n cap key hl hcap hn a2 n2 cap2 bs2 hl2 hcap2 hn2 h w hv hv2

theorem c_Equal (p q : List UInt8) (hp : p.length = 32) (hq : q.length = 32) (w : World) :
    Cs Try.prog 46 [(.agg ⟨p.map vu8⟩), (.agg ⟨q.map vu8⟩)].toArray w (fun v w1 => v = (.bool (decide (p = q))) ∧ Chg w w1 []) := by
  refine Cs.of (n := 22) (args := [(.agg ⟨p.map vu8⟩), (.agg ⟨q.map vu8⟩)]) Try.func46 rfl rfl rfl ?_
  have h_0 := HP.init w
  refine WP.seq ?_
  refine WP.reg ?_
  refine WL.box (v := (.agg ⟨p.map vu8⟩)) (segs := [(32, p.map vu8)]) h_0 rfl rfl (SsOk.cons (SOk.u8 hp) SsOk.nil) rfl (fun b_1 w_2 h_3 => ?_)
  refine WL.box (v := (.agg ⟨q.map vu8⟩)) (segs := [(32, q.map vu8)]) h_3 rfl rfl (SsOk.cons (SOk.u8 hq) SsOk.nil) rfl (fun b_4 w_5 h_6 => ?_)
  refine WL.q (Wn.no rfl) rfl rfl (R.assign (v := (.bool false)) rfl) ?_
  refine WL.nil ?_
  refine thn_n ?_
  refine WP.seq ?_
  refine WP.reg ?_
  refine WL.q (Wn.no rfl) rfl rfl (R.assign (v := (vu8 0)) rfl) ?_
  refine WL.nil ?_
  refine thn_n ?_
  refine WP.seq ?_
  refine WP.seq ?_
  refine WP.reg ?_
  refine WL.q (Wn.no rfl) rfl rfl (R.move (v := (vi 0)) rfl) ?_
  refine WL.nil ?_
  refine thn_n ?_
  refine WP.block ?_
  refine WP.loopG (G := Nat) [5, 6, 7, 8, 9, 10, 11, 12, 13, 14, 15, 16, 17, 18, 19] (fun i => [(5, (vu8 (difN p q i))), (7, (vi ((i : Nat) : Int)))]) (fun i m w1 => HP w w1 [.blk b_4 .nw 28 [(32, q.map vu8)], .blk b_1 .nw 28 [(32, p.map vu8)]] ∧ (i ≤ 32) ∧ m = 32 - i) ⟨0, _, ⟨rfl, rfl, trivial⟩, h_6, (by omega), rfl⟩ ?_
  rintro i m_9 J_10 w_7 ⟨h_8, hi, rfl⟩
  refine WP.seq ?_
  refine WP.reg ?_
  refine WL.q (Wn.no rfl) rfl rfl (R.bin (v := (.bool (decide ((((i : Nat) : Int) : Int) < 32)))) rfl rfl (bi_lss (r := decide ((((i : Nat) : Int) : Int) < 32)) rfl)) ?_
  refine WL.nil ?_
  refine thn_n ?_
  refine WP.seq ?_
  refine WP.cond (b := decide ((((i : Nat) : Int) : Int) < 32)) rfl (fun c_11 => ?_) (fun c_11 => ?_)
  · have p_12 := of_decide_eq_true c_11
    refine WP.skip ?_
    refine thn_n ?_
    refine WP.seq ?_
    refine WP.block ?_
    refine WP.seq ?_
    refine WP.reg ?_
    refine WL.q (Wn.no rfl) rfl rfl (R.move (v := (vi ((i : Nat) : Int))) rfl) ?_
    refine WL.q (Wn.no rfl) rfl rfl (R.assign (v := (vi ((i : Nat) : Int))) rfl) ?_
    refine WL.nil ?_
    refine thn_n ?_
    refine WP.drawT (SL w.heap.size [.blk b_4 .nw 28 [(32, q.map vu8)], .blk b_1 .nw 28 [(32, p.map vu8)]]) (.q 0 (.q 1 (.q 2 (.q 3 (.q 4 (.q 5 (.q 6 (.q 7 (.q 8 (.q 9 .nil)))))))))) (by kernel_rfl) (by kernel_rfl) rfl (by kernel_rfl) (fun w_13 hc_15 => (SL.cons ((h_8.same hc_15).ok _ (.head _)) (SL.cons ((h_8.same hc_15).ok _ (.tail _ (.head _))) (SL.nil _ _)))) (fun w_13 hc_15 => ?_)
    have h_14 := h_8.same hc_15
    refine WT.q rfl (Wn.no rfl) rfl rfl (fun wq hS => R.move (v := (vu8 (difN p q i))) rfl) ?_
    refine WT.q rfl (Wn.no rfl) rfl rfl (fun wq hS => R.move (v := (vi ((i : Nat) : Int))) rfl) ?_
    refine WT.q rfl (Wn.no rfl) rfl rfl (fun wq hS => R.indexA (b := b_1) (off := 0) (off' := (0 + i)) (i := i) rfl rfl rfl (by omega) Try.underlying28 Try.sizeOf5 (by rw [Nat.mul_one])) ?_
    refine WT.q rfl (Wn.no rfl) rfl rfl (fun wq hS => R.loadE (b := b_1) (off := (0 + i)) (i := i) (v := (vu8 (p.getD i 0))) rfl Try.isAgg5 (hS _ (.tail _ (.head _))) Sg.h rfl (get_u8 (lt_len (K := 32) hp (by omega)))) ?_
    refine WT.q rfl (Wn.no rfl) rfl rfl (fun wq hS => R.move (v := (vi ((i : Nat) : Int))) rfl) ?_
    refine WT.q rfl (Wn.no rfl) rfl rfl (fun wq hS => R.indexA (b := b_4) (off := 0) (off' := (0 + i)) (i := i) rfl rfl rfl (by omega) Try.underlying28 Try.sizeOf5 (by rw [Nat.mul_one])) ?_
    refine WT.q rfl (Wn.no rfl) rfl rfl (fun wq hS => R.loadE (b := b_4) (off := (0 + i)) (i := i) (v := (vu8 (q.getD i 0))) rfl Try.isAgg5 (hS _ (.head _)) Sg.h rfl (get_u8 (lt_len (K := 32) hq (by omega)))) ?_
    refine WT.q rfl (Wn.no rfl) rfl rfl (fun wq hS => R.bin (v := (vu8 ((p.getD i 0) ^^^ (q.getD i 0)))) rfl rfl (b8_xor (p.getD i 0) (q.getD i 0))) ?_
    refine WT.q rfl (Wn.no rfl) rfl rfl (fun wq hS => R.bin (v := (vu8 ((difN p q i) ||| ((p.getD i 0) ^^^ (q.getD i 0))))) rfl rfl (b8_or (difN p q i) ((p.getD i 0) ^^^ (q.getD i 0)))) ?_
    refine WT.q rfl (Wn.no rfl) rfl rfl (fun wq hS => R.assign (v := (vu8 ((difN p q i) ||| ((p.getD i 0) ^^^ (q.getD i 0))))) rfl) ?_
    refine WT.nil ?_
    refine inb_n ?_
    refine thn_n ?_
    refine WP.reg ?_
    refine WL.q (Wn.no rfl) rfl rfl (R.bin (v := (vi ((i + 1 : Nat) : Int))) rfl rfl (bi_add (c := ((i + 1 : Nat) : Int)) (by omega) (by omega))) ?_
    refine WL.q (Wn.no rfl) rfl rfl (R.move (v := (vi ((i + 1 : Nat) : Int))) rfl) ?_
    refine WL.nil ?_
    refine thn_n ?_
    have h_16 := h_14.up (Pick.t Pick.h)
    have h_17 := h_16.up (Pick.t Pick.h)
    exact ⟨i + 1, _, (by omega), (Ag.upd rfl (Ag.upd rfl (Ag.upd rfl (Ag.upd rfl (Ag.upd rfl (Ag.upd rfl (Ag.upd rfl (Ag.upd rfl (Ag.upd rfl (Ag.upd rfl (Ag.upd rfl (Ag.upd rfl (Ag.upd rfl (Ag.upd rfl (Ag.upd rfl (Ag.updL rfl (Ag.mix _ _ _))))))))))))))))), ⟨rfl, rfl, trivial⟩, h_17, (by omega), rfl⟩
  · have p_18 := of_decide_eq_false c_11
    refine WP.exit ?_
    refine thn_x ?_
    refine thn_x ?_
    refine inb_hit ?_
    refine thn_n ?_
    refine WP.seq ?_
    refine WP.reg ?_
    refine WL.q (Wn.no rfl) rfl rfl (R.move (v := (vu8 (difN p q i))) rfl) ?_
    refine WL.q (Wn.no rfl) rfl rfl (R.bin (v := (.bool (decide ((difN p q i : UInt8) = 0)))) rfl rfl (b8_eql (difN p q i) 0 (r := decide ((difN p q i : UInt8) = 0)) rfl)) ?_
    refine WL.q (Wn.no rfl) rfl rfl (R.assign (v := (.bool (decide ((difN p q i : UInt8) = 0)))) rfl) ?_
    refine WL.nil ?_
    refine thn_n ?_
    refine WP.ret ?_
    refine ret_of Try.results46 (RV.tmp (v := (.bool (decide ((difN p q i : UInt8) = 0)))) rfl RV.nil) ?_
    have hi32 : i = 32 := by omega
    subst hi32
    exact ⟨congrArg Value.bool (dif_all hp hq), h_8.chgS⟩

theorem c_Check (a : Option Addr) (n cap : Nat) (key : List UInt8) (hl : key.length = n) (hcap : n ≤ cap) (hn : n ≤ 100000000000) (a2 : Option Addr) (n2 cap2 : Nat) (bs2 : List UInt8) (hl2 : bs2.length = n2) (hcap2 : n2 ≤ cap2) (hn2 : n2 ≤ 100000000000) (q : List UInt8) (hq : q.length = 32) (w : World) (hv : View w a (key.map vu8)) (hv2 : View w a2 (bs2.map vu8)) :
    Cs Try.prog 38 [(.slice a n cap), (.slice a2 n2 cap2), (.agg ⟨q.map vu8⟩)].toArray w (fun v w1 => v = (.bool (decide (tagL key bs2 = q))) ∧ Chg w w1 []) := by
  refine Cs.of (n := 12) (args := [(.slice a n cap), (.slice a2 n2 cap2), (.agg ⟨q.map vu8⟩)]) Try.func38 rfl rfl rfl ?_
  have h_0 := HP.init w
  have h_01 := h_0.oldV (View.arg hv) rfl (by simp [Ent.mut])
  have h_00 := h_01.oldV (View.arg hv2) rfl (by simp [Ent.mut])
  refine WP.seq ?_
  refine WP.reg ?_
  refine WL.box (v := (.agg ⟨q.map vu8⟩)) (segs := [(32, q.map vu8)]) h_00 rfl rfl (SsOk.cons (SOk.u8 hq) SsOk.nil) rfl (fun b_1 w_2 h_3 => ?_)
  refine WL.q (Wn.no rfl) rfl rfl (R.assign (v := (.bool false)) rfl) ?_
  refine WL.nil ?_
  refine thn_n ?_
  refine WP.seq ?_
  refine WP.drawT (SL w.heap.size [.blk b_1 .nw 28 [(32, q.map vu8)], .view a2 (bs2.map vu8), .view a (key.map vu8)]) (.q 0 (.q 1 (.q 3 (.s 2 (.s 4 (.q 5 .nil)))))) (by kernel_rfl) (by kernel_rfl) rfl (by kernel_rfl) (fun w_4 hc_6 => (SL.cons ((h_3.same hc_6).ok _ (.head _)) (SL.cons ((h_3.same hc_6).ok _ (.tail _ (.head _))) (SL.cons ((h_3.same hc_6).ok _ (.tail _ (.tail _ (.head _)))) (SL.nil _ _))))) (fun w_4 hc_6 => ?_)
  have h_5 := h_3.same hc_6
  refine WT.q rfl (Wn.no rfl) rfl rfl (fun wq hS => R.move (v := (.slice a n cap)) rfl) ?_
  refine WT.q rfl (Wn.no rfl) rfl rfl (fun wq hS => R.move (v := (.slice a2 n2 cap2)) rfl) ?_
  refine WT.q rfl (Wn.no rfl) rfl rfl (fun wq hS => R.loadA (b := b_1) (off := 0) [] [(32, q.map vu8)] [] (cs := q.map vu8) rfl Try.isAgg28 Try.sizeOf28 (hS _ (.head _)) rfl rfl rfl rfl) ?_
  refine WT.s ?_
  refine Op1.one rfl (Wn.no rfl) ?_
  refine WL.call (al := [(.slice a n cap), (.slice a2 n2 cap2)]) Try.call36 rfl rfl (c_Tag a n cap key hl (by omega) (by omega) a2 n2 cap2 bs2 hl2 (by omega) (by omega) _ (viewV (h_5.ok _ (.tail _ (.tail _ (.head _))))) (viewV (h_5.ok _ (.tail _ (.head _))))) rfl ?_
  rintro _ w_8 ⟨rfl, hc_7⟩
  have h_9 := h_5.same hc_7
  refine WL.nil ?_
  refine ⟨(SL.cons (h_9.ok _ (.head _)) (SL.cons (h_9.ok _ (.tail _ (.head _))) (SL.cons (h_9.ok _ (.tail _ (.tail _ (.head _)))) (SL.nil _ _)))), ?_⟩
  refine WT.s ?_
  refine Op1.one rfl (Wn.no rfl) ?_
  refine WL.call (al := [(.agg ⟨(tagL key bs2).map vu8⟩), (.agg ⟨q.map vu8⟩)]) Try.call46 rfl rfl (c_Equal (tagL key bs2) q (tagL_len _ _) hq _ ) rfl ?_
  rintro _ w_11 ⟨rfl, hc_10⟩
  have h_12 := h_9.same hc_10
  refine WL.nil ?_
  refine ⟨(SL.cons (h_12.ok _ (.head _)) (SL.cons (h_12.ok _ (.tail _ (.head _))) (SL.cons (h_12.ok _ (.tail _ (.tail _ (.head _)))) (SL.nil _ _)))), ?_⟩
  refine WT.q rfl (Wn.no rfl) rfl rfl (fun wq hS => R.assign (v := (.bool (decide (tagL key bs2 = q)))) rfl) ?_
  refine WT.nil ?_
  refine thn_n ?_
  refine WP.ret ?_
  refine ret_of Try.results38 (RV.tmp (v := (.bool (decide (tagL key bs2 = q)))) rfl RV.nil) ?_
  exact ⟨rfl, h_12.chgS⟩

theorem c_TagR_s (a : Option Addr) (n cap : Nat) (key : List UInt8) (hl : key.length = n) (hcap : n ≤ cap) (hn : n ≤ 100000000000) (a2 : Option Addr) (n2 cap2 : Nat) (bs2 : List UInt8) (hl2 : bs2.length = n2) (hcap2 : n2 ≤ cap2) (hn2 : n2 ≤ 100000000000) (h : ¬ 64 < n) (w : World) (hv : View w a (key.map vu8)) (hv2 : View w a2 (bs2.map vu8)) :
    Cs Try.prog 37 [(.slice a n cap), (.slice a2 n2 cap2)].toArray w (fun v w1 => v = (.agg ⟨(tagL key bs2).map vu8⟩) ∧ Chg w w1 []) := by
  refine Cs.of (n := 54) (args := [(.slice a n cap), (.slice a2 n2 cap2)]) Try.func37 rfl rfl rfl ?_
  have h_0 := HP.init w
  have h_01 := h_0.oldV (View.arg hv) rfl (by simp [Ent.mut])
  have h_00 := h_01.oldV (View.arg hv2) rfl (by simp [Ent.mut])
  refine WP.seq ?_
  refine WP.reg ?_
  refine WL.alloc (segs := [(32, (List.replicate 32 (0 : UInt8)).map vu8)]) h_00 (zv Try.typeInfo28 rfl) rfl (SsOk.cons (SOk.u8 (List.length_replicate ..)) SsOk.nil) rfl (fun b_1 w_2 h_3 => ?_)
  refine WL.nil ?_
  refine thn_n ?_
  refine WP.seq ?_
  refine WP.reg ?_
  refine WL.q (Wn.no rfl) rfl rfl (R.move (v := (.slice a n cap)) rfl) ?_
  have h_4 := h_3.rowNil 5 1
  refine WL.append (km := n) (xs := []) (ys := key.map vu8) (zs := key.map vu8) h_4 rfl rfl el26 (viewV (h_4.ok _ (.tail _ (.tail _ (.tail _ (.head _)))))) ((len_map hl).trans (Nat.mul_one _).symm) (one_u8 _) rfl (by omega) (by omega) (by omega) (fun _ _ => At.h) rfl (fun a_5 c_6 w_7 h_8 => ?_)
  refine WL.q (Wn.no rfl) rfl rfl (R.assign (v := (.slice a_5 n c_6)) rfl) ?_
  refine WL.nil ?_
  refine thn_n ?_
  refine WP.seq ?_
  refine WP.seq ?_
  refine WP.reg ?_
  refine WL.q (Wn.no rfl) rfl rfl (R.move (v := (.slice a_5 n c_6)) rfl) ?_
  refine WL.q (Wn.no rfl) rfl rfl (R.lenS (a := a_5) (m := n) rfl rfl Try.underlying26) ?_
  refine WL.q (Wn.no rfl) rfl rfl (R.bin (v := (.bool (decide ((((n : Nat) : Int) : Int) > 64)))) rfl rfl (bi_gtr (r := decide ((((n : Nat) : Int) : Int) > 64)) rfl)) ?_
  refine WL.nil ?_
  refine thn_n ?_
  refine WP.condF (congrArg Value.bool (decide_eq_false (by omega))) ?_
  refine WP.skip ?_
  refine thn_n ?_
  refine WP.seq ?_
  refine WP.block ?_
  have h_9 := h_8.up (Pick.t (Pick.t (Pick.t Pick.h)))
  have h_10 := h_9.up (Pick.t (Pick.t (Pick.t Pick.h)))
  have h_11 := h_10.up (Pick.t (Pick.t (Pick.t Pick.h)))
  have h_12 := h_11.up (Pick.t (Pick.t (Pick.t Pick.h)))
  refine WP.loopG (G := Nat × Option Addr × Nat) [5, 20, 21, 22, 23, 24, 25] (fun (z, ra, rc) => [(5, (.slice ra (n + z) rc))]) (fun (z, ra, rc) m w1 => HP w w1 [.row ra (n + z) rc 5 1 ((key ++ List.replicate z (0 : UInt8)).map vu8), .blk b_1 .nw 28 [(32, (List.replicate 32 (0 : UInt8)).map vu8)], .view a2 (bs2.map vu8), .view a (key.map vu8)] ∧ (n + z ≤ 64) ∧ m = 64 - z) ⟨(0, a_5, c_6), _, ⟨rfl, trivial⟩, (by rw [List.replicate_zero, List.append_nil]; exact h_12), (by omega), rfl⟩ ?_
  rintro ⟨z, ra, rc⟩ m_15 J_16 w_13 ⟨h_14, hz, rfl⟩
  refine WP.seq ?_
  refine WP.seq ?_
  refine WP.reg ?_
  refine WL.q (Wn.no rfl) rfl rfl (R.move (v := (.slice ra (n + z) rc)) rfl) ?_
  refine WL.q (Wn.no rfl) rfl rfl (R.lenS (a := ra) (m := n + z) rfl rfl Try.underlying26) ?_
  refine WL.q (Wn.no rfl) rfl rfl (R.bin (v := (.bool (decide ((((n + z : Nat) : Int) : Int) < 64)))) rfl rfl (bi_lss (r := decide ((((n + z : Nat) : Int) : Int) < 64)) rfl)) ?_
  refine WL.nil ?_
  refine thn_n ?_
  refine WP.cond (b := decide ((((n + z : Nat) : Int) : Int) < 64)) rfl (fun c_17 => ?_) (fun c_17 => ?_)
  · have p_18 := of_decide_eq_true c_17
    refine WP.skip ?_
    refine thn_n ?_
    refine WP.block ?_
    refine WP.reg ?_
    refine WL.q (Wn.no rfl) rfl rfl (R.move (v := (.slice ra (n + z) rc)) rfl) ?_
    refine WL.buildSl (vs := [(0, (vu8 0))]) (cs := ([0] : List UInt8).map vu8) h_14 Try.underlying26 Try.sizeOf5 (zv Try.typeInfo5 rfl) rfl rfl (by kernel_rfl) rfl (one_u8 _) rfl rfl (fun b_19 w_20 h_21 => ?_)
    refine WL.append (km := n + z + 1) (xs := (key ++ List.replicate z (0 : UInt8)).map vu8) (ys := ([0] : List UInt8).map vu8) (zs := ((key ++ List.replicate z (0 : UInt8)) ++ ([0] : List UInt8)).map vu8) h_21 rfl rfl el26 (viewB (h_21.ok _ (.head _)) Sg.h) ((len_map (rfl : List.length ([0] : List UInt8) = 1)).trans (Nat.mul_one _).symm) (one_u8 _) (by simp only [List.map_append, List.map_nil]) (by omega) (by omega) (by omega) (fun _ _ => (At.t At.h)) rfl (fun a_22 c_23 w_24 h_25 => ?_)
    refine WL.q (Wn.no rfl) rfl rfl (R.assign (v := (.slice a_22 (n + z + 1) c_23)) rfl) ?_
    refine WL.nil ?_
    refine inb_n ?_
    refine thn_n ?_
    have h_26 := h_25.drop rfl
    have h_27 := h_26.up (Pick.t (Pick.t (Pick.t Pick.h)))
    have h_28 := h_27.up (Pick.t (Pick.t (Pick.t Pick.h)))
    have h_29 := h_28.up (Pick.t (Pick.t (Pick.t Pick.h)))
    have h_30 := h_29.up (Pick.t (Pick.t (Pick.t Pick.h)))
    rw [List.append_assoc, zero_snoc] at h_30
    exact ⟨(z + 1, a_22, c_23), _, (by omega), (Ag.upd rfl (Ag.upd rfl (Ag.upd rfl (Ag.upd rfl (Ag.upd rfl (Ag.upd rfl (Ag.upd rfl (Ag.updL rfl (Ag.mix _ _ _))))))))), ⟨rfl, trivial⟩, h_30, (by omega), rfl⟩
  · have p_31 := of_decide_eq_false c_17
    refine WP.exit ?_
    refine thn_x ?_
    refine thn_x ?_
    refine inb_hit ?_
    refine thn_n ?_
    refine WP.seq ?_
    refine WP.reg ?_
    refine WL.q (Wn.no rfl) rfl rfl (R.assign (v := (.slice none 0 0)) rfl) ?_
    refine WL.q (Wn.no rfl) rfl rfl (R.assign (v := (.slice none 0 0)) rfl) ?_
    refine WL.nil ?_
    refine thn_n ?_
    refine WP.seq ?_
    refine WP.seq ?_
    refine WP.reg ?_
    refine WL.q (Wn.no rfl) rfl rfl (R.assign (v := (vi 0)) rfl) ?_
    refine WL.nil ?_
    refine thn_n ?_
    refine WP.block ?_
    have hz64 : n + z = 64 := by omega
    have hpk : (padK key).length = 64 := padK_len hl (by omega)
    rw [pad_z hl hz64, hz64] at h_14
    have h_33 := h_14.rowNil 5 1
    have h_34 := h_33.rowNil 5 1
    refine WP.loopG (G := Nat × Option Addr × Nat × Option Addr × Nat) [7, 8, 9, 26, 27, 28, 29, 30, 31, 32, 33, 34, 35, 36, 37, 38, 39, 40, 41, 42, 43, 44, 45] (fun (j, ia, ic, oa, oc) => [(7, (.slice ia j ic)), (8, (.slice oa j oc)), (9, (vi ((j : Nat) : Int)))]) (fun (j, ia, ic, oa, oc) m w1 => HP w w1 [.row ia j ic 5 1 (((xm 54 (padK key)).take j).map vu8), .row oa j oc 5 1 (((xm 92 (padK key)).take j).map vu8), .row ra 64 rc 5 1 ((padK key).map vu8), .blk b_1 .nw 28 [(32, (List.replicate 32 (0 : UInt8)).map vu8)], .view a2 (bs2.map vu8), .view a (key.map vu8)] ∧ (j ≤ 64) ∧ m = 64 - j) ⟨(0, none, 0, none, 0), _, ⟨rfl, rfl, rfl, trivial⟩, h_34, Nat.zero_le _, rfl⟩ ?_
    rintro ⟨j, ia, ic, oa, oc⟩ m_37 J_38 w_35 ⟨h_36, hj, rfl⟩
    refine WP.seq ?_
    refine WP.seq ?_
    refine WP.reg ?_
    refine WL.q (Wn.no rfl) rfl rfl (R.move (v := (vi ((j : Nat) : Int))) rfl) ?_
    refine WL.q (Wn.no rfl) rfl rfl (R.bin (v := (.bool (decide ((((j : Nat) : Int) : Int) < 64)))) rfl rfl (bi_lss (r := decide ((((j : Nat) : Int) : Int) < 64)) rfl)) ?_
    refine WL.nil ?_
    refine thn_n ?_
    refine WP.cond (b := decide ((((j : Nat) : Int) : Int) < 64)) rfl (fun c_39 => ?_) (fun c_39 => ?_)
    · have p_40 := of_decide_eq_true c_39
      refine WP.skip ?_
      refine thn_n ?_
      refine WP.seq ?_
      refine WP.block ?_
      refine WP.seq ?_
      refine WP.reg ?_
      refine WL.q (Wn.no rfl) rfl rfl (R.move (v := (.slice ia j ic)) rfl) ?_
      refine WL.q (Wn.no rfl) rfl rfl (R.move (v := (.slice ra 64 rc)) (congrArg (fun n => Value.slice ra n rc) hz64)) ?_
      refine WL.q (Wn.no rfl) rfl rfl (R.move (v := (vi ((j : Nat) : Int))) rfl) ?_
      refine WL.q (Wn.no rfl) rfl rfl (R.indexS (a := ra) (i := j) (off := j) (xs := (padK key).map vu8) rfl rfl rfl (by omega) (ownView (h_36.ok _ (.tail _ (.tail _ (.head _))))) (lt_len (K := 64) (len_map hpk) (by omega)) Try.underlying26 Try.sizeOf5 (Nat.mul_one _).symm) ?_
      refine WL.q (Wn.no rfl) rfl rfl (R.loadG (a := ra) (i := j) (xs := (padK key).map vu8) (v := (vu8 ((padK key).getD j 0))) rfl (ownView (h_36.ok _ (.tail _ (.tail _ (.head _))))) Try.isAgg5 (get_u8 (lt_len (K := 64) hpk (by omega)))) ?_
      refine WL.q (Wn.no rfl) rfl rfl (R.bin (v := (vu8 (((padK key).getD j 0) ^^^ 54))) rfl rfl (b8_xor ((padK key).getD j 0) 54)) ?_
      refine WL.buildSl (vs := [(0, (vu8 (((padK key).getD j 0) ^^^ 54)))]) (cs := ([((padK key).getD j 0) ^^^ 54] : List UInt8).map vu8) h_36 Try.underlying26 Try.sizeOf5 (zv Try.typeInfo5 rfl) rfl rfl (by kernel_rfl) rfl (one_u8 _) rfl rfl (fun b_41 w_42 h_43 => ?_)
      refine WL.append (km := j + 1) (xs := ((xm 54 (padK key)).take j).map vu8) (ys := ([((padK key).getD j 0) ^^^ 54] : List UInt8).map vu8) (zs := (((xm 54 (padK key)).take j) ++ ([((padK key).getD j 0) ^^^ 54] : List UInt8)).map vu8) h_43 rfl rfl el26 (viewB (h_43.ok _ (.head _)) Sg.h) ((len_map (rfl : List.length ([((padK key).getD j 0) ^^^ 54] : List UInt8) = 1)).trans (Nat.mul_one _).symm) (one_u8 _) (by simp only [List.map_append, List.map_nil]) (by omega) (by omega) (by omega) (fun _ _ => (At.t At.h)) rfl (fun a_44 c_45 w_46 h_47 => ?_)
      refine WL.q (Wn.no rfl) rfl rfl (R.assign (v := (.slice a_44 (j + 1) c_45)) rfl) ?_
      refine WL.nil ?_
      refine thn_n ?_
      refine WP.reg ?_
      refine WL.q (Wn.no rfl) rfl rfl (R.move (v := (.slice oa j oc)) rfl) ?_
      refine WL.q (Wn.no rfl) rfl rfl (R.move (v := (.slice ra 64 rc)) (congrArg (fun n => Value.slice ra n rc) hz64)) ?_
      refine WL.q (Wn.no rfl) rfl rfl (R.move (v := (vi ((j : Nat) : Int))) rfl) ?_
      refine WL.q (Wn.no rfl) rfl rfl (R.indexS (a := ra) (i := j) (off := j) (xs := (padK key).map vu8) rfl rfl rfl (by omega) (ownView (h_47.ok _ (.tail _ (.tail _ (.tail _ (.head _)))))) (lt_len (K := 64) (len_map hpk) (by omega)) Try.underlying26 Try.sizeOf5 (Nat.mul_one _).symm) ?_
      refine WL.q (Wn.no rfl) rfl rfl (R.loadG (a := ra) (i := j) (xs := (padK key).map vu8) (v := (vu8 ((padK key).getD j 0))) rfl (ownView (h_47.ok _ (.tail _ (.tail _ (.tail _ (.head _)))))) Try.isAgg5 (get_u8 (lt_len (K := 64) hpk (by omega)))) ?_
      refine WL.q (Wn.no rfl) rfl rfl (R.bin (v := (vu8 (((padK key).getD j 0) ^^^ 92))) rfl rfl (b8_xor ((padK key).getD j 0) 92)) ?_
      refine WL.buildSl (vs := [(0, (vu8 (((padK key).getD j 0) ^^^ 92)))]) (cs := ([((padK key).getD j 0) ^^^ 92] : List UInt8).map vu8) h_47 Try.underlying26 Try.sizeOf5 (zv Try.typeInfo5 rfl) rfl rfl (by kernel_rfl) rfl (one_u8 _) rfl rfl (fun b_48 w_49 h_50 => ?_)
      refine WL.append (km := j + 1) (xs := ((xm 92 (padK key)).take j).map vu8) (ys := ([((padK key).getD j 0) ^^^ 92] : List UInt8).map vu8) (zs := (((xm 92 (padK key)).take j) ++ ([((padK key).getD j 0) ^^^ 92] : List UInt8)).map vu8) h_50 rfl rfl el26 (viewB (h_50.ok _ (.head _)) Sg.h) ((len_map (rfl : List.length ([((padK key).getD j 0) ^^^ 92] : List UInt8) = 1)).trans (Nat.mul_one _).symm) (one_u8 _) (by simp only [List.map_append, List.map_nil]) (by omega) (by omega) (by omega) (fun _ _ => (At.t (At.t (At.t At.h)))) rfl (fun a_51 c_52 w_53 h_54 => ?_)
      refine WL.q (Wn.no rfl) rfl rfl (R.assign (v := (.slice a_51 (j + 1) c_52)) rfl) ?_
      refine WL.nil ?_
      refine inb_n ?_
      refine thn_n ?_
      refine WP.reg ?_
      refine WL.q (Wn.no rfl) rfl rfl (R.move (v := (vi ((j : Nat) : Int))) rfl) ?_
      refine WL.q (Wn.no rfl) rfl rfl (R.bin (v := (vi ((j + 1 : Nat) : Int))) rfl rfl (bi_add (c := ((j + 1 : Nat) : Int)) (by omega) (by omega))) ?_
      refine WL.q (Wn.no rfl) rfl rfl (R.assign (v := (vi ((j + 1 : Nat) : Int))) rfl) ?_
      refine WL.nil ?_
      refine thn_n ?_
      have h_55 := h_54.drop rfl
      have h_56 := h_55.drop rfl
      have h_57 := h_56.up (Pick.t (Pick.t (Pick.t (Pick.t (Pick.t Pick.h)))))
      have h_58 := h_57.up (Pick.t (Pick.t (Pick.t (Pick.t (Pick.t Pick.h)))))
      have h_59 := h_58.up (Pick.t (Pick.t (Pick.t (Pick.t (Pick.t Pick.h)))))
      have h_60 := h_59.up (Pick.t (Pick.t (Pick.t (Pick.t (Pick.t Pick.h)))))
      have h_61 := h_60.up (Pick.t (Pick.t (Pick.t (Pick.t (Pick.t Pick.h)))))
      have h_62 := h_61.up (Pick.t (Pick.t (Pick.t (Pick.t (Pick.t Pick.h)))))
      rw [xm_snoc (by omega), xm_snoc (by omega)] at h_62
      exact ⟨(j + 1, a_44, c_45, a_51, c_52), _, (by omega), (Ag.upd rfl (Ag.upd rfl (Ag.upd rfl (Ag.upd rfl (Ag.upd rfl (Ag.upd rfl (Ag.upd rfl (Ag.upd rfl (Ag.upd rfl (Ag.upd rfl (Ag.upd rfl (Ag.upd rfl (Ag.upd rfl (Ag.upd rfl (Ag.upd rfl (Ag.upd rfl (Ag.upd rfl (Ag.upd rfl (Ag.upd rfl (Ag.upd rfl (Ag.upd rfl (Ag.upd rfl (Ag.upd rfl (Ag.updL rfl (Ag.mix _ _ _))))))))))))))))))))))))), ⟨rfl, rfl, rfl, trivial⟩, h_62, (by omega), rfl⟩
    · have p_63 := of_decide_eq_false c_39
      refine WP.exit ?_
      refine thn_x ?_
      refine thn_x ?_
      refine inb_hit ?_
      refine thn_n ?_
      refine WP.seq ?_
      refine WP.reg ?_
      refine WL.q (Wn.no rfl) rfl rfl (R.move (v := (.slice ia j ic)) rfl) ?_
      refine WL.q (Wn.no rfl) rfl rfl (R.move (v := (.slice a2 n2 cap2)) rfl) ?_
      refine WL.append (km := j + n2) (xs := ((xm 54 (padK key)).take j).map vu8) (ys := bs2.map vu8) (zs := (((xm 54 (padK key)).take j) ++ bs2).map vu8) h_36 rfl rfl el26 (viewV (h_36.ok _ (.tail _ (.tail _ (.tail _ (.tail _ (.head _))))))) ((len_map hl2).trans (Nat.mul_one _).symm) (one_u8 _) (by simp only [List.map_append, List.map_nil]) (by omega) (by omega) (by omega) (fun _ _ => At.h) rfl (fun a_64 c_65 w_66 h_67 => ?_)
      refine WL.call (al := [(.slice a_64 (j + n2) c_65)]) Try.call20 rfl rfl (c_SumR a_64 (j + n2) c_65 (((xm 54 (padK key)).take j) ++ bs2) (lenApp (a := j) (b := n2) (by rw [List.length_take, xm_len, hpk]; omega) hl2 (by omega) : List.length (((xm 54 (padK key)).take j) ++ bs2) = j + n2) (by omega) _ (ownView (h_67.ok _ (.head _)))) rfl ?_
      rintro _ w_69 ⟨rfl, hc_68⟩
      have h_70 := h_67.same hc_68
      refine WL.alloc (segs := [(32, (List.replicate 32 (0 : UInt8)).map vu8)]) h_70 (zv Try.typeInfo28 rfl) rfl (SsOk.cons (SOk.u8 (List.length_replicate ..)) SsOk.nil) rfl (fun b_71 w_72 h_73 => ?_)
      refine WL.storeA (b := b_71) (off := 0) [] [(32, (List.replicate 32 (0 : UInt8)).map vu8)] [(32, (sumL (((xm 54 (padK key)).take j) ++ bs2)).map vu8)] [] (ys := (sumL (((xm 54 (padK key)).take j) ++ bs2)).map vu8) h_73 rfl rfl Try.sizeOf28 At.h (by decide) rfl rfl rfl rfl rfl rfl (SsOk.cons (SOk.u8 (sumL_len _)) SsOk.nil) (fun w_74 h_75 => ?_)
      refine WL.nil ?_
      refine thn_n ?_
      refine WP.seq ?_
      refine WP.reg ?_
      refine WL.q (Wn.no rfl) rfl rfl (R.move (v := (.slice oa j oc)) rfl) ?_
      refine WL.q (Wn.no rfl) rfl rfl (R.sliceA (b := b_71) (off := 0) (off' := 0) (l := 0) (h := 32) rfl EvB.dflt EvB.dflt (by decide) (by decide) Try.underlying28 Try.sizeOf5 rfl) ?_
      refine WL.append (km := j + 32) (xs := ((xm 92 (padK key)).take j).map vu8) (ys := (sumL (((xm 54 (padK key)).take j) ++ bs2)).map vu8) (zs := (((xm 92 (padK key)).take j) ++ (sumL (((xm 54 (padK key)).take j) ++ bs2))).map vu8) h_75 rfl rfl el26 (viewB (h_75.ok _ (.head _)) Sg.h) ((len_map (sumL_len _)).trans (Nat.mul_one _).symm) (one_u8 _) (by simp only [List.map_append, List.map_nil]) (by omega) (by omega) (by omega) (fun _ _ => (At.t (At.t At.h))) rfl (fun a_76 c_77 w_78 h_79 => ?_)
      refine WL.call (al := [(.slice a_76 (j + 32) c_77)]) Try.call20 rfl rfl (c_SumR a_76 (j + 32) c_77 (((xm 92 (padK key)).take j) ++ (sumL (((xm 54 (padK key)).take j) ++ bs2))) (lenApp (a := j) (b := 32) (by rw [List.length_take, xm_len, hpk]; omega) (sumL_len _) (by omega) : List.length (((xm 92 (padK key)).take j) ++ (sumL (((xm 54 (padK key)).take j) ++ bs2))) = j + 32) (by omega) _ (ownView (h_79.ok _ (.tail _ (.tail _ (.head _)))))) rfl ?_
      rintro _ w_81 ⟨rfl, hc_80⟩
      have h_82 := h_79.same hc_80
      refine WL.storeA (b := b_1) (off := 0) [] [(32, (List.replicate 32 (0 : UInt8)).map vu8)] [(32, (sumL (((xm 92 (padK key)).take j) ++ (sumL (((xm 54 (padK key)).take j) ++ bs2)))).map vu8)] [] (ys := (sumL (((xm 92 (padK key)).take j) ++ (sumL (((xm 54 (padK key)).take j) ++ bs2)))).map vu8) h_82 rfl rfl Try.sizeOf28 (At.t (At.t (At.t (At.t At.h)))) (by decide) rfl rfl rfl rfl rfl rfl (SsOk.cons (SOk.u8 (sumL_len _)) SsOk.nil) (fun w_83 h_84 => ?_)
      refine WL.nil ?_
      refine thn_n ?_
      refine WP.ret ?_
      refine ret_of Try.results37 (RV.cell rfl (h_84.loadA (cs := (sumL (((xm 92 (padK key)).take j) ++ (sumL (((xm 54 (padK key)).take j) ++ bs2)))).map vu8) Try.isAgg28 Try.sizeOf28 (.tail _ (.tail _ (.tail _ (.tail _ (.head _))))) rfl rfl) RV.nil) ?_
      have hj64 : j = 64 := by omega
      have e1 : (xm 54 (padK key)).take j = xm 54 (padK key) := List.take_of_length_le (by rw [xm_len]; omega)
      have e2 : (xm 92 (padK key)).take j = xm 92 (padK key) := List.take_of_length_le (by rw [xm_len]; omega)
      exact ⟨by rw [e1, e2, tag_s hl h]; rfl, h_84.chgS⟩

theorem c_TagR_l (a : Option Addr) (n cap : Nat) (key : List UInt8) (hl : key.length = n) (hcap : n ≤ cap) (hn : n ≤ 100000000000) (a2 : Option Addr) (n2 cap2 : Nat) (bs2 : List UInt8) (hl2 : bs2.length = n2) (hcap2 : n2 ≤ cap2) (hn2 : n2 ≤ 100000000000) (h : 64 < n) (w : World) (hv : View w a (key.map vu8)) (hv2 : View w a2 (bs2.map vu8)) :
    Cs Try.prog 37 [(.slice a n cap), (.slice a2 n2 cap2)].toArray w (fun v w1 => v = (.agg ⟨(tagL key bs2).map vu8⟩) ∧ Chg w w1 []) := by
  refine Cs.of (n := 54) (args := [(.slice a n cap), (.slice a2 n2 cap2)]) Try.func37 rfl rfl rfl ?_
  have h_0 := HP.init w
  have h_01 := h_0.oldV (View.arg hv) rfl (by simp [Ent.mut])
  have h_00 := h_01.oldV (View.arg hv2) rfl (by simp [Ent.mut])
  refine WP.seq ?_
  refine WP.reg ?_
  refine WL.alloc (segs := [(32, (List.replicate 32 (0 : UInt8)).map vu8)]) h_00 (zv Try.typeInfo28 rfl) rfl (SsOk.cons (SOk.u8 (List.length_replicate ..)) SsOk.nil) rfl (fun b_1 w_2 h_3 => ?_)
  refine WL.nil ?_
  refine thn_n ?_
  refine WP.seq ?_
  refine WP.reg ?_
  refine WL.q (Wn.no rfl) rfl rfl (R.move (v := (.slice a n cap)) rfl) ?_
  have h_4 := h_3.rowNil 5 1
  refine WL.append (km := n) (xs := []) (ys := key.map vu8) (zs := key.map vu8) h_4 rfl rfl el26 (viewV (h_4.ok _ (.tail _ (.tail _ (.tail _ (.head _)))))) ((len_map hl).trans (Nat.mul_one _).symm) (one_u8 _) rfl (by omega) (by omega) (by omega) (fun _ _ => At.h) rfl (fun a_5 c_6 w_7 h_8 => ?_)
  refine WL.q (Wn.no rfl) rfl rfl (R.assign (v := (.slice a_5 n c_6)) rfl) ?_
  refine WL.nil ?_
  refine thn_n ?_
  refine WP.seq ?_
  refine WP.seq ?_
  refine WP.reg ?_
  refine WL.q (Wn.no rfl) rfl rfl (R.move (v := (.slice a_5 n c_6)) rfl) ?_
  refine WL.q (Wn.no rfl) rfl rfl (R.lenS (a := a_5) (m := n) rfl rfl Try.underlying26) ?_
  refine WL.q (Wn.no rfl) rfl rfl (R.bin (v := (.bool (decide ((((n : Nat) : Int) : Int) > 64)))) rfl rfl (bi_gtr (r := decide ((((n : Nat) : Int) : Int) > 64)) rfl)) ?_
  refine WL.nil ?_
  refine thn_n ?_
  refine WP.condT (congrArg Value.bool (decide_eq_true (by omega))) ?_
  refine WP.seq ?_
  refine WP.reg ?_
  refine WL.q (Wn.no rfl) rfl rfl (R.move (v := (.slice a n cap)) rfl) ?_
  refine WL.call (al := [(.slice a n cap)]) Try.call20 rfl rfl (c_SumR a n cap key hl (by omega) _ (viewV (h_8.ok _ (.tail _ (.tail _ (.tail _ (.head _))))))) rfl ?_
  rintro _ w_10 ⟨rfl, hc_9⟩
  have h_11 := h_8.same hc_9
  refine WL.alloc (segs := [(32, (List.replicate 32 (0 : UInt8)).map vu8)]) h_11 (zv Try.typeInfo28 rfl) rfl (SsOk.cons (SOk.u8 (List.length_replicate ..)) SsOk.nil) rfl (fun b_12 w_13 h_14 => ?_)
  refine WL.storeA (b := b_12) (off := 0) [] [(32, (List.replicate 32 (0 : UInt8)).map vu8)] [(32, (sumL key).map vu8)] [] (ys := (sumL key).map vu8) h_14 rfl rfl Try.sizeOf28 At.h (by decide) rfl rfl rfl rfl rfl rfl (SsOk.cons (SOk.u8 (sumL_len _)) SsOk.nil) (fun w_15 h_16 => ?_)
  refine WL.nil ?_
  refine thn_n ?_
  refine WP.reg ?_
  refine WL.q (Wn.no rfl) rfl rfl (R.sliceA (b := b_12) (off := 0) (off' := 0) (l := 0) (h := 32) rfl EvB.dflt EvB.dflt (by decide) (by decide) Try.underlying28 Try.sizeOf5 rfl) ?_
  have h_17 := h_16.rowNil 5 1
  refine WL.append (km := 32) (xs := []) (ys := (sumL key).map vu8) (zs := (sumL key).map vu8) h_17 rfl rfl el26 (viewB (h_17.ok _ (.tail _ (.head _))) Sg.h) ((len_map (sumL_len _)).trans (Nat.mul_one _).symm) (one_u8 _) rfl rfl (by omega) (by omega) (fun _ _ => At.h) rfl (fun a_18 c_19 w_20 h_21 => ?_)
  refine WL.q (Wn.no rfl) rfl rfl (R.assign (v := (.slice a_18 32 c_19)) rfl) ?_
  refine WL.nil ?_
  refine thn_n ?_
  refine WP.seq ?_
  refine WP.block ?_
  have h_22 := h_21.up (Pick.t Pick.h)
  have h_23 := h_22.drop rfl
  have h_24 := h_23.up (Pick.t Pick.h)
  have h_25 := h_24.drop rfl
  have h_26 := h_25.up (Pick.t (Pick.t (Pick.t Pick.h)))
  have h_27 := h_26.up (Pick.t (Pick.t (Pick.t Pick.h)))
  have h_28 := h_27.up (Pick.t (Pick.t (Pick.t Pick.h)))
  have h_29 := h_28.up (Pick.t (Pick.t (Pick.t Pick.h)))
  refine WP.loopG (G := Nat × Option Addr × Nat) [5, 20, 21, 22, 23, 24, 25] (fun (z, ra, rc) => [(5, (.slice ra (32 + z) rc))]) (fun (z, ra, rc) m w1 => HP w w1 [.row ra (32 + z) rc 5 1 (((sumL key) ++ List.replicate z (0 : UInt8)).map vu8), .blk b_1 .nw 28 [(32, (List.replicate 32 (0 : UInt8)).map vu8)], .view a2 (bs2.map vu8), .view a (key.map vu8)] ∧ (32 + z ≤ 64) ∧ m = 64 - z) ⟨(0, a_18, c_19), _, ⟨rfl, trivial⟩, (by rw [List.replicate_zero, List.append_nil]; exact h_29), (by omega), rfl⟩ ?_
  rintro ⟨z, ra, rc⟩ m_32 J_33 w_30 ⟨h_31, hz, rfl⟩
  refine WP.seq ?_
  refine WP.seq ?_
  refine WP.reg ?_
  refine WL.q (Wn.no rfl) rfl rfl (R.move (v := (.slice ra (32 + z) rc)) rfl) ?_
  refine WL.q (Wn.no rfl) rfl rfl (R.lenS (a := ra) (m := 32 + z) rfl rfl Try.underlying26) ?_
  refine WL.q (Wn.no rfl) rfl rfl (R.bin (v := (.bool (decide ((((32 + z : Nat) : Int) : Int) < 64)))) rfl rfl (bi_lss (r := decide ((((32 + z : Nat) : Int) : Int) < 64)) rfl)) ?_
  refine WL.nil ?_
  refine thn_n ?_
  refine WP.cond (b := decide ((((32 + z : Nat) : Int) : Int) < 64)) rfl (fun c_34 => ?_) (fun c_34 => ?_)
  · have p_35 := of_decide_eq_true c_34
    refine WP.skip ?_
    refine thn_n ?_
    refine WP.block ?_
    refine WP.reg ?_
    refine WL.q (Wn.no rfl) rfl rfl (R.move (v := (.slice ra (32 + z) rc)) rfl) ?_
    refine WL.buildSl (vs := [(0, (vu8 0))]) (cs := ([0] : List UInt8).map vu8) h_31 Try.underlying26 Try.sizeOf5 (zv Try.typeInfo5 rfl) rfl rfl (by kernel_rfl) rfl (one_u8 _) rfl rfl (fun b_36 w_37 h_38 => ?_)
    refine WL.append (km := 32 + z + 1) (xs := ((sumL key) ++ List.replicate z (0 : UInt8)).map vu8) (ys := ([0] : List UInt8).map vu8) (zs := (((sumL key) ++ List.replicate z (0 : UInt8)) ++ ([0] : List UInt8)).map vu8) h_38 rfl rfl el26 (viewB (h_38.ok _ (.head _)) Sg.h) ((len_map (rfl : List.length ([0] : List UInt8) = 1)).trans (Nat.mul_one _).symm) (one_u8 _) (by simp only [List.map_append, List.map_nil]) (by omega) (by omega) (by omega) (fun _ _ => (At.t At.h)) rfl (fun a_39 c_40 w_41 h_42 => ?_)
    refine WL.q (Wn.no rfl) rfl rfl (R.assign (v := (.slice a_39 (32 + z + 1) c_40)) rfl) ?_
    refine WL.nil ?_
    refine inb_n ?_
    refine thn_n ?_
    have h_43 := h_42.drop rfl
    have h_44 := h_43.up (Pick.t (Pick.t (Pick.t Pick.h)))
    have h_45 := h_44.up (Pick.t (Pick.t (Pick.t Pick.h)))
    have h_46 := h_45.up (Pick.t (Pick.t (Pick.t Pick.h)))
    have h_47 := h_46.up (Pick.t (Pick.t (Pick.t Pick.h)))
    rw [List.append_assoc, zero_snoc] at h_47
    exact ⟨(z + 1, a_39, c_40), _, (by omega), (Ag.upd rfl (Ag.upd rfl (Ag.upd rfl (Ag.upd rfl (Ag.upd rfl (Ag.upd rfl (Ag.upd rfl (Ag.updL rfl (Ag.mix _ _ _))))))))), ⟨rfl, trivial⟩, h_47, (by omega), rfl⟩
  · have p_48 := of_decide_eq_false c_34
    refine WP.exit ?_
    refine thn_x ?_
    refine thn_x ?_
    refine inb_hit ?_
    refine thn_n ?_
    refine WP.seq ?_
    refine WP.reg ?_
    refine WL.q (Wn.no rfl) rfl rfl (R.assign (v := (.slice none 0 0)) rfl) ?_
    refine WL.q (Wn.no rfl) rfl rfl (R.assign (v := (.slice none 0 0)) rfl) ?_
    refine WL.nil ?_
    refine thn_n ?_
    refine WP.seq ?_
    refine WP.seq ?_
    refine WP.reg ?_
    refine WL.q (Wn.no rfl) rfl rfl (R.assign (v := (vi 0)) rfl) ?_
    refine WL.nil ?_
    refine thn_n ?_
    refine WP.block ?_
    have hz64 : 32 + z = 64 := by omega
    have hpk : (padK (sumL key)).length = 64 := padK_len (sumL_len _) (by omega)
    rw [pad_z (sumL_len _) hz64, hz64] at h_31
    have h_50 := h_31.rowNil 5 1
    have h_51 := h_50.rowNil 5 1
    refine WP.loopG (G := Nat × Option Addr × Nat × Option Addr × Nat) [7, 8, 9, 26, 27, 28, 29, 30, 31, 32, 33, 34, 35, 36, 37, 38, 39, 40, 41, 42, 43, 44, 45] (fun (j, ia, ic, oa, oc) => [(7, (.slice ia j ic)), (8, (.slice oa j oc)), (9, (vi ((j : Nat) : Int)))]) (fun (j, ia, ic, oa, oc) m w1 => HP w w1 [.row ia j ic 5 1 (((xm 54 (padK (sumL key))).take j).map vu8), .row oa j oc 5 1 (((xm 92 (padK (sumL key))).take j).map vu8), .row ra 64 rc 5 1 ((padK (sumL key)).map vu8), .blk b_1 .nw 28 [(32, (List.replicate 32 (0 : UInt8)).map vu8)], .view a2 (bs2.map vu8), .view a (key.map vu8)] ∧ (j ≤ 64) ∧ m = 64 - j) ⟨(0, none, 0, none, 0), _, ⟨rfl, rfl, rfl, trivial⟩, h_51, Nat.zero_le _, rfl⟩ ?_
    rintro ⟨j, ia, ic, oa, oc⟩ m_54 J_55 w_52 ⟨h_53, hj, rfl⟩
    refine WP.seq ?_
    refine WP.seq ?_
    refine WP.reg ?_
    refine WL.q (Wn.no rfl) rfl rfl (R.move (v := (vi ((j : Nat) : Int))) rfl) ?_
    refine WL.q (Wn.no rfl) rfl rfl (R.bin (v := (.bool (decide ((((j : Nat) : Int) : Int) < 64)))) rfl rfl (bi_lss (r := decide ((((j : Nat) : Int) : Int) < 64)) rfl)) ?_
    refine WL.nil ?_
    refine thn_n ?_
    refine WP.cond (b := decide ((((j : Nat) : Int) : Int) < 64)) rfl (fun c_56 => ?_) (fun c_56 => ?_)
    · have p_57 := of_decide_eq_true c_56
      refine WP.skip ?_
      refine thn_n ?_
      refine WP.seq ?_
      refine WP.block ?_
      refine WP.seq ?_
      refine WP.reg ?_
      refine WL.q (Wn.no rfl) rfl rfl (R.move (v := (.slice ia j ic)) rfl) ?_
      refine WL.q (Wn.no rfl) rfl rfl (R.move (v := (.slice ra 64 rc)) (congrArg (fun n => Value.slice ra n rc) hz64)) ?_
      refine WL.q (Wn.no rfl) rfl rfl (R.move (v := (vi ((j : Nat) : Int))) rfl) ?_
      refine WL.q (Wn.no rfl) rfl rfl (R.indexS (a := ra) (i := j) (off := j) (xs := (padK (sumL key)).map vu8) rfl rfl rfl (by omega) (ownView (h_53.ok _ (.tail _ (.tail _ (.head _))))) (lt_len (K := 64) (len_map hpk) (by omega)) Try.underlying26 Try.sizeOf5 (Nat.mul_one _).symm) ?_
      refine WL.q (Wn.no rfl) rfl rfl (R.loadG (a := ra) (i := j) (xs := (padK (sumL key)).map vu8) (v := (vu8 ((padK (sumL key)).getD j 0))) rfl (ownView (h_53.ok _ (.tail _ (.tail _ (.head _))))) Try.isAgg5 (get_u8 (lt_len (K := 64) hpk (by omega)))) ?_
      refine WL.q (Wn.no rfl) rfl rfl (R.bin (v := (vu8 (((padK (sumL key)).getD j 0) ^^^ 54))) rfl rfl (b8_xor ((padK (sumL key)).getD j 0) 54)) ?_
      refine WL.buildSl (vs := [(0, (vu8 (((padK (sumL key)).getD j 0) ^^^ 54)))]) (cs := ([((padK (sumL key)).getD j 0) ^^^ 54] : List UInt8).map vu8) h_53 Try.underlying26 Try.sizeOf5 (zv Try.typeInfo5 rfl) rfl rfl (by kernel_rfl) rfl (one_u8 _) rfl rfl (fun b_58 w_59 h_60 => ?_)
      refine WL.append (km := j + 1) (xs := ((xm 54 (padK (sumL key))).take j).map vu8) (ys := ([((padK (sumL key)).getD j 0) ^^^ 54] : List UInt8).map vu8) (zs := (((xm 54 (padK (sumL key))).take j) ++ ([((padK (sumL key)).getD j 0) ^^^ 54] : List UInt8)).map vu8) h_60 rfl rfl el26 (viewB (h_60.ok _ (.head _)) Sg.h) ((len_map (rfl : List.length ([((padK (sumL key)).getD j 0) ^^^ 54] : List UInt8) = 1)).trans (Nat.mul_one _).symm) (one_u8 _) (by simp only [List.map_append, List.map_nil]) (by omega) (by omega) (by omega) (fun _ _ => (At.t At.h)) rfl (fun a_61 c_62 w_63 h_64 => ?_)
      refine WL.q (Wn.no rfl) rfl rfl (R.assign (v := (.slice a_61 (j + 1) c_62)) rfl) ?_
      refine WL.nil ?_
      refine thn_n ?_
      refine WP.reg ?_
      refine WL.q (Wn.no rfl) rfl rfl (R.move (v := (.slice oa j oc)) rfl) ?_
      refine WL.q (Wn.no rfl) rfl rfl (R.move (v := (.slice ra 64 rc)) (congrArg (fun n => Value.slice ra n rc) hz64)) ?_
      refine WL.q (Wn.no rfl) rfl rfl (R.move (v := (vi ((j : Nat) : Int))) rfl) ?_
      refine WL.q (Wn.no rfl) rfl rfl (R.indexS (a := ra) (i := j) (off := j) (xs := (padK (sumL key)).map vu8) rfl rfl rfl (by omega) (ownView (h_64.ok _ (.tail _ (.tail _ (.tail _ (.head _)))))) (lt_len (K := 64) (len_map hpk) (by omega)) Try.underlying26 Try.sizeOf5 (Nat.mul_one _).symm) ?_
      refine WL.q (Wn.no rfl) rfl rfl (R.loadG (a := ra) (i := j) (xs := (padK (sumL key)).map vu8) (v := (vu8 ((padK (sumL key)).getD j 0))) rfl (ownView (h_64.ok _ (.tail _ (.tail _ (.tail _ (.head _)))))) Try.isAgg5 (get_u8 (lt_len (K := 64) hpk (by omega)))) ?_
      refine WL.q (Wn.no rfl) rfl rfl (R.bin (v := (vu8 (((padK (sumL key)).getD j 0) ^^^ 92))) rfl rfl (b8_xor ((padK (sumL key)).getD j 0) 92)) ?_
      refine WL.buildSl (vs := [(0, (vu8 (((padK (sumL key)).getD j 0) ^^^ 92)))]) (cs := ([((padK (sumL key)).getD j 0) ^^^ 92] : List UInt8).map vu8) h_64 Try.underlying26 Try.sizeOf5 (zv Try.typeInfo5 rfl) rfl rfl (by kernel_rfl) rfl (one_u8 _) rfl rfl (fun b_65 w_66 h_67 => ?_)
      refine WL.append (km := j + 1) (xs := ((xm 92 (padK (sumL key))).take j).map vu8) (ys := ([((padK (sumL key)).getD j 0) ^^^ 92] : List UInt8).map vu8) (zs := (((xm 92 (padK (sumL key))).take j) ++ ([((padK (sumL key)).getD j 0) ^^^ 92] : List UInt8)).map vu8) h_67 rfl rfl el26 (viewB (h_67.ok _ (.head _)) Sg.h) ((len_map (rfl : List.length ([((padK (sumL key)).getD j 0) ^^^ 92] : List UInt8) = 1)).trans (Nat.mul_one _).symm) (one_u8 _) (by simp only [List.map_append, List.map_nil]) (by omega) (by omega) (by omega) (fun _ _ => (At.t (At.t (At.t At.h)))) rfl (fun a_68 c_69 w_70 h_71 => ?_)
      refine WL.q (Wn.no rfl) rfl rfl (R.assign (v := (.slice a_68 (j + 1) c_69)) rfl) ?_
      refine WL.nil ?_
      refine inb_n ?_
      refine thn_n ?_
      refine WP.reg ?_
      refine WL.q (Wn.no rfl) rfl rfl (R.move (v := (vi ((j : Nat) : Int))) rfl) ?_
      refine WL.q (Wn.no rfl) rfl rfl (R.bin (v := (vi ((j + 1 : Nat) : Int))) rfl rfl (bi_add (c := ((j + 1 : Nat) : Int)) (by omega) (by omega))) ?_
      refine WL.q (Wn.no rfl) rfl rfl (R.assign (v := (vi ((j + 1 : Nat) : Int))) rfl) ?_
      refine WL.nil ?_
      refine thn_n ?_
      have h_72 := h_71.drop rfl
      have h_73 := h_72.drop rfl
      have h_74 := h_73.up (Pick.t (Pick.t (Pick.t (Pick.t (Pick.t Pick.h)))))
      have h_75 := h_74.up (Pick.t (Pick.t (Pick.t (Pick.t (Pick.t Pick.h)))))
      have h_76 := h_75.up (Pick.t (Pick.t (Pick.t (Pick.t (Pick.t Pick.h)))))
      have h_77 := h_76.up (Pick.t (Pick.t (Pick.t (Pick.t (Pick.t Pick.h)))))
      have h_78 := h_77.up (Pick.t (Pick.t (Pick.t (Pick.t (Pick.t Pick.h)))))
      have h_79 := h_78.up (Pick.t (Pick.t (Pick.t (Pick.t (Pick.t Pick.h)))))
      rw [xm_snoc (by omega), xm_snoc (by omega)] at h_79
      exact ⟨(j + 1, a_61, c_62, a_68, c_69), _, (by omega), (Ag.upd rfl (Ag.upd rfl (Ag.upd rfl (Ag.upd rfl (Ag.upd rfl (Ag.upd rfl (Ag.upd rfl (Ag.upd rfl (Ag.upd rfl (Ag.upd rfl (Ag.upd rfl (Ag.upd rfl (Ag.upd rfl (Ag.upd rfl (Ag.upd rfl (Ag.upd rfl (Ag.upd rfl (Ag.upd rfl (Ag.upd rfl (Ag.upd rfl (Ag.upd rfl (Ag.upd rfl (Ag.upd rfl (Ag.updL rfl (Ag.mix _ _ _))))))))))))))))))))))))), ⟨rfl, rfl, rfl, trivial⟩, h_79, (by omega), rfl⟩
    · have p_80 := of_decide_eq_false c_56
      refine WP.exit ?_
      refine thn_x ?_
      refine thn_x ?_
      refine inb_hit ?_
      refine thn_n ?_
      refine WP.seq ?_
      refine WP.reg ?_
      refine WL.q (Wn.no rfl) rfl rfl (R.move (v := (.slice ia j ic)) rfl) ?_
      refine WL.q (Wn.no rfl) rfl rfl (R.move (v := (.slice a2 n2 cap2)) rfl) ?_
      refine WL.append (km := j + n2) (xs := ((xm 54 (padK (sumL key))).take j).map vu8) (ys := bs2.map vu8) (zs := (((xm 54 (padK (sumL key))).take j) ++ bs2).map vu8) h_53 rfl rfl el26 (viewV (h_53.ok _ (.tail _ (.tail _ (.tail _ (.tail _ (.head _))))))) ((len_map hl2).trans (Nat.mul_one _).symm) (one_u8 _) (by simp only [List.map_append, List.map_nil]) (by omega) (by omega) (by omega) (fun _ _ => At.h) rfl (fun a_81 c_82 w_83 h_84 => ?_)
      refine WL.call (al := [(.slice a_81 (j + n2) c_82)]) Try.call20 rfl rfl (c_SumR a_81 (j + n2) c_82 (((xm 54 (padK (sumL key))).take j) ++ bs2) (lenApp (a := j) (b := n2) (by rw [List.length_take, xm_len, hpk]; omega) hl2 (by omega) : List.length (((xm 54 (padK (sumL key))).take j) ++ bs2) = j + n2) (by omega) _ (ownView (h_84.ok _ (.head _)))) rfl ?_
      rintro _ w_86 ⟨rfl, hc_85⟩
      have h_87 := h_84.same hc_85
      refine WL.alloc (segs := [(32, (List.replicate 32 (0 : UInt8)).map vu8)]) h_87 (zv Try.typeInfo28 rfl) rfl (SsOk.cons (SOk.u8 (List.length_replicate ..)) SsOk.nil) rfl (fun b_88 w_89 h_90 => ?_)
      refine WL.storeA (b := b_88) (off := 0) [] [(32, (List.replicate 32 (0 : UInt8)).map vu8)] [(32, (sumL (((xm 54 (padK (sumL key))).take j) ++ bs2)).map vu8)] [] (ys := (sumL (((xm 54 (padK (sumL key))).take j) ++ bs2)).map vu8) h_90 rfl rfl Try.sizeOf28 At.h (by decide) rfl rfl rfl rfl rfl rfl (SsOk.cons (SOk.u8 (sumL_len _)) SsOk.nil) (fun w_91 h_92 => ?_)
      refine WL.nil ?_
      refine thn_n ?_
      refine WP.seq ?_
      refine WP.reg ?_
      refine WL.q (Wn.no rfl) rfl rfl (R.move (v := (.slice oa j oc)) rfl) ?_
      refine WL.q (Wn.no rfl) rfl rfl (R.sliceA (b := b_88) (off := 0) (off' := 0) (l := 0) (h := 32) rfl EvB.dflt EvB.dflt (by decide) (by decide) Try.underlying28 Try.sizeOf5 rfl) ?_
      refine WL.append (km := j + 32) (xs := ((xm 92 (padK (sumL key))).take j).map vu8) (ys := (sumL (((xm 54 (padK (sumL key))).take j) ++ bs2)).map vu8) (zs := (((xm 92 (padK (sumL key))).take j) ++ (sumL (((xm 54 (padK (sumL key))).take j) ++ bs2))).map vu8) h_92 rfl rfl el26 (viewB (h_92.ok _ (.head _)) Sg.h) ((len_map (sumL_len _)).trans (Nat.mul_one _).symm) (one_u8 _) (by simp only [List.map_append, List.map_nil]) (by omega) (by omega) (by omega) (fun _ _ => (At.t (At.t At.h))) rfl (fun a_93 c_94 w_95 h_96 => ?_)
      refine WL.call (al := [(.slice a_93 (j + 32) c_94)]) Try.call20 rfl rfl (c_SumR a_93 (j + 32) c_94 (((xm 92 (padK (sumL key))).take j) ++ (sumL (((xm 54 (padK (sumL key))).take j) ++ bs2))) (lenApp (a := j) (b := 32) (by rw [List.length_take, xm_len, hpk]; omega) (sumL_len _) (by omega) : List.length (((xm 92 (padK (sumL key))).take j) ++ (sumL (((xm 54 (padK (sumL key))).take j) ++ bs2))) = j + 32) (by omega) _ (ownView (h_96.ok _ (.tail _ (.tail _ (.head _)))))) rfl ?_
      rintro _ w_98 ⟨rfl, hc_97⟩
      have h_99 := h_96.same hc_97
      refine WL.storeA (b := b_1) (off := 0) [] [(32, (List.replicate 32 (0 : UInt8)).map vu8)] [(32, (sumL (((xm 92 (padK (sumL key))).take j) ++ (sumL (((xm 54 (padK (sumL key))).take j) ++ bs2)))).map vu8)] [] (ys := (sumL (((xm 92 (padK (sumL key))).take j) ++ (sumL (((xm 54 (padK (sumL key))).take j) ++ bs2)))).map vu8) h_99 rfl rfl Try.sizeOf28 (At.t (At.t (At.t (At.t At.h)))) (by decide) rfl rfl rfl rfl rfl rfl (SsOk.cons (SOk.u8 (sumL_len _)) SsOk.nil) (fun w_100 h_101 => ?_)
      refine WL.nil ?_
      refine thn_n ?_
      refine WP.ret ?_
      refine ret_of Try.results37 (RV.cell rfl (h_101.loadA (cs := (sumL (((xm 92 (padK (sumL key))).take j) ++ (sumL (((xm 54 (padK (sumL key))).take j) ++ bs2)))).map vu8) Try.isAgg28 Try.sizeOf28 (.tail _ (.tail _ (.tail _ (.tail _ (.head _))))) rfl rfl) RV.nil) ?_
      have hj64 : j = 64 := by omega
      have e1 : (xm 54 (padK (sumL key))).take j = xm 54 (padK (sumL key)) := List.take_of_length_le (by rw [xm_len]; omega)
      have e2 : (xm 92 (padK (sumL key))).take j = xm 92 (padK (sumL key)) := List.take_of_length_le (by rw [xm_len]; omega)
      exact ⟨by rw [e1, e2, tag_l hl h]; rfl, h_101.chgS⟩

theorem c_TagR (a : Option Addr) (n cap : Nat) (key : List UInt8) (hl : key.length = n) (hcap : n ≤ cap) (hn : n ≤ 100000000000) (a2 : Option Addr) (n2 cap2 : Nat) (bs2 : List UInt8) (hl2 : bs2.length = n2) (hcap2 : n2 ≤ cap2) (hn2 : n2 ≤ 100000000000) (w : World) (hv : View w a (key.map vu8)) (hv2 : View w a2 (bs2.map vu8)) : Cs Try.prog 37 [.slice a n cap, .slice a2 n2 cap2].toArray w (fun v w1 => v = (.agg ⟨(tagL key bs2).map vu8⟩) ∧ Chg w w1 []) := by
  by_cases h : 64 < n
  · exact c_TagR_l a n cap key hl hcap hn a2 n2 cap2 bs2 hl2 hcap2 hn2 h w hv hv2
  · exact c_TagR_s a n cap key hl hcap hn a2 n2 cap2 bs2 hl2 hcap2 hn2 h w hv hv2
end Go.Proofs.Ytelkjcigdhgcoaa
