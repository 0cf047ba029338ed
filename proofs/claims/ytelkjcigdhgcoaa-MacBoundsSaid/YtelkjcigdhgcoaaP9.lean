/- The rows of digests that are known. Conditions: those that each theorem states. -/
import Derived.Test.YtelkjcigdhgcoaaP8
import Derived.Test.YtelkjcigdhgcoaaX0
namespace Go.Proofs.Ytelkjcigdhgcoaa
open Go.Vc Go.Sh Go.RowKit
set_option linter.unusedVariables false
set_option linter.unusedSimpArgs false
set_option maxRecDepth 20000

theorem dg_hi : ∀ x : UInt8, (x / 16).toNat < 16 := Go.Ax.all8 (by decide +kernel)
theorem dg_lo : ∀ x : UInt8, (x % 16).toNat < 16 := Go.Ax.all8 (by decide +kernel)
theorem dg_at : ∀ n : Nat, n < 16 → ([48, 49, 50, 51, 52, 53, 54, 55, 56, 57, 97, 98, 99, 100, 101, 102] : List UInt8).getD n 0 = Go.Wr.hdg (UInt8.ofNat n) := by decide +kernel
theorem dg_at' (x : UInt8) (h : x.toNat < 16) : ([48, 49, 50, 51, 52, 53, 54, 55, 56, 57, 97, 98, 99, 100, 101, 102] : List UInt8).getD x.toNat 0 = Go.Wr.hdg x := by
  have := dg_at x.toNat h
  simpa using this
theorem hex_step {bs : List UInt8} {k : Nat} (hk : k < bs.length) : Go.Wr.hexL (bs.take k) ++ ([([48, 49, 50, 51, 52, 53, 54, 55, 56, 57, 97, 98, 99, 100, 101, 102] : List UInt8).getD (bs.getD k 0 / 16).toNat 0, ([48, 49, 50, 51, 52, 53, 54, 55, 56, 57, 97, 98, 99, 100, 101, 102] : List UInt8).getD (bs.getD k 0 % 16).toNat 0] : List UInt8) = Go.Wr.hexL (bs.take (k + 1)) := by
  rw [dg_at' _ (dg_hi _), dg_at' _ (dg_lo _), take_snoc bs k 0 hk, Go.Wr.hexL_app]; rfl
theorem known_0 : Go.Wr.hexL (sumL ([] : List UInt8)) = ([101, 51, 98, 48, 99, 52, 52, 50, 57, 56, 102, 99, 49, 99, 49, 52, 57, 97, 102, 98, 102, 52, 99, 56, 57, 57, 54, 102, 98, 57, 50, 52, 50, 55, 97, 101, 52, 49, 101, 52, 54, 52, 57, 98, 57, 51, 52, 99, 97, 52, 57, 53, 57, 57, 49, 98, 55, 56, 53, 50, 98, 56, 53, 53] : List UInt8) := by decide +kernel
theorem known_1 : Go.Wr.hexL (sumL ([97, 98, 99] : List UInt8)) = ([98, 97, 55, 56, 49, 54, 98, 102, 56, 102, 48, 49, 99, 102, 101, 97, 52, 49, 52, 49, 52, 48, 100, 101, 53, 100, 97, 101, 50, 50, 50, 51, 98, 48, 48, 51, 54, 49, 97, 51, 57, 54, 49, 55, 55, 97, 57, 99, 98, 52, 49, 48, 102, 102, 54, 49, 102, 50, 48, 48, 49, 53, 97, 100] : List UInt8) := by decide +kernel
theorem c_HexR (a : Option Addr) (n cap : Nat) (bs : List UInt8) (hl : bs.length = n) (hn : n ≤ 1099511627776) (w : World) (hv : View w a (bs.map vu8)) :
    Cs Try.prog 63 [(.slice a n cap)].toArray w (fun v w1 => v = .string (bstr (Go.Wr.hexL bs)) ∧ Chg w w1 []) := by
  refine Cs.of (n := 28) (args := [(.slice a n cap)]) Try.func63 rfl rfl rfl ?_
  have h_0 := HP.init w
  have h_00 := h_0.old (View.arg hv) (fun f hf => by cases hf)
  refine WP.seq ?_
  refine WP.reg ?_
  refine WL.q (Wn.no rfl) rfl rfl (R.assign (v := (.string (bstr ([] : List UInt8)))) rfl) ?_
  refine WL.nil ?_
  refine thn_n ?_
  refine WP.seq ?_
  refine WP.reg ?_
  refine WL.q (Wn.no rfl) rfl rfl (R.assign (v := (.slice none 0 0)) rfl) ?_
  refine WL.nil ?_
  refine thn_n ?_
  refine WP.seq ?_
  refine WP.seq ?_
  refine WP.reg ?_
  refine WL.q (Wn.no rfl) rfl rfl (R.assign (v := (vi 0)) rfl) ?_
  refine WL.nil ?_
  refine thn_n ?_
  refine WP.block ?_
  have h_1 := h_00.rowNil 5 1
  refine WP.loopG (G := Nat × Option Addr × Nat) [3, 4, 5, 6, 7, 8, 9, 10, 11, 12, 13, 14, 15, 16, 17, 18, 19, 20, 21, 22, 23, 24, 25] (fun (k, ra, rc) => [(3, (.slice ra (2 * k) rc)), (4, (vi ((k : Nat) : Int)))]) (fun (k, ra, rc) m w1 => HP w w1 [.row ra (2 * k) rc 5 1 ((Go.Wr.hexL (bs.take k)).map vu8), .view a (bs.map vu8)] ∧ (k ≤ n) ∧ m = n - k) ⟨(0, none, 0), _, ⟨rfl, rfl, trivial⟩, h_1, Nat.zero_le _, rfl⟩ ?_
  rintro ⟨k, ra, rc⟩ m_4 J_5 w_2 ⟨h_3, hk, rfl⟩
  refine WP.seq ?_
  refine WP.seq ?_
  refine WP.reg ?_
  refine WL.q (Wn.no rfl) rfl rfl (R.move (v := (vi ((k : Nat) : Int))) rfl) ?_
  refine WL.q (Wn.no rfl) rfl rfl (R.move (v := (.slice a n cap)) rfl) ?_
  refine WL.q (Wn.no rfl) rfl rfl (R.lenS (a := a) (m := n) rfl rfl Try.underlying26) ?_
  refine WL.q (Wn.no rfl) rfl rfl (R.bin (v := (.bool (decide ((((k : Nat) : Int) : Int) < ((n : Nat) : Int))))) rfl rfl (bi_lss (r := decide ((((k : Nat) : Int) : Int) < ((n : Nat) : Int))) rfl)) ?_
  refine WL.nil ?_
  refine thn_n ?_
  refine WP.cond (b := decide ((((k : Nat) : Int) : Int) < ((n : Nat) : Int))) rfl (fun c_6 => ?_) (fun c_6 => ?_)
  · have p_7 := of_decide_eq_true c_6
    refine WP.skip ?_
    refine thn_n ?_
    refine WP.seq ?_
    refine WP.block ?_
    refine WP.drawT (SL w.heap.size [.view a (bs.map vu8)]) (.q 0 (.q 1 (.q 2 (.q 3 (.q 4 (.q 5 (.q 6 (.q 7 (.q 8 (.q 9 (.q 10 (.q 11 (.q 12 (.s 13 (.s 14 (.q 15 .nil)))))))))))))))) (by kernel_rfl) (by kernel_rfl) rfl (by kernel_rfl) (fun w_8 hc_10 => (SL.cons ((h_3.same hc_10).ok _ (.tail _ (.head _))) (SL.nil _ _))) (fun w_8 hc_10 => ?_)
    have h_9 := h_3.same hc_10
    refine WT.q rfl (Wn.no rfl) rfl rfl (fun wq hS => R.move (v := (.slice ra (2 * k) rc)) rfl) ?_
    refine WT.q rfl (Wn.no rfl) rfl rfl (fun wq hS => R.move (v := (.slice a n cap)) rfl) ?_
    refine WT.q rfl (Wn.no rfl) rfl rfl (fun wq hS => R.move (v := (vi ((k : Nat) : Int))) rfl) ?_
    refine WT.q rfl (Wn.no rfl) rfl rfl (fun wq hS => R.indexS (a := a) (i := k) (off := k) (xs := bs.map vu8) rfl rfl rfl (by omega) (viewV (hS _ (.head _))) (lt_len (K := n) (len_map hl) (by omega)) Try.underlying26 Try.sizeOf5 (Nat.mul_one _).symm) ?_
    refine WT.q rfl (Wn.no rfl) rfl rfl (fun wq hS => R.loadG (a := a) (i := k) (xs := bs.map vu8) (v := (vu8 (bs.getD k 0))) rfl (viewV (hS _ (.head _))) Try.isAgg5 (get_u8 (lt_len (K := n) hl (by omega)))) ?_
    refine WT.q rfl (Wn.no rfl) rfl rfl (fun wq hS => R.bin (v := (vu8 ((bs.getD k 0) / 16))) rfl rfl (b8_quo (bs.getD k 0) 16 (by decide))) ?_
    refine WT.q rfl (Wn.no rfl) rfl rfl (fun wq hS => R.indexStrL (l := ([48, 49, 50, 51, 52, 53, 54, 55, 56, 57, 97, 98, 99, 100, 101, 102] : List UInt8)) (i := ((bs.getD k 0) / 16).toNat) rfl rfl rfl (dg_hi _) Try.underlying9) ?_
    refine WT.q rfl (Wn.no rfl) rfl rfl (fun wq hS => R.move (v := (.slice a n cap)) rfl) ?_
    refine WT.q rfl (Wn.no rfl) rfl rfl (fun wq hS => R.move (v := (vi ((k : Nat) : Int))) rfl) ?_
    refine WT.q rfl (Wn.no rfl) rfl rfl (fun wq hS => R.indexS (a := a) (i := k) (off := k) (xs := bs.map vu8) rfl rfl rfl (by omega) (viewV (hS _ (.head _))) (lt_len (K := n) (len_map hl) (by omega)) Try.underlying26 Try.sizeOf5 (Nat.mul_one _).symm) ?_
    refine WT.q rfl (Wn.no rfl) rfl rfl (fun wq hS => R.loadG (a := a) (i := k) (xs := bs.map vu8) (v := (vu8 (bs.getD k 0))) rfl (viewV (hS _ (.head _))) Try.isAgg5 (get_u8 (lt_len (K := n) hl (by omega)))) ?_
    refine WT.q rfl (Wn.no rfl) rfl rfl (fun wq hS => R.bin (v := (vu8 ((bs.getD k 0) % 16))) rfl rfl (b8_rem (bs.getD k 0) 16 (by decide))) ?_
    refine WT.q rfl (Wn.no rfl) rfl rfl (fun wq hS => R.indexStrL (l := ([48, 49, 50, 51, 52, 53, 54, 55, 56, 57, 97, 98, 99, 100, 101, 102] : List UInt8)) (i := ((bs.getD k 0) % 16).toNat) rfl rfl rfl (dg_lo _) Try.underlying9) ?_
    refine WT.s ?_
    refine Op1.one rfl (Wn.no rfl) ?_
    refine WL.buildSl (vs := [(0, (vu8 (([48, 49, 50, 51, 52, 53, 54, 55, 56, 57, 97, 98, 99, 100, 101, 102] : List UInt8).getD (((bs.getD k 0) / 16).toNat) 0))), (1, (vu8 (([48, 49, 50, 51, 52, 53, 54, 55, 56, 57, 97, 98, 99, 100, 101, 102] : List UInt8).getD (((bs.getD k 0) % 16).toNat) 0)))]) (cs := ([([48, 49, 50, 51, 52, 53, 54, 55, 56, 57, 97, 98, 99, 100, 101, 102] : List UInt8).getD (((bs.getD k 0) / 16).toNat) 0, ([48, 49, 50, 51, 52, 53, 54, 55, 56, 57, 97, 98, 99, 100, 101, 102] : List UInt8).getD (((bs.getD k 0) % 16).toNat) 0] : List UInt8).map vu8) h_9 Try.underlying26 Try.sizeOf5 (zv Try.typeInfo5 rfl) rfl rfl (by kernel_rfl) rfl (one_u8 _) rfl rfl (fun b_11 w_12 h_13 => ?_)
    refine WL.nil ?_
    refine ⟨(SL.cons (h_13.ok _ (.tail _ (.tail _ (.head _)))) (SL.nil _ _)), ?_⟩
    refine WT.s ?_
    refine Op1.one rfl (Wn.no rfl) ?_
    refine WL.append (km := 2 * k + 2) (xs := (Go.Wr.hexL (bs.take k)).map vu8) (ys := ([([48, 49, 50, 51, 52, 53, 54, 55, 56, 57, 97, 98, 99, 100, 101, 102] : List UInt8).getD (((bs.getD k 0) / 16).toNat) 0, ([48, 49, 50, 51, 52, 53, 54, 55, 56, 57, 97, 98, 99, 100, 101, 102] : List UInt8).getD (((bs.getD k 0) % 16).toNat) 0] : List UInt8).map vu8) (zs := ((Go.Wr.hexL (bs.take k)) ++ ([([48, 49, 50, 51, 52, 53, 54, 55, 56, 57, 97, 98, 99, 100, 101, 102] : List UInt8).getD (((bs.getD k 0) / 16).toNat) 0, ([48, 49, 50, 51, 52, 53, 54, 55, 56, 57, 97, 98, 99, 100, 101, 102] : List UInt8).getD (((bs.getD k 0) % 16).toNat) 0] : List UInt8)).map vu8) h_13 rfl rfl el26 (viewB (h_13.ok _ (.head _)) Sg.h) ((len_map (rfl : List.length ([([48, 49, 50, 51, 52, 53, 54, 55, 56, 57, 97, 98, 99, 100, 101, 102] : List UInt8).getD (((bs.getD k 0) / 16).toNat) 0, ([48, 49, 50, 51, 52, 53, 54, 55, 56, 57, 97, 98, 99, 100, 101, 102] : List UInt8).getD (((bs.getD k 0) % 16).toNat) 0] : List UInt8) = 2)).trans (Nat.mul_one _).symm) (one_u8 _) (by simp only [List.map_append, List.map_nil]) (by omega) (by omega) (by omega) (fun _ _ => (At.t At.h)) rfl (fun a_14 c_15 w_16 h_17 => ?_)
    refine WL.nil ?_
    refine ⟨(SL.cons (h_17.ok _ (.tail _ (.tail _ (.head _)))) (SL.nil _ _)), ?_⟩
    refine WT.q rfl (Wn.no rfl) rfl rfl (fun wq hS => R.assign (v := (.slice a_14 (2 * k + 2) c_15)) rfl) ?_
    refine WT.nil ?_
    refine inb_n ?_
    refine thn_n ?_
    refine WP.reg ?_
    refine WL.q (Wn.no rfl) rfl rfl (R.move (v := (vi ((k : Nat) : Int))) rfl) ?_
    refine WL.q (Wn.no rfl) rfl rfl (R.bin (v := (vi ((k + 1 : Nat) : Int))) rfl rfl (bi_add (c := ((k + 1 : Nat) : Int)) (by omega) (by omega))) ?_
    refine WL.q (Wn.no rfl) rfl rfl (R.assign (v := (vi ((k + 1 : Nat) : Int))) rfl) ?_
    refine WL.nil ?_
    refine thn_n ?_
    have h_18 := h_17.drop rfl
    rw [hex_step (by omega), show 2 * k + 2 = 2 * (k + 1) by omega] at h_18
    exact ⟨(k + 1, a_14, c_15), _, (by omega), (Ag.upd rfl (Ag.upd rfl (Ag.upd rfl (Ag.upd rfl (Ag.upd rfl (Ag.upd rfl (Ag.upd rfl (Ag.upd rfl (Ag.upd rfl (Ag.upd rfl (Ag.upd rfl (Ag.upd rfl (Ag.upd rfl (Ag.upd rfl (Ag.upd rfl (Ag.upd rfl (Ag.upd rfl (Ag.upd rfl (Ag.upd rfl (Ag.upd rfl (Ag.upd rfl (Ag.upd rfl (Ag.upd rfl (Ag.updL rfl (Ag.mix _ _ _))))))))))))))))))))))))), ⟨rfl, rfl, trivial⟩, h_18, (by omega), rfl⟩
  · have p_19 := of_decide_eq_false c_6
    refine WP.exit ?_
    refine thn_x ?_
    refine thn_x ?_
    refine inb_hit ?_
    refine thn_n ?_
    refine WP.seq ?_
    refine WP.reg ?_
    refine WL.q (Wn.no rfl) rfl rfl (R.move (v := (.slice ra (2 * k) rc)) rfl) ?_
    refine WL.q (Wn.no rfl) rfl rfl (R.toStr (bs := Go.Wr.hexL (bs.take k)) rfl Try.underlying26 Try.underlying5 Try.underlying9 (ownView (h_3.ok _ (.head _))) (by rw [Go.Wr.hexL_len, List.length_take]; omega)) ?_
    refine WL.q (Wn.no rfl) rfl rfl (R.assign (v := (.string (bstr (Go.Wr.hexL (bs.take k))))) rfl) ?_
    refine WL.nil ?_
    refine thn_n ?_
    refine WP.ret ?_
    refine ret_of Try.results63 (RV.tmp (v := (.string (bstr (Go.Wr.hexL (bs.take k))))) rfl RV.nil) ?_
    have hkn : k = n := by omega
    exact ⟨by rw [hkn, List.take_of_length_le (by omega)]; rfl, h_3.chgS⟩

theorem c_hex2 (d l : List UInt8) (hd : d.length = 32) (w : World) :
    Cs Try.prog 52 [(.agg ⟨d.map vu8⟩), (.string (bstr l))].toArray w (fun v w1 => v = (.bool (decide (Go.Wr.hexL d = l))) ∧ Chg w w1 []) := by
  refine Cs.of (n := 9) (args := [(.agg ⟨d.map vu8⟩), (.string (bstr l))]) Try.func52 rfl rfl rfl ?_
  have h_0 := HP.init w
  refine WP.seq ?_
  refine WP.reg ?_
  refine WL.box (v := (.agg ⟨d.map vu8⟩)) (segs := [(32, d.map vu8)]) h_0 rfl rfl (SsOk.cons (SOk.u8 hd) SsOk.nil) rfl (fun b_1 w_2 h_3 => ?_)
  refine WL.q (Wn.no rfl) rfl rfl (R.assign (v := (.bool false)) rfl) ?_
  refine WL.nil ?_
  refine thn_n ?_
  refine WP.seq ?_
  refine WP.reg ?_
  refine WL.q (Wn.no rfl) rfl rfl (R.sliceA (b := b_1) (off := 0) (off' := 0) (l := 0) (h := 32) rfl EvB.dflt EvB.dflt (by decide) (by decide) Try.underlying28 Try.sizeOf5 rfl) ?_
  refine WL.call (al := [(.slice (some ⟨b_1, 0, none⟩) 32 32)]) Try.call63 rfl rfl (c_HexR (some ⟨b_1, 0, none⟩) 32 32 d hd (by omega) _ (viewB (h_3.ok _ (.head _)) Sg.h)) rfl ?_
  rintro _ w_5 ⟨rfl, hc_4⟩
  have h_6 := h_3.same hc_4
  refine WL.q (Wn.no rfl) rfl rfl (R.move (v := (.string (bstr l))) rfl) ?_
  refine WL.q (Wn.no rfl) rfl rfl (R.eqStr (a := Go.Wr.hexL d) (b := l) (r := decide (Go.Wr.hexL d = l)) rfl rfl rfl) ?_
  refine WL.q (Wn.no rfl) rfl rfl (R.assign (v := (.bool (decide (Go.Wr.hexL d = l)))) rfl) ?_
  refine WL.nil ?_
  refine thn_n ?_
  refine WP.ret ?_
  refine ret_of Try.results52 (RV.tmp (v := (.bool (decide (Go.Wr.hexL d = l)))) rfl RV.nil) ?_
  exact ⟨rfl, h_6.chgS⟩

theorem c_known2  (w : World) :
    Cs Try.prog 18 [].toArray w (fun v w1 => v = .bool true ∧ Chg w w1 []) := by
  refine Cs.of (n := 25) (args := []) Try.func18 rfl rfl rfl ?_
  have h_0 := HP.init w
  refine WP.seq ?_
  refine WP.reg ?_
  refine WL.q (Wn.no rfl) rfl rfl (R.assign (v := (.bool false)) rfl) ?_
  refine WL.nil ?_
  refine thn_n ?_
  refine WP.seq ?_
  refine WP.reg ?_
  refine WL.call (al := [(.slice none 0 0)]) Try.call19 rfl rfl (c_Sum none 0 0 ([] : List UInt8) rfl (by omega) (by decide) _ (View.nil _ _)) rfl ?_
  rintro _ w_2 ⟨rfl, hc_1⟩
  have h_3 := h_0.same hc_1
  refine WL.call (al := [(.agg ⟨(sumL ([] : List UInt8)).map vu8⟩), (.string (bstr ([101, 51, 98, 48, 99, 52, 52, 50, 57, 56, 102, 99, 49, 99, 49, 52, 57, 97, 102, 98, 102, 52, 99, 56, 57, 57, 54, 102, 98, 57, 50, 52, 50, 55, 97, 101, 52, 49, 101, 52, 54, 52, 57, 98, 57, 51, 52, 99, 97, 52, 57, 53, 57, 57, 49, 98, 55, 56, 53, 50, 98, 56, 53, 53] : List UInt8)))]) Try.call52 rfl rfl (c_hex2 (sumL ([] : List UInt8)) ([101, 51, 98, 48, 99, 52, 52, 50, 57, 56, 102, 99, 49, 99, 49, 52, 57, 97, 102, 98, 102, 52, 99, 56, 57, 57, 54, 102, 98, 57, 50, 52, 50, 55, 97, 101, 52, 49, 101, 52, 54, 52, 57, 98, 57, 51, 52, 99, 97, 52, 57, 53, 57, 57, 49, 98, 55, 56, 53, 50, 98, 56, 53, 53] : List UInt8) (sumL_len _) _ ) rfl ?_
  rintro _ w_5 ⟨rfl, hc_4⟩
  have h_6 := h_3.same hc_4
  refine WL.q (Wn.no rfl) rfl rfl (R.move (v := (.bool true)) (congrArg Value.bool (decide_eq_true known_0))) ?_
  refine WL.want rfl rfl ?_
  refine WL.buildSl (vs := [(0, (vu8 97)), (1, (vu8 98)), (2, (vu8 99))]) (cs := ([97, 98, 99] : List UInt8).map vu8) h_6 Try.underlying26 Try.sizeOf5 (zv Try.typeInfo5 rfl) rfl rfl (by kernel_rfl) rfl (one_u8 _) rfl rfl (fun b_7 w_8 h_9 => ?_)
  refine WL.want rfl rfl ?_
  refine WL.convSl h_9 rfl Try.underlying26 Try.underlying5 At.h (by decide) rfl (fun w_10 h_11 => ?_)
  refine WL.want rfl rfl ?_
  refine WL.call (al := [(.slice (some ⟨b_7, 0, none⟩) 3 3)]) Try.call19 rfl rfl (c_Sum (some ⟨b_7, 0, none⟩) 3 3 ([97, 98, 99] : List UInt8) (rfl : List.length ([97, 98, 99] : List UInt8) = 3) (by omega) (by decide) _ (viewB (h_11.ok _ (.head _)) Sg.h)) rfl ?_
  rintro _ w_13 ⟨rfl, hc_12⟩
  have h_14 := h_11.same hc_12
  refine WL.want rfl rfl ?_
  refine WL.call (al := [(.agg ⟨(sumL ([97, 98, 99] : List UInt8)).map vu8⟩), (.string (bstr ([98, 97, 55, 56, 49, 54, 98, 102, 56, 102, 48, 49, 99, 102, 101, 97, 52, 49, 52, 49, 52, 48, 100, 101, 53, 100, 97, 101, 50, 50, 50, 51, 98, 48, 48, 51, 54, 49, 97, 51, 57, 54, 49, 55, 55, 97, 57, 99, 98, 52, 49, 48, 102, 102, 54, 49, 102, 50, 48, 48, 49, 53, 97, 100] : List UInt8)))]) Try.call52 rfl rfl (c_hex2 (sumL ([97, 98, 99] : List UInt8)) ([98, 97, 55, 56, 49, 54, 98, 102, 56, 102, 48, 49, 99, 102, 101, 97, 52, 49, 52, 49, 52, 48, 100, 101, 53, 100, 97, 101, 50, 50, 50, 51, 98, 48, 48, 51, 54, 49, 97, 51, 57, 54, 49, 55, 55, 97, 57, 99, 98, 52, 49, 48, 102, 102, 54, 49, 102, 50, 48, 48, 49, 53, 97, 100] : List UInt8) (sumL_len _) _ ) rfl ?_
  rintro _ w_16 ⟨rfl, hc_15⟩
  have h_17 := h_14.same hc_15
  refine WL.q (Wn.no rfl) rfl rfl (R.pickT (v := (.bool true)) rfl (congrArg Value.bool (decide_eq_true known_1))) ?_
  refine WL.q (Wn.no rfl) rfl rfl (R.move (v := (.bool true)) rfl) ?_
  refine WL.want rfl rfl ?_
  refine WL.call (al := [(vi 0)]) Try.call14 rfl rfl (c_Constant 0 _ ) rfl ?_
  rintro _ w_19 ⟨rfl, hc_18⟩
  have h_20 := h_17.same hc_18
  refine WL.want rfl rfl ?_
  refine WL.q (Wn.no rfl) rfl rfl (R.bin (v := (.bool true)) rfl rfl (b32_eql (kAt 0) 1116352408 (r := true) (by decide +kernel))) ?_
  refine WL.q (Wn.no rfl) rfl rfl (R.pickT (v := (.bool true)) rfl rfl) ?_
  refine WL.q (Wn.no rfl) rfl rfl (R.move (v := (.bool true)) rfl) ?_
  refine WL.want rfl rfl ?_
  refine WL.call (al := [(vi 63)]) Try.call14 rfl rfl (c_Constant 63 _ ) rfl ?_
  rintro _ w_22 ⟨rfl, hc_21⟩
  have h_23 := h_20.same hc_21
  refine WL.want rfl rfl ?_
  refine WL.q (Wn.no rfl) rfl rfl (R.bin (v := (.bool true)) rfl rfl (b32_eql (kAt 63) 3329325298 (r := true) (by decide +kernel))) ?_
  refine WL.q (Wn.no rfl) rfl rfl (R.pickT (v := (.bool true)) rfl rfl) ?_
  refine WL.q (Wn.no rfl) rfl rfl (R.move (v := (.bool true)) rfl) ?_
  refine WL.want rfl rfl ?_
  refine WL.call (al := [(vi 0)]) Try.call16 rfl rfl (c_Start 0 _ ) rfl ?_
  rintro _ w_25 ⟨rfl, hc_24⟩
  have h_26 := h_23.same hc_24
  refine WL.want rfl rfl ?_
  refine WL.q (Wn.no rfl) rfl rfl (R.bin (v := (.bool true)) rfl rfl (b32_eql (hAt 0) 1779033703 (r := true) (by decide +kernel))) ?_
  refine WL.q (Wn.no rfl) rfl rfl (R.pickT (v := (.bool true)) rfl rfl) ?_
  refine WL.q (Wn.no rfl) rfl rfl (R.move (v := (.bool true)) rfl) ?_
  refine WL.want rfl rfl ?_
  refine WL.call (al := [(vi 64)]) Try.call14 rfl rfl (c_Constant 64 _ ) rfl ?_
  rintro _ w_28 ⟨rfl, hc_27⟩
  have h_29 := h_26.same hc_27
  refine WL.want rfl rfl ?_
  refine WL.q (Wn.no rfl) rfl rfl (R.bin (v := (.bool true)) rfl rfl (b32_eql (kAt 64) 0 (r := true) (by decide +kernel))) ?_
  refine WL.q (Wn.no rfl) rfl rfl (R.pickT (v := (.bool true)) rfl rfl) ?_
  refine WL.q (Wn.no rfl) rfl rfl (R.assign (v := (.bool true)) rfl) ?_
  refine WL.nil ?_
  refine thn_n ?_
  refine WP.ret ?_
  refine ret_of Try.results18 (RV.tmp (v := (.bool true)) rfl RV.nil) ?_
  exact ⟨rfl, h_29.chgS⟩
end Go.Proofs.Ytelkjcigdhgcoaa
