/- A message padded: contracts. Conditions: those that each theorem states. -/
import Derived.Test.YtelkjcigdhgcoaaP4
import Derived.Test.YtelkjcigdhgcoaaH6
namespace Go.Proofs.Ytelkjcigdhgcoaa
open Go.Vc Go.Sh Go.RowKit
set_option linter.unusedVariables false
set_option linter.unusedSimpArgs false
set_option maxRecDepth 20000

theorem c_padding (n : Nat) (hn : n ≤ 1099511627776) (w : World) :
    Cs Try.prog 54 [(vi ((n : Nat) : Int))].toArray w (fun v w1 => ∃ a cap, v = .slice a (padL n).length cap ∧ Chg w w1 [] ∧ Own w.heap.size w1 5 1 a (padL n).length cap ((padL n).map vu8)) := by
  refine Cs.of (n := 23) (args := [(vi ((n : Nat) : Int))]) Try.func54 rfl rfl rfl ?_
  have h_0 := HP.init w
  refine WP.seq ?_
  refine WP.reg ?_
  refine WL.q (Wn.no rfl) rfl rfl (R.assign (v := (.slice none 0 0)) rfl) ?_
  refine WL.nil ?_
  refine thn_n ?_
  refine WP.seq ?_
  refine WP.reg ?_
  refine WL.buildSl (vs := [(0, (vu8 128))]) (cs := ([128] : List UInt8).map vu8) h_0 Try.underlying26 Try.sizeOf5 (zv Try.typeInfo5 rfl) rfl rfl (by kernel_rfl) rfl (one_u8 _) rfl rfl (fun b_1 w_2 h_3 => ?_)
  refine WL.q (Wn.no rfl) rfl rfl (R.move (v := (vi ((n : Nat) : Int))) rfl) ?_
  refine WL.q (Wn.no rfl) rfl rfl (R.bin (v := (vi ((n % 64 : Nat) : Int))) rfl rfl (bi_rem (c := ((n % 64 : Nat) : Int)) (Int.natCast_nonneg _) (by omega) (by first | omega | rfl))) ?_
  refine WL.q (Wn.no rfl) rfl rfl (R.bin (v := (vi ((119 - (n % 64) : Nat) : Int))) rfl rfl (bi_sub (c := ((119 - (n % 64) : Nat) : Int)) (by omega) (by omega))) ?_
  refine WL.q (Wn.no rfl) rfl rfl (R.bin (v := (vi (((119 - (n % 64)) % 64 : Nat) : Int))) rfl rfl (bi_rem (c := (((119 - (n % 64)) % 64 : Nat) : Int)) (Int.natCast_nonneg _) (by omega) (by first | omega | rfl))) ?_
  have h_4 := HP.blkRow (m := 1) (s := 1) h_3 At.h rfl (by simp only [maxLen]; decide)
  refine WL.appendZ (i := Try.t5) (m := (119 - (n % 64)) % 64) (km := 1 + ((119 - (n % 64)) % 64)) (xs := ([128] : List UInt8).map vu8) (zs := (([128] : List UInt8) ++ List.replicate ((119 - (n % 64)) % 64) (0 : UInt8)).map vu8) h_4 rfl rfl Try.underlying26 Try.underlying3 rfl rfl rfl rfl (by simp only [List.map_append, List.map_replicate, List.map_nil]) (by omega) (by omega) (fun _ _ => At.h) rfl (fun a_5 c_6 w_7 h_8 => ?_)
  refine WL.q (Wn.no rfl) rfl rfl (R.assign (v := (.slice a_5 (1 + ((119 - (n % 64)) % 64)) c_6)) rfl) ?_
  refine WL.nil ?_
  refine thn_n ?_
  refine WP.seq ?_
  refine WP.reg ?_
  refine WL.q (Wn.no rfl) rfl rfl (R.move (v := (vi ((n : Nat) : Int))) rfl) ?_
  refine WL.q (Wn.no rfl) rfl rfl (R.conv (b := ((UInt64.ofNat n) : UInt64).toNat) rfl Try.underlying3 Try.underlying58 (w64_nat n)) ?_
  refine WL.q (Wn.no rfl) rfl rfl (R.bin (v := (vu64 (UInt64.ofNat (n * 8)))) rfl rfl ((b64_mul (UInt64.ofNat n) 8).trans (congrArg (fun x : UInt64 => some (vu64 x)) (mul8 n)))) ?_
  refine WL.call (al := [(vu64 (UInt64.ofNat (n * 8))), (vi 8)]) Try.call60 rfl rfl (c_Put_b (UInt64.ofNat (n * 8)) 8 rfl _) rfl ?_
  rintro _ w_11 ⟨a_9, cap_10, rfl, hc_12, ho_13⟩
  have h_14 := h_8.gotRow hc_12 ho_13
  refine WL.q (Wn.no rfl) rfl rfl (R.move (v := (.tuple [(.slice a_9 8 cap_10), (vi 0)].toArray)) rfl) ?_
  refine WL.q (Wn.no rfl) rfl rfl (R.extract (l := [(.slice a_9 8 cap_10), (vi 0)]) (v := (.slice a_9 8 cap_10)) rfl rfl) ?_
  refine WL.q (Wn.no rfl) rfl rfl (R.extract (l := [(.slice a_9 8 cap_10), (vi 0)]) (v := (vi 0)) rfl rfl) ?_
  refine WL.q (Wn.no rfl) rfl rfl (R.assign (v := (.slice a_9 8 cap_10)) rfl) ?_
  refine WL.q (Wn.no rfl) rfl rfl (R.assign (v := (vi 0)) rfl) ?_
  refine WL.nil ?_
  refine thn_n ?_
  refine WP.seq ?_
  refine WP.reg ?_
  refine WL.q (Wn.no rfl) rfl rfl (R.move (v := (.slice a_5 (1 + ((119 - (n % 64)) % 64)) c_6)) rfl) ?_
  refine WL.q (Wn.no rfl) rfl rfl (R.move (v := (.slice a_9 8 cap_10)) rfl) ?_
  refine WL.call (al := [(.slice a_9 8 cap_10)]) Try.call61 rfl rfl (c_Turned a_9 8 cap_10 (leN 8 (UInt64.ofNat (n * 8)).toNat) (leN_len ..) (by omega) _ (ownView (h_14.ok _ (.head _)))) rfl ?_
  rintro _ w_17 ⟨a_15, cap_16, rfl, hc_18, ho_19⟩
  have h_20 := h_14.gotRow hc_18 ho_19
  refine WL.append (km := (1 + ((119 - (n % 64)) % 64)) + 8) (xs := (([128] : List UInt8) ++ List.replicate ((119 - (n % 64)) % 64) (0 : UInt8)).map vu8) (ys := ((leN 8 (UInt64.ofNat (n * 8)).toNat).reverse).map vu8) (zs := ((([128] : List UInt8) ++ List.replicate ((119 - (n % 64)) % 64) (0 : UInt8)) ++ ((leN 8 (UInt64.ofNat (n * 8)).toNat).reverse)).map vu8) h_20 rfl rfl el26 (ownView (h_20.ok _ (.head _))) ((len_map ((List.length_reverse ..).trans (leN_len ..))).trans (Nat.mul_one _).symm) (one_u8 _) (by simp only [List.map_append, List.map_nil]) (by omega) (by omega) (by omega) (fun _ _ => (At.t (At.t At.h))) rfl (fun a_21 c_22 w_23 h_24 => ?_)
  refine WL.q (Wn.no rfl) rfl rfl (R.assign (v := (.slice a_21 ((1 + ((119 - (n % 64)) % 64)) + 8) c_22)) rfl) ?_
  refine WL.nil ?_
  refine thn_n ?_
  refine WP.ret ?_
  refine ret_of Try.results54 (RV.tmp (v := (.slice a_21 ((1 + ((119 - (n % 64)) % 64)) + 8) c_22)) rfl RV.nil) ?_
  have es : (([128] : List UInt8) ++ List.replicate ((119 - (n % 64)) % 64) (0 : UInt8)) ++ ((leN 8 (UInt64.ofNat (n * 8)).toNat).reverse) = padL n := pad_P (by omega)
  have el : (1 + ((119 - (n % 64)) % 64)) + 8 = (padL n).length := by have hq := padL_len n; omega
  have hown := h_24.own (.tail _ (.tail _ (.head _)))
  rw [el, es] at hown
  exact ⟨_, _, by rw [el]; rfl, h_24.chgS, hown⟩

theorem c_Pad (a : Option Addr) (n cap : Nat) (bs : List UInt8) (hl : bs.length = n) (hn : n ≤ 1000000000000) (hcap : n ≤ cap) (w : World) (hv : View w a (bs.map vu8)) :
    Cs Try.prog 22 [(.slice a n cap)].toArray w (fun v w1 => ∃ a cap, v = .slice a (padded bs).length cap ∧ Chg w w1 [] ∧ Own w.heap.size w1 5 1 a (padded bs).length cap ((padded bs).map vu8)) := by
  refine Cs.of (n := 9) (args := [(.slice a n cap)]) Try.func22 rfl rfl rfl ?_
  have h_0 := HP.init w
  have h_00 := h_0.old (View.arg hv) (fun f hf => by cases hf)
  refine WP.seq ?_
  refine WP.reg ?_
  refine WL.q (Wn.no rfl) rfl rfl (R.assign (v := (.slice none 0 0)) rfl) ?_
  refine WL.nil ?_
  refine thn_n ?_
  refine WP.seq ?_
  refine WP.reg ?_
  refine WL.q (Wn.no rfl) rfl rfl (R.move (v := (.slice a n cap)) rfl) ?_
  refine WL.q (Wn.no rfl) rfl rfl (R.move (v := (.slice a n cap)) rfl) ?_
  refine WL.q (Wn.no rfl) rfl rfl (R.lenS (a := a) (m := n) rfl rfl Try.underlying26) ?_
  refine WL.call (al := [(vi ((n : Nat) : Int))]) Try.call54 rfl rfl (c_padding n (by omega) _) rfl ?_
  rintro _ w_3 ⟨a_1, cap_2, rfl, hc_4, ho_5⟩
  have h_6 := h_00.gotRow hc_4 ho_5
  refine WL.buildSl (vs := [(0, (.slice a n cap)), (1, (.slice a_1 ((padL n).length) cap_2))]) (cs := [(.slice a n cap), (.slice a_1 ((padL n).length) cap_2)]) h_6 Try.underlying40 Try.sizeOf26 (zv Try.typeInfo26 rfl) rfl rfl (by kernel_rfl) rfl (by simp [Value.oneCell']) rfl rfl (fun b_7 w_8 h_9 => ?_)
  refine WL.call (al := [(.slice (some ⟨b_7, 0, none⟩) 2 2)]) Try.call53 rfl rfl (c_wJoin (some ⟨b_7, 0, none⟩) 2 2 [(.slice a n cap), (.slice a_1 ((padL n).length) cap_2)] [bs, padL n] rfl (by have hpl := padL_len n; simp only [List.flatten_cons, List.flatten_nil, List.length_append, List.length_nil]; omega) (by omega) _ (viewB (h_9.ok _ (.head _)) Sg.h) (Sls.cons hl (by omega) (viewV (h_9.ok _ (.tail _ (.tail _ (.head _))))) (Sls.cons (rfl : List.length (padL n) = (padL n).length) (h_9.own (.tail _ (.head _))).2.2.1 (ownView (h_9.ok _ (.tail _ (.head _)))) Sls.nil))) rfl ?_
  rintro _ w_12 ⟨a_10, cap_11, rfl, hc_13, ho_14⟩
  have h_15 := h_9.gotRow hc_13 ho_14
  refine WL.q (Wn.no rfl) rfl rfl (R.assign (v := (.slice a_10 ([bs, padL n].flatten.length) cap_11)) rfl) ?_
  refine WL.nil ?_
  refine thn_n ?_
  refine WP.ret ?_
  refine ret_of Try.results22 (RV.tmp (v := (.slice a_10 ([bs, padL n].flatten.length) cap_11)) rfl RV.nil) ?_
  have es : [bs, padL n].flatten = padded bs := pad_J hl
  have hown := h_15.own (.head _)
  rw [es] at hown
  exact ⟨_, _, by rw [es]; rfl, h_15.chgS, hown⟩

theorem c_PadR (a : Option Addr) (n cap : Nat) (bs : List UInt8) (hl : bs.length = n) (hn : n ≤ 1000000000000) (w : World) (hv : View w a (bs.map vu8)) :
    Cs Try.prog 23 [(.slice a n cap)].toArray w (fun v w1 => ∃ a cap, v = .slice a (padded bs).length cap ∧ Chg w w1 [] ∧ Own w.heap.size w1 5 1 a (padded bs).length cap ((padded bs).map vu8)) := by
  refine Cs.of (n := 35) (args := [(.slice a n cap)]) Try.func23 rfl rfl rfl ?_
  have h_0 := HP.init w
  have h_00 := h_0.old (View.arg hv) (fun f hf => by cases hf)
  refine WP.seq ?_
  refine WP.reg ?_
  refine WL.q (Wn.no rfl) rfl rfl (R.assign (v := (.slice none 0 0)) rfl) ?_
  refine WL.nil ?_
  refine thn_n ?_
  refine WP.seq ?_
  refine WP.reg ?_
  refine WL.q (Wn.no rfl) rfl rfl (R.move (v := (.slice a n cap)) rfl) ?_
  have h_1 := h_00.rowNil 5 1
  refine WL.append (km := n) (xs := []) (ys := bs.map vu8) (zs := (([] : List UInt8) ++ bs).map vu8) h_1 rfl rfl el26 (viewV (h_1.ok _ (.tail _ (.head _)))) ((len_map hl).trans (Nat.mul_one _).symm) (one_u8 _) (by simp only [List.map_append, List.map_nil]) (by omega) (by omega) (by omega) (fun _ _ => At.h) rfl (fun a_2 c_3 w_4 h_5 => ?_)
  refine WL.buildSl (vs := [(0, (vu8 128))]) (cs := ([128] : List UInt8).map vu8) h_5 Try.underlying26 Try.sizeOf5 (zv Try.typeInfo5 rfl) rfl rfl (by kernel_rfl) rfl (one_u8 _) rfl rfl (fun b_6 w_7 h_8 => ?_)
  refine WL.append (km := n + 1) (xs := (([] : List UInt8) ++ bs).map vu8) (ys := ([128] : List UInt8).map vu8) (zs := ((([] : List UInt8) ++ bs) ++ ([128] : List UInt8)).map vu8) h_8 rfl rfl el26 (viewB (h_8.ok _ (.head _)) Sg.h) ((len_map (rfl : List.length ([128] : List UInt8) = 1)).trans (Nat.mul_one _).symm) (one_u8 _) (by simp only [List.map_append, List.map_nil]) (by omega) (by omega) (by omega) (fun _ _ => (At.t At.h)) rfl (fun a_9 c_10 w_11 h_12 => ?_)
  refine WL.q (Wn.no rfl) rfl rfl (R.assign (v := (.slice a_9 (n + 1) c_10)) rfl) ?_
  refine WL.nil ?_
  refine thn_n ?_
  refine WP.seq ?_
  refine WP.block ?_
  have h_13 := h_12.up (Pick.t Pick.h)
  refine WP.loopG (G := Nat × Option Addr × Nat) [3, 10, 11, 12, 13, 14, 15, 16] (fun (z, ra, rc) => [(3, (.slice ra (n + 1 + z) rc))]) (fun (z, ra, rc) m w1 => HP w w1 [.row ra (n + 1 + z) rc 5 1 (((bs ++ ([128] : List UInt8)) ++ List.replicate z (0 : UInt8)).map vu8), .blk b_6 .nw 5 [(1, ([128] : List UInt8).map vu8)], .view a (bs.map vu8)] ∧ (z ≤ (119 - n % 64) % 64) ∧ m = 64 - z) ⟨(0, a_9, c_10), _, ⟨rfl, trivial⟩, (by rw [List.replicate_zero, List.append_nil]; exact h_13), (by omega), rfl⟩ ?_
  rintro ⟨z, ra, rc⟩ m_16 J_17 w_14 ⟨h_15, hz, rfl⟩
  refine WP.seq ?_
  refine WP.seq ?_
  refine WP.reg ?_
  refine WL.q (Wn.no rfl) rfl rfl (R.move (v := (.slice ra (n + 1 + z) rc)) rfl) ?_
  refine WL.q (Wn.no rfl) rfl rfl (R.lenS (a := ra) (m := n + 1 + z) rfl rfl Try.underlying26) ?_
  refine WL.q (Wn.no rfl) rfl rfl (R.bin (v := (vi (((n + 1 + z) % 64 : Nat) : Int))) rfl rfl (bi_rem (c := (((n + 1 + z) % 64 : Nat) : Int)) (Int.natCast_nonneg _) (by omega) (by first | omega | rfl))) ?_
  refine WL.q (Wn.no rfl) rfl rfl (R.bin (v := (.bool (decide (((((n + 1 + z) % 64 : Nat) : Int) : Int) ≠ 56)))) rfl rfl (bi_neq (r := decide (((((n + 1 + z) % 64 : Nat) : Int) : Int) ≠ 56)) rfl)) ?_
  refine WL.nil ?_
  refine thn_n ?_
  refine WP.cond (b := decide (((((n + 1 + z) % 64 : Nat) : Int) : Int) ≠ 56)) rfl (fun c_18 => ?_) (fun c_18 => ?_)
  · have p_19 := of_decide_eq_true c_18
    refine WP.skip ?_
    refine thn_n ?_
    refine WP.block ?_
    refine WP.reg ?_
    refine WL.q (Wn.no rfl) rfl rfl (R.move (v := (.slice ra (n + 1 + z) rc)) rfl) ?_
    refine WL.buildSl (vs := [(0, (vu8 0))]) (cs := ([0] : List UInt8).map vu8) h_15 Try.underlying26 Try.sizeOf5 (zv Try.typeInfo5 rfl) rfl rfl (by kernel_rfl) rfl (one_u8 _) rfl rfl (fun b_20 w_21 h_22 => ?_)
    refine WL.append (km := n + 1 + z + 1) (xs := ((bs ++ ([128] : List UInt8)) ++ List.replicate z (0 : UInt8)).map vu8) (ys := ([0] : List UInt8).map vu8) (zs := (((bs ++ ([128] : List UInt8)) ++ List.replicate z (0 : UInt8)) ++ ([0] : List UInt8)).map vu8) h_22 rfl rfl el26 (viewB (h_22.ok _ (.head _)) Sg.h) ((len_map (rfl : List.length ([0] : List UInt8) = 1)).trans (Nat.mul_one _).symm) (one_u8 _) (by simp only [List.map_append, List.map_nil]) (by omega) (by omega) (by omega) (fun _ _ => (At.t At.h)) rfl (fun a_23 c_24 w_25 h_26 => ?_)
    refine WL.q (Wn.no rfl) rfl rfl (R.assign (v := (.slice a_23 (n + 1 + z + 1) c_24)) rfl) ?_
    refine WL.nil ?_
    refine inb_n ?_
    refine thn_n ?_
    have h_27 := h_26.drop rfl
    have h_28 := h_27.up (Pick.t (Pick.t Pick.h))
    have h_29 := h_28.up (Pick.t (Pick.t Pick.h))
    have h_30 := h_29.up (Pick.t (Pick.t Pick.h))
    rw [List.append_assoc, zero_snoc] at h_30
    exact ⟨(z + 1, a_23, c_24), _, (by omega), (Ag.upd rfl (Ag.upd rfl (Ag.upd rfl (Ag.upd rfl (Ag.upd rfl (Ag.upd rfl (Ag.upd rfl (Ag.upd rfl (Ag.updL rfl (Ag.mix _ _ _)))))))))), ⟨rfl, trivial⟩, h_30, (by omega), rfl⟩
  · have p_31 := of_decide_eq_false c_18
    refine WP.exit ?_
    refine thn_x ?_
    refine thn_x ?_
    refine inb_hit ?_
    refine thn_n ?_
    refine WP.seq ?_
    refine WP.reg ?_
    refine WL.q (Wn.no rfl) rfl rfl (R.move (v := (.slice a n cap)) rfl) ?_
    refine WL.q (Wn.no rfl) rfl rfl (R.lenS (a := a) (m := n) rfl rfl Try.underlying26) ?_
    refine WL.q (Wn.no rfl) rfl rfl (R.conv (b := ((UInt64.ofNat n) : UInt64).toNat) rfl Try.underlying3 Try.underlying58 (w64_nat n)) ?_
    refine WL.q (Wn.no rfl) rfl rfl (R.bin (v := (vu64 (UInt64.ofNat (n * 8)))) rfl rfl ((b64_mul (UInt64.ofNat n) 8).trans (congrArg (fun x : UInt64 => some (vu64 x)) (mul8 n)))) ?_
    refine WL.q (Wn.no rfl) rfl rfl (R.assign (v := (vu64 (UInt64.ofNat (n * 8)))) rfl) ?_
    refine WL.nil ?_
    refine thn_n ?_
    refine WP.seq ?_
    refine WP.seq ?_
    refine WP.reg ?_
    refine WL.q (Wn.no rfl) rfl rfl (R.assign (v := (vi 7)) rfl) ?_
    refine WL.nil ?_
    refine thn_n ?_
    refine WP.block ?_
    have hz2 : z = (119 - n % 64) % 64 := by omega
    refine WP.loopG (G := Nat × Option Addr × Nat) [3, 5, 21, 22, 23, 24, 25, 26, 27, 28, 29, 30, 31, 32, 33] (fun (j, ra2, rc2) => [(3, (.slice ra2 (n + 1 + z + j) rc2)), (5, (vi (7 - (j : Int))))]) (fun (j, ra2, rc2) m w1 => HP w w1 [.row ra2 (n + 1 + z + j) rc2 5 1 ((((bs ++ ([128] : List UInt8)) ++ List.replicate z (0 : UInt8)) ++ ((leN 8 (UInt64.ofNat (n * 8)).toNat).reverse).take j).map vu8), .blk b_6 .nw 5 [(1, ([128] : List UInt8).map vu8)], .view a (bs.map vu8)] ∧ (j ≤ 8) ∧ m = 8 - j) ⟨(0, ra, rc), _, ⟨rfl, rfl, trivial⟩, (by rw [List.take_zero, List.append_nil]; exact h_15), (by omega), rfl⟩ ?_
    rintro ⟨j, ra2, rc2⟩ m_34 J_35 w_32 ⟨h_33, hj, rfl⟩
    have ek : j < 8 → (UInt64.ofNat (8 * (7 - j))).toNat = 8 * (7 - j) := fun _ => nat64 (by omega)
    refine WP.seq ?_
    refine WP.seq ?_
    refine WP.reg ?_
    refine WL.q (Wn.no rfl) rfl rfl (R.move (v := (vi (7 - (j : Int)))) rfl) ?_
    refine WL.q (Wn.no rfl) rfl rfl (R.bin (v := (.bool (decide ((7 - (j : Int) : Int) ≥ 0)))) rfl rfl (bi_geq (r := decide ((7 - (j : Int) : Int) ≥ 0)) rfl)) ?_
    refine WL.nil ?_
    refine thn_n ?_
    refine WP.cond (b := decide ((7 - (j : Int) : Int) ≥ 0)) rfl (fun c_36 => ?_) (fun c_36 => ?_)
    · have p_37 := of_decide_eq_true c_36
      refine WP.skip ?_
      refine thn_n ?_
      refine WP.seq ?_
      refine WP.block ?_
      refine WP.reg ?_
      refine WL.q (Wn.no rfl) rfl rfl (R.move (v := (.slice ra2 (n + 1 + z + j) rc2)) rfl) ?_
      refine WL.q (Wn.no rfl) rfl rfl (R.move (v := (vu64 (UInt64.ofNat (n * 8)))) rfl) ?_
      refine WL.q (Wn.no rfl) rfl rfl (R.move (v := (vi ((7 - j : Nat) : Int))) (congrArg vi (show (7 : Int) - (j : Int) = ((7 - j : Nat) : Int) by omega))) ?_
      refine WL.q (Wn.no rfl) rfl rfl (R.bin (v := (vi ((8 * (7 - j) : Nat) : Int))) rfl rfl (bi_mul (c := ((8 * (7 - j) : Nat) : Int)) (by omega) (by omega))) ?_
      refine WL.q (Wn.no rfl) rfl rfl (R.conv (b := ((UInt64.ofNat (8 * (7 - j))) : UInt64).toNat) rfl Try.underlying3 Try.underlying51 (w64_nat (8 * (7 - j)))) ?_
      refine WL.q (Wn.no rfl) rfl rfl (R.binR (v := vu64 (shr64 (UInt64.ofNat (n * 8)) ((UInt64.ofNat (8 * (7 - j))).toNat))) rfl rfl (run_shr64 _ _ _ (UInt64.ofNat (n * 8)) _ ((UInt64.ofNat (8 * (7 - j))).toNat))) ?_
      refine WL.q (Wn.no rfl) rfl rfl (R.conv (b := ((UInt8.ofNat ((shr64 (UInt64.ofNat (n * 8)) ((UInt64.ofNat (8 * (7 - j))).toNat)).toNat)) : UInt8).toNat) rfl Try.underlying58 Try.underlying5 (w8_nat ((shr64 (UInt64.ofNat (n * 8)) ((UInt64.ofNat (8 * (7 - j))).toNat)).toNat))) ?_
      refine WL.buildSl (vs := [(0, (vu8 (UInt8.ofNat ((shr64 (UInt64.ofNat (n * 8)) ((UInt64.ofNat (8 * (7 - j))).toNat)).toNat))))]) (cs := ([UInt8.ofNat ((shr64 (UInt64.ofNat (n * 8)) ((UInt64.ofNat (8 * (7 - j))).toNat)).toNat)] : List UInt8).map vu8) h_33 Try.underlying26 Try.sizeOf5 (zv Try.typeInfo5 rfl) rfl rfl (by kernel_rfl) rfl (one_u8 _) rfl rfl (fun b_38 w_39 h_40 => ?_)
      refine WL.append (km := n + 1 + z + j + 1) (xs := (((bs ++ ([128] : List UInt8)) ++ List.replicate z (0 : UInt8)) ++ ((leN 8 (UInt64.ofNat (n * 8)).toNat).reverse).take j).map vu8) (ys := ([UInt8.ofNat ((shr64 (UInt64.ofNat (n * 8)) ((UInt64.ofNat (8 * (7 - j))).toNat)).toNat)] : List UInt8).map vu8) (zs := ((((bs ++ ([128] : List UInt8)) ++ List.replicate z (0 : UInt8)) ++ ((leN 8 (UInt64.ofNat (n * 8)).toNat).reverse).take j) ++ ([UInt8.ofNat ((shr64 (UInt64.ofNat (n * 8)) ((UInt64.ofNat (8 * (7 - j))).toNat)).toNat)] : List UInt8)).map vu8) h_40 rfl rfl el26 (viewB (h_40.ok _ (.head _)) Sg.h) ((len_map (rfl : List.length ([UInt8.ofNat ((shr64 (UInt64.ofNat (n * 8)) ((UInt64.ofNat (8 * (7 - j))).toNat)).toNat)] : List UInt8) = 1)).trans (Nat.mul_one _).symm) (one_u8 _) (by simp only [List.map_append, List.map_nil]) (by omega) (by omega) (by omega) (fun _ _ => (At.t At.h)) rfl (fun a_41 c_42 w_43 h_44 => ?_)
      refine WL.q (Wn.no rfl) rfl rfl (R.assign (v := (.slice a_41 (n + 1 + z + j + 1) c_42)) rfl) ?_
      refine WL.nil ?_
      refine inb_n ?_
      refine thn_n ?_
      refine WP.reg ?_
      refine WL.q (Wn.no rfl) rfl rfl (R.move (v := (vi (7 - (j : Int)))) rfl) ?_
      refine WL.q (Wn.no rfl) rfl rfl (R.bin (v := (vi ((7 - (j : Int)) - 1))) rfl rfl (bi_sub (c := (7 - (j : Int)) - 1) (by omega) (by omega))) ?_
      refine WL.q (Wn.no rfl) rfl rfl (R.assign (v := (vi ((7 - (j : Int)) - 1))) rfl) ?_
      refine WL.nil ?_
      refine thn_n ?_
      have h_45 := h_44.drop rfl
      have h_46 := h_45.up (Pick.t (Pick.t Pick.h))
      have h_47 := h_46.up (Pick.t (Pick.t Pick.h))
      have h_48 := h_47.up (Pick.t (Pick.t Pick.h))
      rw [ek (by omega), List.append_assoc, rev8_snoc (by omega)] at h_48
      exact ⟨(j + 1, a_41, c_42), _, (by omega), (Ag.upd rfl (Ag.upd rfl (Ag.upd rfl (Ag.upd rfl (Ag.upd rfl (Ag.upd rfl (Ag.upd rfl (Ag.upd rfl (Ag.upd rfl (Ag.upd rfl (Ag.upd rfl (Ag.upd rfl (Ag.upd rfl (Ag.upd rfl (Ag.upd rfl (Ag.updL rfl (Ag.mix _ _ _))))))))))))))))), ⟨rfl, congrArg vi (by omega), trivial⟩, h_48, (by omega), rfl⟩
    · have p_49 := of_decide_eq_false c_36
      refine WP.exit ?_
      refine thn_x ?_
      refine thn_x ?_
      refine inb_hit ?_
      refine thn_n ?_
      refine WP.seq ?_
      refine WP.reg ?_
      refine WL.q (Wn.no rfl) rfl rfl (R.move (v := (.slice ra2 (n + 1 + z + j) rc2)) rfl) ?_
      refine WL.q (Wn.no rfl) rfl rfl (R.assign (v := (.slice ra2 (n + 1 + z + j) rc2)) rfl) ?_
      refine WL.nil ?_
      refine thn_n ?_
      refine WP.ret ?_
      refine ret_of Try.results23 (RV.tmp (v := (.slice ra2 (n + 1 + z + j) rc2)) rfl RV.nil) ?_
      have hj8 : j = 8 := by omega
      subst hj8
      have es := pad_R (z := z) hl hz2 (by omega)
      have hp2 := padded_len2 bs
      rw [hl] at hp2
      have el : n + 1 + z + 8 = (padded bs).length := by omega
      have hown := h_33.own (.head _)
      rw [es, el] at hown
      exact ⟨_, _, by rw [el]; rfl, h_33.chgS, hown⟩
end Go.Proofs.Ytelkjcigdhgcoaa
