/- Words and turned bytes: contracts. Conditions: those that each theorem states. -/
import Derived.Test.YtcmgadjnammahaaT6
namespace Go.Proofs.Ytcmgadjnammahaa
open Go.Vc Go.RowKit
set_option linter.unusedVariables false
set_option linter.unusedSimpArgs false
set_option maxRecDepth 20000

theorem win_lt {bs : List UInt8} {m k : Nat} (hk : 1 ≤ k) (hk8 : k ≤ 8) (h : m + (k - 1) < bs.length) : (bs.drop (m + (k - 1))).take (8 - (k - 1)) = bs.getD (m + (k - 1)) 0 :: (bs.drop (m + k)).take (8 - k) := by
  rw [List.drop_eq_getElem_cons h, show 8 - (k - 1) = 8 - k + 1 by omega, List.take_succ_cons, show m + (k - 1) + 1 = m + k by omega]
  simp [h]
theorem win_ge {bs : List UInt8} {m k : Nat} (h : bs.length ≤ m) : (bs.drop m).take k = [] := by
  rw [List.drop_of_length_le h, List.take_nil]
theorem rev_snoc {bs : List UInt8} {k : Nat} (h1 : 1 ≤ k) (h : k ≤ bs.length) : (bs.drop k).reverse ++ ([bs.getD (k - 1) 0] : List UInt8) = (bs.drop (k - 1)).reverse := by
  rw [drop_lt h1 h, List.reverse_cons]
theorem c_Word (a : Option Addr) (n cap : Nat) (bs : List UInt8) (hl : bs.length = n) (i : Nat) (hn : n ≤ 9007199254740992) (w : World) (hv : View w a (bs.map vu8)) (hcap : n ≤ cap) :
    Cs Try.prog 45 [(.slice a n cap), (vi ((i : Nat) : Int))].toArray w (fun v w1 => v = vu64 (wordB bs i) ∧ Chg w w1 []) := by
  refine Cs.of (n := 28) (args := [(.slice a n cap), (vi ((i : Nat) : Int))]) Try.func45 rfl rfl rfl ?_
  have h_0 := HP.init w
  have h_00 := h_0.old (View.arg hv) (fun f hf => by cases hf)
  refine WP.seq ?_
  refine WP.reg ?_
  refine WL.q (Wn.no rfl) rfl rfl (R.assign (v := (vu64 0)) rfl) ?_
  refine WL.nil ?_
  refine thn_n ?_
  refine WP.seq ?_
  refine WP.seq ?_
  refine WP.reg ?_
  refine WL.q (Wn.no rfl) rfl rfl (R.move (v := (vi ((i : Nat) : Int))) rfl) ?_
  refine WL.q (Wn.no rfl) rfl rfl (R.bin (v := (.bool (decide ((((i : Nat) : Int) : Int) < 0)))) rfl rfl (bi_lss (r := decide ((((i : Nat) : Int) : Int) < 0)) rfl)) ?_
  refine WL.q (Wn.no rfl) rfl rfl (R.move (v := (.bool (decide ((((i : Nat) : Int) : Int) < 0)))) rfl) ?_
  refine WL.want rfl (congrArg Value.bool (decide_eq_false (by omega))) ?_
  refine WL.q (Wn.no rfl) rfl rfl (R.move (v := (vi ((i : Nat) : Int))) rfl) ?_
  refine WL.want rfl (congrArg Value.bool (decide_eq_false (by omega))) ?_
  refine WL.q (Wn.no rfl) rfl rfl (R.move (v := (.slice a n cap)) rfl) ?_
  refine WL.want rfl (congrArg Value.bool (decide_eq_false (by omega))) ?_
  refine WL.q (Wn.no rfl) rfl rfl (R.lenS (a := a) (m := n) rfl rfl Try.underlying23) ?_
  refine WL.want rfl (congrArg Value.bool (decide_eq_false (by omega))) ?_
  refine WL.q (Wn.no rfl) rfl rfl (R.bin (v := (.bool (decide ((((i : Nat) : Int) : Int) ≥ ((n : Nat) : Int))))) rfl rfl (bi_geq (r := decide ((((i : Nat) : Int) : Int) ≥ ((n : Nat) : Int))) rfl)) ?_
  refine WL.q (Wn.no rfl) rfl rfl (R.pickF (v := (.bool (decide ((((i : Nat) : Int) : Int) ≥ ((n : Nat) : Int))))) (congrArg Value.bool (decide_eq_false (by omega))) rfl) ?_
  refine WL.nil ?_
  refine thn_n ?_
  refine WP.cond (b := decide ((((i : Nat) : Int) : Int) ≥ ((n : Nat) : Int))) rfl (fun c_1 => ?_) (fun c_1 => ?_)
  · have p_2 := of_decide_eq_true c_1
    refine WP.seq ?_
    refine WP.reg ?_
    refine WL.q (Wn.no rfl) rfl rfl (R.assign (v := (vu64 0)) rfl) ?_
    refine WL.nil ?_
    refine thn_n ?_
    refine WP.ret ?_
    refine thn_r ?_
    refine ret_of Try.results45 (RV.tmp (v := (vu64 0)) rfl RV.nil) ?_
    exact ⟨by rw [word_none hl (by omega)]; rfl, h_00.chgS⟩
  · have p_3 := of_decide_eq_false c_1
    refine WP.skip ?_
    refine thn_n ?_
    refine WP.seq ?_
    refine WP.reg ?_
    refine WL.q (Wn.no rfl) rfl rfl (R.move (v := (vi ((i : Nat) : Int))) rfl) ?_
    refine WL.q (Wn.no rfl) rfl rfl (R.bin (v := (vi ((8 * i : Nat) : Int))) rfl rfl (bi_mul (c := ((8 * i : Nat) : Int)) (by omega) (by omega))) ?_
    refine WL.q (Wn.no rfl) rfl rfl (R.move (v := (.slice a n cap)) rfl) ?_
    refine WL.q (Wn.no rfl) rfl rfl (R.lenS (a := a) (m := n) rfl rfl Try.underlying23) ?_
    refine WL.q (Wn.no rfl) rfl rfl (R.minI (c := ((min (8 * i) n : Nat) : Int)) rfl rfl (by split <;> omega)) ?_
    refine WL.q (Wn.no rfl) rfl rfl (R.assign (v := (vi ((min (8 * i) n : Nat) : Int))) rfl) ?_
    refine WL.nil ?_
    refine thn_n ?_
    refine WP.seq ?_
    refine WP.reg ?_
    refine WL.q (Wn.no rfl) rfl rfl (R.move (v := (.slice a n cap)) rfl) ?_
    refine WL.q (Wn.no rfl) rfl rfl (R.move (v := (vi ((min (8 * i) n : Nat) : Int))) rfl) ?_
    refine WL.q (Wn.no rfl) rfl rfl (R.move (v := (vi ((min (8 * i) n : Nat) : Int))) rfl) ?_
    refine WL.q (Wn.no rfl) rfl rfl (R.bin (v := (vi ((min (8 * i) n + 8 : Nat) : Int))) rfl rfl (bi_add (c := ((min (8 * i) n + 8 : Nat) : Int)) (by omega) (by omega))) ?_
    refine WL.q (Wn.no rfl) rfl rfl (R.move (v := (.slice a n cap)) rfl) ?_
    refine WL.q (Wn.no rfl) rfl rfl (R.lenS (a := a) (m := n) rfl rfl Try.underlying23) ?_
    refine WL.q (Wn.no rfl) rfl rfl (R.minI (c := ((min (min (8 * i) n + 8) n : Nat) : Int)) rfl rfl (by split <;> omega)) ?_
    refine WL.q (Wn.no rfl) rfl rfl (R.sliceS (a := a) (len := n) (l := min (8 * i) n) (h := min (min (8 * i) n + 8) n) rfl (EvB.it (l := min (8 * i) n) rfl rfl) (EvB.it (l := min (min (8 * i) n + 8) n) rfl rfl) (by omega) (by omega) Try.underlying23 Try.sizeOf5) ?_
    refine WL.call (al := [(.slice (slA a (min (8 * i) n) cap 1) (min (min (8 * i) n + 8) n - (min (8 * i) n)) (cap - (min (8 * i) n)))]) Try.call64 rfl rfl (c_get (slA a (min (8 * i) n) cap 1) (min (min (8 * i) n + 8) n - (min (8 * i) n)) (cap - (min (8 * i) n)) ((bs.drop (min (8 * i) n)).take (min (min (8 * i) n + 8) n - (min (8 * i) n))) (subLen (K := n) hl (by omega) : List.length ((bs.drop (min (8 * i) n)).take (min (min (8 * i) n + 8) n - (min (8 * i) n))) = min (min (8 * i) n + 8) n - (min (8 * i) n)) (by omega) _ (View.slM (l := min (8 * i) n) (m := cap) (k := min (min (8 * i) n + 8) n - (min (8 * i) n)) (viewV (h_00.ok _ (.head _))) (by omega))) rfl ?_
    rintro _ w_5 ⟨rfl, hc_4⟩
    have h_6 := h_00.same hc_4
    refine WL.q (Wn.no rfl) rfl rfl (R.assign (v := (vu64 (UInt64.ofNat (natLE ((bs.drop (min (8 * i) n)).take (min (min (8 * i) n + 8) n - (min (8 * i) n))))))) rfl) ?_
    refine WL.nil ?_
    refine thn_n ?_
    refine WP.ret ?_
    refine ret_of Try.results45 (RV.tmp (v := (vu64 (UInt64.ofNat (natLE ((bs.drop (min (8 * i) n)).take (min (min (8 * i) n + 8) n - (min (8 * i) n))))))) rfl RV.nil) ?_
    exact ⟨by rw [wordB, ← word_cut hl]; rfl, h_6.chgS⟩

theorem c_WordR (a : Option Addr) (n cap : Nat) (bs : List UInt8) (hl : bs.length = n) (i : Nat) (hn : n ≤ 9007199254740992) (w : World) (hv : View w a (bs.map vu8)) :
    Cs Try.prog 46 [(.slice a n cap), (vi ((i : Nat) : Int))].toArray w (fun v w1 => v = vu64 (wordB bs i) ∧ Chg w w1 []) := by
  refine Cs.of (n := 39) (args := [(.slice a n cap), (vi ((i : Nat) : Int))]) Try.func46 rfl rfl rfl ?_
  have h_0 := HP.init w
  have h_00 := h_0.old (View.arg hv) (fun f hf => by cases hf)
  refine WP.seq ?_
  refine WP.reg ?_
  refine WL.q (Wn.no rfl) rfl rfl (R.assign (v := (vu64 0)) rfl) ?_
  refine WL.nil ?_
  refine thn_n ?_
  refine WP.seq ?_
  refine WP.seq ?_
  refine WP.reg ?_
  refine WL.q (Wn.no rfl) rfl rfl (R.move (v := (vi ((i : Nat) : Int))) rfl) ?_
  refine WL.q (Wn.no rfl) rfl rfl (R.bin (v := (.bool (decide ((((i : Nat) : Int) : Int) < 0)))) rfl rfl (bi_lss (r := decide ((((i : Nat) : Int) : Int) < 0)) rfl)) ?_
  refine WL.q (Wn.no rfl) rfl rfl (R.move (v := (.bool (decide ((((i : Nat) : Int) : Int) < 0)))) rfl) ?_
  refine WL.want rfl (congrArg Value.bool (decide_eq_false (by omega))) ?_
  refine WL.q (Wn.no rfl) rfl rfl (R.move (v := (vi ((i : Nat) : Int))) rfl) ?_
  refine WL.want rfl (congrArg Value.bool (decide_eq_false (by omega))) ?_
  refine WL.q (Wn.no rfl) rfl rfl (R.move (v := (.slice a n cap)) rfl) ?_
  refine WL.want rfl (congrArg Value.bool (decide_eq_false (by omega))) ?_
  refine WL.q (Wn.no rfl) rfl rfl (R.lenS (a := a) (m := n) rfl rfl Try.underlying23) ?_
  refine WL.want rfl (congrArg Value.bool (decide_eq_false (by omega))) ?_
  refine WL.q (Wn.no rfl) rfl rfl (R.bin (v := (.bool (decide ((((i : Nat) : Int) : Int) ≥ ((n : Nat) : Int))))) rfl rfl (bi_geq (r := decide ((((i : Nat) : Int) : Int) ≥ ((n : Nat) : Int))) rfl)) ?_
  refine WL.q (Wn.no rfl) rfl rfl (R.pickF (v := (.bool (decide ((((i : Nat) : Int) : Int) ≥ ((n : Nat) : Int))))) (congrArg Value.bool (decide_eq_false (by omega))) rfl) ?_
  refine WL.nil ?_
  refine thn_n ?_
  refine WP.cond (b := decide ((((i : Nat) : Int) : Int) ≥ ((n : Nat) : Int))) rfl (fun c_1 => ?_) (fun c_1 => ?_)
  · have p_2 := of_decide_eq_true c_1
    refine WP.seq ?_
    refine WP.reg ?_
    refine WL.q (Wn.no rfl) rfl rfl (R.assign (v := (vu64 0)) rfl) ?_
    refine WL.nil ?_
    refine thn_n ?_
    refine WP.ret ?_
    refine thn_r ?_
    refine ret_of Try.results46 (RV.tmp (v := (vu64 0)) rfl RV.nil) ?_
    exact ⟨by rw [word_none hl (by omega)]; rfl, h_00.chgS⟩
  · have p_3 := of_decide_eq_false c_1
    refine WP.skip ?_
    refine thn_n ?_
    refine WP.seq ?_
    refine WP.reg ?_
    refine WL.q (Wn.no rfl) rfl rfl (R.assign (v := (vu64 0)) rfl) ?_
    refine WL.nil ?_
    refine thn_n ?_
    refine WP.seq ?_
    refine WP.seq ?_
    refine WP.reg ?_
    refine WL.q (Wn.no rfl) rfl rfl (R.assign (v := (vi 7)) rfl) ?_
    refine WL.nil ?_
    refine thn_n ?_
    refine WP.block ?_
    refine WP.loopG (G := Nat) [5, 6, 15, 16, 17, 18, 19, 20, 21, 22, 23, 24, 25, 26, 27, 28, 29, 30, 31, 32, 33, 34, 35, 36, 37] (fun k => [(5, (vu64 (UInt64.ofNat (natLE ((bs.drop (8 * i + k)).take (8 - k)))))), (6, (vi (((k : Nat) : Int) - 1)))]) (fun k m w1 => HP w w1 [.view a (bs.map vu8)] ∧ (k ≤ 8) ∧ m = 8 + k) ⟨8, _, ⟨congrArg (fun x : UInt64 => vu64 x) (by rw [Nat.sub_self, List.take_zero]; rfl), rfl, trivial⟩, h_00, (Nat.le_refl 8), rfl⟩ ?_
    rintro k m_6 J_7 w_4 ⟨h_5, hk, rfl⟩
    refine WP.seq ?_
    refine WP.seq ?_
    refine WP.reg ?_
    refine WL.q (Wn.no rfl) rfl rfl (R.move (v := (vi (((k : Nat) : Int) - 1))) rfl) ?_
    refine WL.q (Wn.no rfl) rfl rfl (R.bin (v := (.bool (decide ((((k : Nat) : Int) - 1 : Int) ≥ 0)))) rfl rfl (bi_geq (r := decide ((((k : Nat) : Int) - 1 : Int) ≥ 0)) rfl)) ?_
    refine WL.nil ?_
    refine thn_n ?_
    refine WP.cond (b := decide ((((k : Nat) : Int) - 1 : Int) ≥ 0)) rfl (fun c_8 => ?_) (fun c_8 => ?_)
    · have p_9 := of_decide_eq_true c_8
      refine WP.skip ?_
      refine thn_n ?_
      refine WP.seq ?_
      refine WP.block ?_
      refine WP.seq ?_
      refine WP.reg ?_
      refine WL.q (Wn.no rfl) rfl rfl (R.move (v := (vu64 (UInt64.ofNat (natLE ((bs.drop (8 * i + k)).take (8 - k)))))) rfl) ?_
      refine WL.q (Wn.no rfl) rfl rfl (R.bin (v := (vu64 ((UInt64.ofNat (natLE ((bs.drop (8 * i + k)).take (8 - k)))) * 256))) rfl rfl (b64_mul (UInt64.ofNat (natLE ((bs.drop (8 * i + k)).take (8 - k)))) 256)) ?_
      refine WL.q (Wn.no rfl) rfl rfl (R.assign (v := (vu64 ((UInt64.ofNat (natLE ((bs.drop (8 * i + k)).take (8 - k)))) * 256))) rfl) ?_
      refine WL.nil ?_
      refine thn_n ?_
      refine WP.seq ?_
      refine WP.reg ?_
      refine WL.q (Wn.no rfl) rfl rfl (R.move (v := (vi ((i : Nat) : Int))) rfl) ?_
      refine WL.q (Wn.no rfl) rfl rfl (R.bin (v := (vi ((8 * i : Nat) : Int))) rfl rfl (bi_mul (c := ((8 * i : Nat) : Int)) (by omega) (by omega))) ?_
      refine WL.q (Wn.no rfl) rfl rfl (R.move (v := (vi (((k : Nat) : Int) - 1))) rfl) ?_
      refine WL.q (Wn.no rfl) rfl rfl (R.bin (v := (vi ((8 * i + (k - 1) : Nat) : Int))) rfl rfl (bi_add (c := ((8 * i + (k - 1) : Nat) : Int)) (by omega) (by omega))) ?_
      refine WL.q (Wn.no rfl) rfl rfl (R.move (v := (.slice a n cap)) rfl) ?_
      refine WL.q (Wn.no rfl) rfl rfl (R.lenS (a := a) (m := n) rfl rfl Try.underlying23) ?_
      refine WL.q (Wn.no rfl) rfl rfl (R.bin (v := (.bool (decide ((((8 * i + (k - 1) : Nat) : Int) : Int) < ((n : Nat) : Int))))) rfl rfl (bi_lss (r := decide ((((8 * i + (k - 1) : Nat) : Int) : Int) < ((n : Nat) : Int))) rfl)) ?_
      refine WL.nil ?_
      refine thn_n ?_
      refine WP.cond (b := decide ((((8 * i + (k - 1) : Nat) : Int) : Int) < ((n : Nat) : Int))) rfl (fun c_10 => ?_) (fun c_10 => ?_)
      · have p_11 := of_decide_eq_true c_10
        refine WP.reg ?_
        refine WL.q (Wn.no rfl) rfl rfl (R.move (v := (vu64 ((UInt64.ofNat (natLE ((bs.drop (8 * i + k)).take (8 - k)))) * 256))) rfl) ?_
        refine WL.q (Wn.no rfl) rfl rfl (R.move (v := (.slice a n cap)) rfl) ?_
        refine WL.q (Wn.no rfl) rfl rfl (R.move (v := (vi ((i : Nat) : Int))) rfl) ?_
        refine WL.q (Wn.no rfl) rfl rfl (R.bin (v := (vi ((8 * i : Nat) : Int))) rfl rfl (bi_mul (c := ((8 * i : Nat) : Int)) (by omega) (by omega))) ?_
        refine WL.q (Wn.no rfl) rfl rfl (R.move (v := (vi (((k : Nat) : Int) - 1))) rfl) ?_
        refine WL.q (Wn.no rfl) rfl rfl (R.bin (v := (vi ((8 * i + (k - 1) : Nat) : Int))) rfl rfl (bi_add (c := ((8 * i + (k - 1) : Nat) : Int)) (by omega) (by omega))) ?_
        refine WL.q (Wn.no rfl) rfl rfl (R.indexS (a := a) (i := 8 * i + (k - 1)) (off := 8 * i + (k - 1)) (xs := bs.map vu8) rfl rfl rfl (by omega) (viewV (h_5.ok _ (.head _))) (lt_len (K := n) (len_map hl) (by omega)) Try.underlying23 Try.sizeOf5 (Nat.mul_one _).symm) ?_
        refine WL.q (Wn.no rfl) rfl rfl (R.loadG (a := a) (i := 8 * i + (k - 1)) (xs := bs.map vu8) (v := (vu8 (bs.getD (8 * i + (k - 1)) 0))) rfl (viewV (h_5.ok _ (.head _))) Try.isAgg5 (get_u8 (lt_len (K := n) hl (by omega)))) ?_
        refine WL.q (Wn.no rfl) rfl rfl (R.conv (b := ((UInt64.ofNat ((bs.getD (8 * i + (k - 1)) 0).toNat)) : UInt64).toNat) rfl Try.underlying5 Try.underlying22 (w64_nat ((bs.getD (8 * i + (k - 1)) 0).toNat))) ?_
        refine WL.q (Wn.no rfl) rfl rfl (R.bin (v := (vu64 (((UInt64.ofNat (natLE ((bs.drop (8 * i + k)).take (8 - k)))) * 256) + (UInt64.ofNat ((bs.getD (8 * i + (k - 1)) 0).toNat))))) rfl rfl (b64_add ((UInt64.ofNat (natLE ((bs.drop (8 * i + k)).take (8 - k)))) * 256) (UInt64.ofNat ((bs.getD (8 * i + (k - 1)) 0).toNat)))) ?_
        refine WL.q (Wn.no rfl) rfl rfl (R.assign (v := (vu64 (((UInt64.ofNat (natLE ((bs.drop (8 * i + k)).take (8 - k)))) * 256) + (UInt64.ofNat ((bs.getD (8 * i + (k - 1)) 0).toNat))))) rfl) ?_
        refine WL.nil ?_
        refine inb_n ?_
        refine thn_n ?_
        refine WP.reg ?_
        refine WL.q (Wn.no rfl) rfl rfl (R.move (v := (vi (((k : Nat) : Int) - 1))) rfl) ?_
        refine WL.q (Wn.no rfl) rfl rfl (R.bin (v := (vi ((((k : Nat) : Int) - 1) - 1))) rfl rfl (bi_sub (c := (((k : Nat) : Int) - 1) - 1) (by omega) (by omega))) ?_
        refine WL.q (Wn.no rfl) rfl rfl (R.assign (v := (vi ((((k : Nat) : Int) - 1) - 1))) rfl) ?_
        refine WL.nil ?_
        refine thn_n ?_
        exact ⟨k - 1, _, (by omega), (Ag.upd rfl (Ag.upd rfl (Ag.upd rfl (Ag.upd rfl (Ag.upd rfl (Ag.upd rfl (Ag.upd rfl (Ag.upd rfl (Ag.upd rfl (Ag.upd rfl (Ag.upd rfl (Ag.upd rfl (Ag.upd rfl (Ag.upd rfl (Ag.upd rfl (Ag.upd rfl (Ag.upd rfl (Ag.upd rfl (Ag.upd rfl (Ag.upd rfl (Ag.upd rfl (Ag.upd rfl (Ag.upd rfl (Ag.upd rfl (Ag.upd rfl (Ag.upd rfl (Ag.updL rfl (Ag.mix _ _ _)))))))))))))))))))))))))))), ⟨congrArg (fun x : UInt64 => vu64 x) (by rw [win_lt (by omega) (by omega) (by omega), ← mul_byte _ (by simp only [List.length_take, List.length_drop]; omega)]), congrArg vi (by omega), trivial⟩, h_5, (by omega), rfl⟩
      · have p_12 := of_decide_eq_false c_10
        refine WP.skip ?_
        refine inb_n ?_
        refine thn_n ?_
        refine WP.reg ?_
        refine WL.q (Wn.no rfl) rfl rfl (R.move (v := (vi (((k : Nat) : Int) - 1))) rfl) ?_
        refine WL.q (Wn.no rfl) rfl rfl (R.bin (v := (vi ((((k : Nat) : Int) - 1) - 1))) rfl rfl (bi_sub (c := (((k : Nat) : Int) - 1) - 1) (by omega) (by omega))) ?_
        refine WL.q (Wn.no rfl) rfl rfl (R.assign (v := (vi ((((k : Nat) : Int) - 1) - 1))) rfl) ?_
        refine WL.nil ?_
        refine thn_n ?_
        exact ⟨k - 1, _, (by omega), (Ag.upd rfl (Ag.upd rfl (Ag.upd rfl (Ag.upd rfl (Ag.upd rfl (Ag.upd rfl (Ag.upd rfl (Ag.upd rfl (Ag.upd rfl (Ag.upd rfl (Ag.upd rfl (Ag.upd rfl (Ag.upd rfl (Ag.upd rfl (Ag.upd rfl (Ag.updL rfl (Ag.mix _ _ _))))))))))))))))), ⟨congrArg (fun x : UInt64 => vu64 x) (by rw [win_ge (by omega), win_ge (by omega)]; rfl), congrArg vi (by omega), trivial⟩, h_5, (by omega), rfl⟩
    · have p_13 := of_decide_eq_false c_8
      refine WP.exit ?_
      refine thn_x ?_
      refine thn_x ?_
      refine inb_hit ?_
      refine thn_n ?_
      refine WP.seq ?_
      refine WP.reg ?_
      refine WL.q (Wn.no rfl) rfl rfl (R.move (v := (vu64 (UInt64.ofNat (natLE ((bs.drop (8 * i + k)).take (8 - k)))))) rfl) ?_
      refine WL.q (Wn.no rfl) rfl rfl (R.assign (v := (vu64 (UInt64.ofNat (natLE ((bs.drop (8 * i + k)).take (8 - k)))))) rfl) ?_
      refine WL.nil ?_
      refine thn_n ?_
      refine WP.ret ?_
      refine ret_of Try.results46 (RV.tmp (v := (vu64 (UInt64.ofNat (natLE ((bs.drop (8 * i + k)).take (8 - k)))))) rfl RV.nil) ?_
      have hk0 : k = 0 := by omega
      subst hk0
      exact ⟨rfl, h_5.chgS⟩

theorem c_Word_neg (a : Option Addr) (n cap : Nat) (bs : List UInt8) (hl : bs.length = n) (i : Int) (h : i < 0) (w : World) (hv : View w a (bs.map vu8)) :
    Cs Try.prog 45 [(.slice a n cap), (vi i)].toArray w (fun v w1 => v = vu64 0 ∧ Chg w w1 []) := by
  refine Cs.of (n := 28) (args := [(.slice a n cap), (vi i)]) Try.func45 rfl rfl rfl ?_
  have h_0 := HP.init w
  have h_00 := h_0.old (View.arg hv) (fun f hf => by cases hf)
  refine WP.seq ?_
  refine WP.reg ?_
  refine WL.q (Wn.no rfl) rfl rfl (R.assign (v := (vu64 0)) rfl) ?_
  refine WL.nil ?_
  refine thn_n ?_
  refine WP.seq ?_
  refine WP.seq ?_
  refine WP.reg ?_
  refine WL.q (Wn.no rfl) rfl rfl (R.move (v := (vi i)) rfl) ?_
  refine WL.q (Wn.no rfl) rfl rfl (R.bin (v := (.bool (decide ((i : Int) < 0)))) rfl rfl (bi_lss (r := decide ((i : Int) < 0)) rfl)) ?_
  refine WL.q (Wn.no rfl) rfl rfl (R.move (v := (.bool (decide ((i : Int) < 0)))) rfl) ?_
  refine WL.skip rfl (congrArg Value.bool (decide_eq_true (by omega))) rfl ?_
  refine WL.skip rfl (congrArg Value.bool (decide_eq_true (by omega))) rfl ?_
  refine WL.skip rfl (congrArg Value.bool (decide_eq_true (by omega))) rfl ?_
  refine WL.skip rfl (congrArg Value.bool (decide_eq_true (by omega))) rfl ?_
  refine WL.q (Wn.no rfl) rfl rfl (R.pickT (v := (.bool true)) (congrArg Value.bool (decide_eq_true (by omega))) rfl) ?_
  refine WL.nil ?_
  refine thn_n ?_
  refine WP.condT rfl ?_
  refine WP.seq ?_
  refine WP.reg ?_
  refine WL.q (Wn.no rfl) rfl rfl (R.assign (v := (vu64 0)) rfl) ?_
  refine WL.nil ?_
  refine thn_n ?_
  refine WP.ret ?_
  refine thn_r ?_
  refine ret_of Try.results45 (RV.tmp (v := (vu64 0)) rfl RV.nil) ?_
  exact ⟨rfl, h_00.chgS⟩

theorem c_WordR_neg (a : Option Addr) (n cap : Nat) (bs : List UInt8) (hl : bs.length = n) (i : Int) (h : i < 0) (w : World) (hv : View w a (bs.map vu8)) :
    Cs Try.prog 46 [(.slice a n cap), (vi i)].toArray w (fun v w1 => v = vu64 0 ∧ Chg w w1 []) := by
  refine Cs.of (n := 39) (args := [(.slice a n cap), (vi i)]) Try.func46 rfl rfl rfl ?_
  have h_0 := HP.init w
  have h_00 := h_0.old (View.arg hv) (fun f hf => by cases hf)
  refine WP.seq ?_
  refine WP.reg ?_
  refine WL.q (Wn.no rfl) rfl rfl (R.assign (v := (vu64 0)) rfl) ?_
  refine WL.nil ?_
  refine thn_n ?_
  refine WP.seq ?_
  refine WP.seq ?_
  refine WP.reg ?_
  refine WL.q (Wn.no rfl) rfl rfl (R.move (v := (vi i)) rfl) ?_
  refine WL.q (Wn.no rfl) rfl rfl (R.bin (v := (.bool (decide ((i : Int) < 0)))) rfl rfl (bi_lss (r := decide ((i : Int) < 0)) rfl)) ?_
  refine WL.q (Wn.no rfl) rfl rfl (R.move (v := (.bool (decide ((i : Int) < 0)))) rfl) ?_
  refine WL.skip rfl (congrArg Value.bool (decide_eq_true (by omega))) rfl ?_
  refine WL.skip rfl (congrArg Value.bool (decide_eq_true (by omega))) rfl ?_
  refine WL.skip rfl (congrArg Value.bool (decide_eq_true (by omega))) rfl ?_
  refine WL.skip rfl (congrArg Value.bool (decide_eq_true (by omega))) rfl ?_
  refine WL.q (Wn.no rfl) rfl rfl (R.pickT (v := (.bool true)) (congrArg Value.bool (decide_eq_true (by omega))) rfl) ?_
  refine WL.nil ?_
  refine thn_n ?_
  refine WP.condT rfl ?_
  refine WP.seq ?_
  refine WP.reg ?_
  refine WL.q (Wn.no rfl) rfl rfl (R.assign (v := (vu64 0)) rfl) ?_
  refine WL.nil ?_
  refine thn_n ?_
  refine WP.ret ?_
  refine thn_r ?_
  refine ret_of Try.results46 (RV.tmp (v := (vu64 0)) rfl RV.nil) ?_
  exact ⟨rfl, h_00.chgS⟩

theorem c_TurnedR (a : Option Addr) (n cap : Nat) (bs : List UInt8) (hl : bs.length = n) (hn : n ≤ 1099511627776) (w : World) (hv : View w a (bs.map vu8)) :
    Cs Try.prog 44 [(.slice a n cap)].toArray w (fun v w1 => ∃ a cap, v = .slice a n cap ∧ Chg w w1 [] ∧ Own w.heap.size w1 5 1 a n cap ((bs.reverse).map vu8)) := by
  refine Cs.of (n := 20) (args := [(.slice a n cap)]) Try.func44 rfl rfl rfl ?_
  have h_0 := HP.init w
  have h_00 := h_0.old (View.arg hv) (fun f hf => by cases hf)
  refine WP.seq ?_
  refine WP.reg ?_
  refine WL.q (Wn.no rfl) rfl rfl (R.assign (v := (.slice none 0 0)) rfl) ?_
  refine WL.nil ?_
  refine thn_n ?_
  refine WP.seq ?_
  refine WP.reg ?_
  refine WL.q (Wn.no rfl) rfl rfl (R.assign (v := (.slice none 0 0)) rfl) ?_
  refine WL.nil ?_
  refine thn_n ?_
  refine WP.seq ?_
  refine WP.seq ?_
  refine WP.reg ?_
  refine WL.q (Wn.no rfl) rfl rfl (R.move (v := (.slice a n cap)) rfl) ?_
  refine WL.q (Wn.no rfl) rfl rfl (R.lenS (a := a) (m := n) rfl rfl Try.underlying23) ?_
  refine WL.q (Wn.no rfl) rfl rfl (R.bin (v := (vi ((n : Int) - 1))) rfl rfl (bi_sub (c := (n : Int) - 1) (by omega) (by omega))) ?_
  refine WL.q (Wn.no rfl) rfl rfl (R.assign (v := (vi ((n : Int) - 1))) rfl) ?_
  refine WL.nil ?_
  refine thn_n ?_
  refine WP.block ?_
  have h_1 := h_00.rowNil 5 1
  refine WP.loopG (G := Nat × Option Addr × Nat) [3, 4, 8, 9, 10, 11, 12, 13, 14, 15, 16, 17, 18] (fun (k, ra, rc) => [(3, (.slice ra (n - k) rc)), (4, (vi (((k : Nat) : Int) - 1)))]) (fun (k, ra, rc) m w1 => HP w w1 [.row ra (n - k) rc 5 1 (((bs.drop k).reverse).map vu8), .view a (bs.map vu8)] ∧ (k ≤ n) ∧ m = k + 1) ⟨(n, none, 0), _, ⟨by rw [Nat.sub_self]; rfl, congrArg vi (by omega), trivial⟩, (by rw [Nat.sub_self, List.drop_of_length_le (by omega)]; exact h_1), (Nat.le_refl n), rfl⟩ ?_
  rintro ⟨k, ra, rc⟩ m_4 J_5 w_2 ⟨h_3, hk, rfl⟩
  refine WP.seq ?_
  refine WP.seq ?_
  refine WP.reg ?_
  refine WL.q (Wn.no rfl) rfl rfl (R.move (v := (vi (((k : Nat) : Int) - 1))) rfl) ?_
  refine WL.q (Wn.no rfl) rfl rfl (R.bin (v := (.bool (decide ((((k : Nat) : Int) - 1 : Int) ≥ 0)))) rfl rfl (bi_geq (r := decide ((((k : Nat) : Int) - 1 : Int) ≥ 0)) rfl)) ?_
  refine WL.nil ?_
  refine thn_n ?_
  refine WP.cond (b := decide ((((k : Nat) : Int) - 1 : Int) ≥ 0)) rfl (fun c_6 => ?_) (fun c_6 => ?_)
  · have p_7 := of_decide_eq_true c_6
    refine WP.skip ?_
    refine thn_n ?_
    refine WP.seq ?_
    refine WP.block ?_
    refine WP.reg ?_
    refine WL.q (Wn.no rfl) rfl rfl (R.move (v := (.slice ra (n - k) rc)) rfl) ?_
    refine WL.q (Wn.no rfl) rfl rfl (R.move (v := (.slice a n cap)) rfl) ?_
    refine WL.q (Wn.no rfl) rfl rfl (R.move (v := (vi ((k - 1 : Nat) : Int))) (congrArg vi (show ((k : Nat) : Int) - 1 = ((k - 1 : Nat) : Int) by omega))) ?_
    refine WL.q (Wn.no rfl) rfl rfl (R.indexS (a := a) (i := k - 1) (off := k - 1) (xs := bs.map vu8) rfl rfl rfl (by omega) (viewV (h_3.ok _ (.tail _ (.head _)))) (lt_len (K := n) (len_map hl) (by omega)) Try.underlying23 Try.sizeOf5 (Nat.mul_one _).symm) ?_
    refine WL.q (Wn.no rfl) rfl rfl (R.loadG (a := a) (i := k - 1) (xs := bs.map vu8) (v := (vu8 (bs.getD (k - 1) 0))) rfl (viewV (h_3.ok _ (.tail _ (.head _)))) Try.isAgg5 (get_u8 (lt_len (K := n) hl (by omega)))) ?_
    refine WL.buildSl (vs := [(0, (vu8 (bs.getD (k - 1) 0)))]) (cs := ([bs.getD (k - 1) 0] : List UInt8).map vu8) h_3 Try.underlying23 Try.sizeOf5 (zv Try.typeInfo5 rfl) rfl rfl (by kernel_rfl) rfl (one_u8 _) rfl rfl (fun b_8 w_9 h_10 => ?_)
    refine WL.append (km := (n - k) + 1) (xs := ((bs.drop k).reverse).map vu8) (ys := ([bs.getD (k - 1) 0] : List UInt8).map vu8) (zs := (((bs.drop k).reverse) ++ ([bs.getD (k - 1) 0] : List UInt8)).map vu8) h_10 rfl rfl el23 (viewB (h_10.ok _ (.head _)) Sg.h) ((len_map (rfl : List.length ([bs.getD (k - 1) 0] : List UInt8) = 1)).trans (Nat.mul_one _).symm) (one_u8 _) (by simp only [List.map_append, List.map_nil]) (by omega) (by omega) (by omega) (fun _ _ => (At.t At.h)) rfl (fun a_11 c_12 w_13 h_14 => ?_)
    refine WL.q (Wn.no rfl) rfl rfl (R.assign (v := (.slice a_11 ((n - k) + 1) c_12)) rfl) ?_
    refine WL.nil ?_
    refine inb_n ?_
    refine thn_n ?_
    refine WP.reg ?_
    refine WL.q (Wn.no rfl) rfl rfl (R.move (v := (vi (((k : Nat) : Int) - 1))) rfl) ?_
    refine WL.q (Wn.no rfl) rfl rfl (R.bin (v := (vi ((((k : Nat) : Int) - 1) - 1))) rfl rfl (bi_sub (c := (((k : Nat) : Int) - 1) - 1) (by omega) (by omega))) ?_
    refine WL.q (Wn.no rfl) rfl rfl (R.assign (v := (vi ((((k : Nat) : Int) - 1) - 1))) rfl) ?_
    refine WL.nil ?_
    refine thn_n ?_
    have h_15 := h_14.drop rfl
    rw [rev_snoc (by omega) (by omega), show (n - k) + 1 = n - (k - 1) by omega] at h_15
    exact ⟨(k - 1, a_11, c_12), _, (by omega), (Ag.upd rfl (Ag.upd rfl (Ag.upd rfl (Ag.upd rfl (Ag.upd rfl (Ag.upd rfl (Ag.upd rfl (Ag.upd rfl (Ag.upd rfl (Ag.upd rfl (Ag.upd rfl (Ag.upd rfl (Ag.upd rfl (Ag.updL rfl (Ag.mix _ _ _))))))))))))))), ⟨by rw [show n - (k - 1) = (n - k) + 1 by omega]; rfl, congrArg vi (by omega), trivial⟩, h_15, (by omega), rfl⟩
  · have p_16 := of_decide_eq_false c_6
    refine WP.exit ?_
    refine thn_x ?_
    refine thn_x ?_
    refine inb_hit ?_
    refine thn_n ?_
    refine WP.seq ?_
    refine WP.reg ?_
    refine WL.q (Wn.no rfl) rfl rfl (R.move (v := (.slice ra (n - k) rc)) rfl) ?_
    refine WL.q (Wn.no rfl) rfl rfl (R.assign (v := (.slice ra (n - k) rc)) rfl) ?_
    refine WL.nil ?_
    refine thn_n ?_
    refine WP.ret ?_
    refine ret_of Try.results44 (RV.tmp (v := (.slice ra (n - k) rc)) rfl RV.nil) ?_
    have hk0 : k = 0 := by omega
    subst hk0
    exact ⟨_, _, rfl, h_3.chgS, h_3.ok _ (.head _)⟩
end Go.Proofs.Ytcmgadjnammahaa
