/- Library functions: contracts. Conditions: those that each theorem states. -/
import Derived.Test.YtbldmljbfokobaaRows
import Derived.Test.YtbldmljbfokobaaVcO
import Derived.Test.YtbldmljbfokobaaW2
namespace Go.Proofs.Ytbldmljbfokobaa
open Go.Vc Go.RowKit
set_option linter.unusedVariables false
set_option linter.unusedSimpArgs false
set_option maxRecDepth 20000
theorem el62 : ElT Try.prog 62 5 1 1 := ElT.mk' Try.underlying62 (i := Try.t5) rfl rfl rfl rfl rfl rfl
def rvL (bs : List UInt8) (i : Nat) : List UInt8 := (List.range bs.length).map fun k => if k < i ∨ bs.length - 1 - k < i then bs.getD (bs.length - 1 - k) 0 else bs.getD k 0
theorem rvL_len (bs : List UInt8) (i : Nat) : (rvL bs i).length = bs.length := by simp [rvL]
theorem rvL_0 (bs : List UInt8) : rvL bs 0 = bs := by
  apply List.ext_getElem
  · simp [rvL]
  · intro k h1 h2; simp [rvL, h2]
theorem rvL_get {bs : List UInt8} {i k : Nat} (h : k < bs.length) : (rvL bs i).getD k 0 = if k < i ∨ bs.length - 1 - k < i then bs.getD (bs.length - 1 - k) 0 else bs.getD k 0 := by
  simp [rvL, h]
theorem rvL_end {bs : List UInt8} {i : Nat} (h : ¬ i < bs.length - 1 - i) (hi : bs.length ≤ 2 * i + 1) : rvL bs i = bs.reverse := by
  apply List.ext_getElem
  · simp [rvL]
  · intro k h1 h2
    have hk : k < bs.length := by simpa using h2
    simp only [rvL, List.getElem_map, List.getElem_range, List.getElem_reverse]
    by_cases hc : k < i ∨ bs.length - 1 - k < i
    · rw [if_pos hc]; simp [List.getD_eq_getElem?_getD, show bs.length - 1 - k < bs.length by omega]
    · rw [if_neg hc]
      have : bs.length - 1 - k = k := by omega
      simp [List.getD_eq_getElem?_getD, hk, this]
theorem rvL_step {bs : List UInt8} {i n : Nat} (hn : bs.length = n) (h : i < n - 1 - i) : ((rvL bs i).set i ((rvL bs i).getD (n - 1 - i) 0)).set (n - 1 - i) ((rvL bs i).getD i 0) = rvL bs (i + 1) := by
  subst hn
  rw [rvL_get (by omega), rvL_get (by omega), if_neg (by omega), if_neg (by omega)]
  apply List.ext_getElem
  · simp [rvL]
  · intro k h1 h2
    have hk : k < bs.length := by simpa [rvL] using h2
    simp only [List.getElem_set, rvL, List.getElem_map, List.getElem_range]
    by_cases e1 : bs.length - 1 - i = k
    · rw [if_pos e1, if_pos (by omega)]; congr 1; omega
    · rw [if_neg e1]
      by_cases e2 : i = k
      · rw [if_pos e2, if_pos (by omega)]; congr 1; omega
      · rw [if_neg e2]
        by_cases hc : k < i ∨ bs.length - 1 - k < i
        · rw [if_pos hc, if_pos (by omega)]
        · rw [if_neg hc, if_neg (by omega)]
theorem c_Clone (a : Option Addr) (n cap : Nat) (bs : List UInt8) (hl : bs.length = n) (hn : n ≤ 1099511627776) (w : World) (hv : View w a (bs.map vu8)) :
    Cs Try.prog 62 [(.slice a n cap)].toArray w (fun v w1 => ∃ a cap, v = .slice a n cap ∧ Chg w w1 [] ∧ Own w.heap.size w1 5 1 a n cap ((bs).map vu8)) := by
  refine Cs.of (n := 8) (args := [(.slice a n cap)]) Try.func62 rfl rfl rfl ?_
  have h_0 := HP.init w
  have h_00 := h_0.old (View.arg hv) (fun f hf => by cases hf)
  refine WP.seq ?_
  refine WP.reg ?_
  refine WL.q (Wn.no rfl) rfl rfl (R.assign (v := (.slice none 0 0)) rfl) ?_
  refine WL.nil ?_
  refine thn_n ?_
  refine WP.seq ?_
  refine WP.seq ?_
  refine WP.reg ?_
  refine WL.q (Wn.no rfl) rfl rfl (R.move (v := (.slice a n cap)) rfl) ?_
  refine WL.q (Wn.no rfl) rfl rfl (R.eqNilS rfl rfl Try.underlying62) ?_
  refine WL.nil ?_
  refine thn_n ?_
  refine WP.cond (b := a.isNone) rfl (fun c_1 => ?_) (fun c_1 => ?_)
  · refine WP.seq ?_
    refine WP.reg ?_
    refine WL.q (Wn.no rfl) rfl rfl (R.assign (v := (.slice none 0 0)) rfl) ?_
    refine WL.nil ?_
    refine thn_n ?_
    refine WP.ret ?_
    refine thn_r ?_
    refine ret_of Try.results62 (RV.tmp (v := (.slice none 0 0)) rfl RV.nil) ?_
    obtain rfl : bs = [] := view_none c_1 hv
    obtain rfl : n = 0 := hl.symm
    exact ⟨none, 0, rfl, h_00.chgS, Own.nil ..⟩
  · refine WP.skip ?_
    refine thn_n ?_
    refine WP.seq ?_
    refine WP.reg ?_
    refine WL.buildSl0 h_00 Try.underlying62 Try.sizeOf5 rfl (fun b_2 w_3 h_4 => ?_)
    refine WL.q (Wn.no rfl) rfl rfl (R.move (v := (.slice a n cap)) rfl) ?_
    refine WL.append (km := n) (xs := []) (ys := bs.map vu8) (zs := (([] : List UInt8) ++ bs).map vu8) h_4 rfl rfl el62 (viewV (h_4.ok _ (.tail _ (.head _)))) ((len_map hl).trans (Nat.mul_one _).symm) (one_u8 _) (by simp only [List.map_append, List.map_nil]) (by omega) (by omega) (by omega) (fun _ _ => At.h) rfl (fun a_5 c_6 w_7 h_8 => ?_)
    refine WL.q (Wn.no rfl) rfl rfl (R.assign (v := (.slice a_5 n c_6)) rfl) ?_
    refine WL.nil ?_
    refine thn_n ?_
    refine WP.ret ?_
    refine ret_of Try.results62 (RV.tmp (v := (.slice a_5 n c_6)) rfl RV.nil) ?_
    rw [List.nil_append] at h_8
    exact ⟨_, _, rfl, h_8.chgS, h_8.ok _ (.head _)⟩

theorem c_Reverse {w00 : World} {L : List Ent} (a : Option Addr) (n cap : Nat) (bs : List UInt8) (hl : bs.length = n) (hn : n ≤ 1099511627776) (w : World) (h_0 : HP w00 w (Ent.row a n cap 5 1 ((bs).map vu8) :: L)) :
    Cs Try.prog 102 [(.slice a n cap)].toArray w (fun v w1 => v = .tuple [].toArray ∧ HP w00 w1 (.row a n cap 5 1 (bs.reverse.map vu8) :: L)) := by
  refine Cs.of (n := 28) (args := [(.slice a n cap)]) Try.func102 rfl rfl rfl ?_
  refine WP.seq ?_
  refine WP.reg ?_
  refine WL.q (Wn.no rfl) rfl rfl (R.move (v := (.slice a n cap)) rfl) ?_
  refine WL.q (Wn.no rfl) rfl rfl (R.lenS (a := a) (m := n) rfl rfl Try.underlying62) ?_
  refine WL.q (Wn.no rfl) rfl rfl (R.bin (v := (vi ((n : Int) - 1))) rfl rfl (bi_sub (c := (n : Int) - 1) (by omega) (by omega))) ?_
  refine WL.q (Wn.no rfl) rfl rfl (R.assign (v := (vi 0)) rfl) ?_
  refine WL.q (Wn.no rfl) rfl rfl (R.assign (v := (vi ((n : Int) - 1))) rfl) ?_
  refine WL.nil ?_
  refine thn_n ?_
  refine WP.block ?_
  refine WP.loopG (G := Nat) [2, 3, 7, 8, 9, 10, 11, 12, 13, 14, 15, 16, 17, 18, 19, 20, 21, 22, 23, 24, 25, 26, 27] (fun i => [(2, (vi ((i : Nat) : Int))), (3, (vi ((n : Int) - 1 - (i : Int))))]) (fun i m w1 => HP w00 w1 (Ent.row a n cap 5 1 ((rvL bs i).map vu8) :: L) ∧ (2 * i ≤ n + 1) ∧ m = n + 1 - 2 * i) ⟨0, _, ⟨rfl, congrArg vi (by omega), trivial⟩, (by rw [rvL_0]; exact h_0), (by omega), rfl⟩ ?_
  rintro i m_3 J_4 w_1 ⟨h_2, hi, rfl⟩
  refine WP.seq ?_
  refine WP.seq ?_
  refine WP.reg ?_
  refine WL.q (Wn.no rfl) rfl rfl (R.move (v := (vi ((i : Nat) : Int))) rfl) ?_
  refine WL.q (Wn.no rfl) rfl rfl (R.move (v := (vi ((n : Int) - 1 - (i : Int)))) rfl) ?_
  refine WL.q (Wn.no rfl) rfl rfl (R.bin (v := (.bool (decide ((((i : Nat) : Int) : Int) < ((n : Int) - 1 - (i : Int)))))) rfl rfl (bi_lss (r := decide ((((i : Nat) : Int) : Int) < ((n : Int) - 1 - (i : Int)))) rfl)) ?_
  refine WL.nil ?_
  refine thn_n ?_
  refine WP.cond (b := decide ((((i : Nat) : Int) : Int) < ((n : Int) - 1 - (i : Int)))) rfl (fun c_5 => ?_) (fun c_5 => ?_)
  · have p_6 := of_decide_eq_true c_5
    refine WP.skip ?_
    refine thn_n ?_
    refine WP.seq ?_
    refine WP.block ?_
    refine WP.cutG (G := Unit) [14, 15, 16, 17, 18, 19, 20, 21, 22, 23, 24, 25, 26, 27] (fun _ => [(14, (.slice a n cap)), (15, (vi ((i : Nat) : Int))), (16, (.slice a n cap)), (17, (vi ((n - 1 - i : Nat) : Int))), (18, (.slice a n cap)), (19, (vi ((n - 1 - i : Nat) : Int))), (22, (.slice a n cap)), (23, (vi ((i : Nat) : Int))), (20, (.pointer (some (gA a (n - 1 - i))))), (21, (vu8 ((rvL bs i).getD (n - 1 - i) 0))), (24, (.pointer (some (gA a i)))), (25, (vu8 ((rvL bs i).getD i 0))), (26, (.pointer (some (gA a i)))), (27, (.pointer (some (gA a (n - 1 - i)))))]) (fun _ w1 => HP w00 w1 (Ent.row a n cap 5 1 ((((rvL bs i).set i ((rvL bs i).getD (n - 1 - i) 0)).set (n - 1 - i) ((rvL bs i).getD i 0)).map vu8) :: L)) ?_ ?_
    · refine WP.drawZ 15 (SL w00.heap.size []) (.q 0 (.q 1 (.q 2 (.q 3 (.q 4 (.q 5 (.q 8 (.q 9 (.s2 6 10 (.s2 7 10 (.s 10 (.s 11 (.s 12 (.s 13 (.s 14 (.s 15 .nil)))))) (.s2 7 11 (.s 11 (.s 12 (.s 13 (.s 14 (.s 15 .nil))))) (.s 7 (.s 12 (.s 13 (.s 14 (.s 15 .nil))))))) (.s2 6 11 (.s2 7 11 (.s 11 (.s 12 (.s 13 (.s 14 (.s 15 .nil))))) (.s 7 (.s 12 (.s 13 (.s 14 (.s 15 .nil)))))) (.s 6 (.s 7 (.s 12 (.s 13 (.s 14 (.s 15 .nil)))))))))))))))) (by kernel_rfl) (by kernel_rfl) rfl (by kernel_rfl) (fun w_7 hc_9 => (SL.nil _ _)) (fun w_7 hc_9 => ?_)
      have h_8 := h_2.same hc_9
      refine ZT.q rfl (Wn.no rfl) rfl rfl (fun wq hS => R.move (v := (.slice a n cap)) rfl) ?_
      refine ZT.q rfl (Wn.no rfl) rfl rfl (fun wq hS => R.move (v := (vi ((i : Nat) : Int))) rfl) ?_
      refine ZT.q rfl (Wn.no rfl) rfl rfl (fun wq hS => R.move (v := (.slice a n cap)) rfl) ?_
      refine ZT.q rfl (Wn.no rfl) rfl rfl (fun wq hS => R.move (v := (vi ((n - 1 - i : Nat) : Int))) (congrArg vi (show (n : Int) - 1 - (i : Int) = ((n - 1 - i : Nat) : Int) by omega))) ?_
      refine ZT.q rfl (Wn.no rfl) rfl rfl (fun wq hS => R.move (v := (.slice a n cap)) rfl) ?_
      refine ZT.q rfl (Wn.no rfl) rfl rfl (fun wq hS => R.move (v := (vi ((n - 1 - i : Nat) : Int))) (congrArg vi (show (n : Int) - 1 - (i : Int) = ((n - 1 - i : Nat) : Int) by omega))) ?_
      refine ZT.q rfl (Wn.no rfl) rfl rfl (fun wq hS => R.move (v := (.slice a n cap)) rfl) ?_
      refine ZT.q rfl (Wn.no rfl) rfl rfl (fun wq hS => R.move (v := (vi ((i : Nat) : Int))) rfl) ?_
      refine ZT.s2 ?_ ?_
      · refine OpZ.one rfl (Wn.no rfl) ?_
        refine WL.q (Wn.no rfl) rfl rfl (R.indexS (a := a) (i := n - 1 - i) (off := n - 1 - i) (xs := (rvL bs i).map vu8) rfl rfl rfl (by omega) (ownView (h_8.ok _ (.head _))) (lt_len (K := n) (len_map ((rvL_len bs i).trans hl)) (by omega)) Try.underlying62 Try.sizeOf5 (Nat.mul_one _).symm) ?_
        refine WL.nil ?_
        refine ⟨(SL.nil _ _), ?_⟩
        refine ZT.s2 ?_ ?_
        · refine OpZ.one rfl (Wn.no rfl) ?_
          refine WL.q (Wn.no rfl) rfl rfl (R.loadG (a := a) (i := n - 1 - i) (xs := (rvL bs i).map vu8) (v := (vu8 ((rvL bs i).getD (n - 1 - i) 0))) rfl (ownView (h_8.ok _ (.head _))) Try.isAgg5 (get_u8 (lt_len (K := n) ((rvL_len bs i).trans hl) (by omega)))) ?_
          refine WL.nil ?_
          refine ⟨(SL.nil _ _), ?_⟩
          refine ZT.s ?_
          refine OpZ.one rfl (Wn.no rfl) ?_
          refine WL.q (Wn.no rfl) rfl rfl (R.indexS (a := a) (i := i) (off := i) (xs := (rvL bs i).map vu8) rfl rfl rfl (by omega) (ownView (h_8.ok _ (.head _))) (lt_len (K := n) (len_map ((rvL_len bs i).trans hl)) (by omega)) Try.underlying62 Try.sizeOf5 (Nat.mul_one _).symm) ?_
          refine WL.nil ?_
          refine ⟨(SL.nil _ _), ?_⟩
          refine ZT.s ?_
          refine OpZ.one rfl (Wn.no rfl) ?_
          refine WL.q (Wn.no rfl) rfl rfl (R.loadG (a := a) (i := i) (xs := (rvL bs i).map vu8) (v := (vu8 ((rvL bs i).getD i 0))) rfl (ownView (h_8.ok _ (.head _))) Try.isAgg5 (get_u8 (lt_len (K := n) ((rvL_len bs i).trans hl) (by omega)))) ?_
          refine WL.nil ?_
          refine ⟨(SL.nil _ _), ?_⟩
          refine ZT.s ?_
          refine OpZ.one rfl (Wn.no rfl) ?_
          refine WL.q (Wn.no rfl) rfl rfl (R.indexS (a := a) (i := i) (off := i) (xs := (rvL bs i).map vu8) rfl rfl rfl (by omega) (ownView (h_8.ok _ (.head _))) (lt_len (K := n) (len_map ((rvL_len bs i).trans hl)) (by omega)) Try.underlying62 Try.sizeOf5 (Nat.mul_one _).symm) ?_
          refine WL.nil ?_
          refine ⟨(SL.nil _ _), ?_⟩
          refine ZT.s ?_
          refine OpZ.one rfl (Wn.no rfl) ?_
          refine WL.storeR (a := a) (i := i) (v := (vu8 ((rvL bs i).getD (n - 1 - i) 0))) (xs' := ((rvL bs i).set i ((rvL bs i).getD (n - 1 - i) 0)).map vu8) h_8 rfl rfl Try.sizeOf5 rfl At.h (lt_len (K := n) (len_map ((rvL_len bs i).trans hl)) (by omega)) (set_u8 _ _ _) (fun w_10 h_11 => ?_)
          refine WL.nil ?_
          refine ⟨(SL.nil _ _), ?_⟩
          refine ZT.s ?_
          refine OpZ.one rfl (Wn.no rfl) ?_
          refine WL.q (Wn.no rfl) rfl rfl (R.indexS (a := a) (i := n - 1 - i) (off := n - 1 - i) (xs := ((rvL bs i).set i ((rvL bs i).getD (n - 1 - i) 0)).map vu8) rfl rfl rfl (by omega) (ownView (h_11.ok _ (.head _))) (lt_len (K := n) (len_map (len_set ((rvL_len bs i).trans hl) _ _)) (by omega)) Try.underlying62 Try.sizeOf5 (Nat.mul_one _).symm) ?_
          refine WL.nil ?_
          refine ⟨(SL.nil _ _), ?_⟩
          refine ZT.s ?_
          refine OpZ.last rfl (Wn.no rfl) ?_
          refine WL.storeR (a := a) (i := n - 1 - i) (v := (vu8 ((rvL bs i).getD i 0))) (xs' := (((rvL bs i).set i ((rvL bs i).getD (n - 1 - i) 0)).set (n - 1 - i) ((rvL bs i).getD i 0)).map vu8) h_11 rfl rfl Try.sizeOf5 rfl At.h (lt_len (K := n) (len_map (len_set ((rvL_len bs i).trans hl) _ _)) (by omega)) (set_u8 _ _ _) (fun w_12 h_13 => ?_)
          refine WL.nil ?_
          refine ZT.nil ?_
          refine thn_n ?_
          exact ⟨(), (Ag.upd rfl (Ag.upd rfl (Ag.upd rfl (Ag.upd rfl (Ag.upd rfl (Ag.upd rfl (Ag.upd rfl (Ag.upd rfl (Ag.upd rfl (Ag.upd rfl (Ag.upd rfl (Ag.upd rfl (Ag.upd rfl (Ag.upd rfl (Ag.refl _ _))))))))))))))), ⟨rfl, rfl, rfl, rfl, rfl, rfl, rfl, rfl, rfl, rfl, rfl, rfl, rfl, rfl, trivial⟩, h_13⟩
        · refine OpZ.one rfl (Wn.no rfl) ?_
          refine WL.q (Wn.no rfl) rfl rfl (R.indexS (a := a) (i := i) (off := i) (xs := (rvL bs i).map vu8) rfl rfl rfl (by omega) (ownView (h_8.ok _ (.head _))) (lt_len (K := n) (len_map ((rvL_len bs i).trans hl)) (by omega)) Try.underlying62 Try.sizeOf5 (Nat.mul_one _).symm) ?_
          refine WL.nil ?_
          refine ⟨(SL.nil _ _), ?_⟩
          refine ZT.s2 ?_ ?_
          · refine OpZ.one rfl (Wn.no rfl) ?_
            refine WL.q (Wn.no rfl) rfl rfl (R.loadG (a := a) (i := n - 1 - i) (xs := (rvL bs i).map vu8) (v := (vu8 ((rvL bs i).getD (n - 1 - i) 0))) rfl (ownView (h_8.ok _ (.head _))) Try.isAgg5 (get_u8 (lt_len (K := n) ((rvL_len bs i).trans hl) (by omega)))) ?_
            refine WL.nil ?_
            refine ⟨(SL.nil _ _), ?_⟩
            refine ZT.s ?_
            refine OpZ.one rfl (Wn.no rfl) ?_
            refine WL.q (Wn.no rfl) rfl rfl (R.loadG (a := a) (i := i) (xs := (rvL bs i).map vu8) (v := (vu8 ((rvL bs i).getD i 0))) rfl (ownView (h_8.ok _ (.head _))) Try.isAgg5 (get_u8 (lt_len (K := n) ((rvL_len bs i).trans hl) (by omega)))) ?_
            refine WL.nil ?_
            refine ⟨(SL.nil _ _), ?_⟩
            refine ZT.s ?_
            refine OpZ.one rfl (Wn.no rfl) ?_
            refine WL.q (Wn.no rfl) rfl rfl (R.indexS (a := a) (i := i) (off := i) (xs := (rvL bs i).map vu8) rfl rfl rfl (by omega) (ownView (h_8.ok _ (.head _))) (lt_len (K := n) (len_map ((rvL_len bs i).trans hl)) (by omega)) Try.underlying62 Try.sizeOf5 (Nat.mul_one _).symm) ?_
            refine WL.nil ?_
            refine ⟨(SL.nil _ _), ?_⟩
            refine ZT.s ?_
            refine OpZ.one rfl (Wn.no rfl) ?_
            refine WL.storeR (a := a) (i := i) (v := (vu8 ((rvL bs i).getD (n - 1 - i) 0))) (xs' := ((rvL bs i).set i ((rvL bs i).getD (n - 1 - i) 0)).map vu8) h_8 rfl rfl Try.sizeOf5 rfl At.h (lt_len (K := n) (len_map ((rvL_len bs i).trans hl)) (by omega)) (set_u8 _ _ _) (fun w_14 h_15 => ?_)
            refine WL.nil ?_
            refine ⟨(SL.nil _ _), ?_⟩
            refine ZT.s ?_
            refine OpZ.one rfl (Wn.no rfl) ?_
            refine WL.q (Wn.no rfl) rfl rfl (R.indexS (a := a) (i := n - 1 - i) (off := n - 1 - i) (xs := ((rvL bs i).set i ((rvL bs i).getD (n - 1 - i) 0)).map vu8) rfl rfl rfl (by omega) (ownView (h_15.ok _ (.head _))) (lt_len (K := n) (len_map (len_set ((rvL_len bs i).trans hl) _ _)) (by omega)) Try.underlying62 Try.sizeOf5 (Nat.mul_one _).symm) ?_
            refine WL.nil ?_
            refine ⟨(SL.nil _ _), ?_⟩
            refine ZT.s ?_
            refine OpZ.last rfl (Wn.no rfl) ?_
            refine WL.storeR (a := a) (i := n - 1 - i) (v := (vu8 ((rvL bs i).getD i 0))) (xs' := (((rvL bs i).set i ((rvL bs i).getD (n - 1 - i) 0)).set (n - 1 - i) ((rvL bs i).getD i 0)).map vu8) h_15 rfl rfl Try.sizeOf5 rfl At.h (lt_len (K := n) (len_map (len_set ((rvL_len bs i).trans hl) _ _)) (by omega)) (set_u8 _ _ _) (fun w_16 h_17 => ?_)
            refine WL.nil ?_
            refine ZT.nil ?_
            refine thn_n ?_
            exact ⟨(), (Ag.upd rfl (Ag.upd rfl (Ag.upd rfl (Ag.upd rfl (Ag.upd rfl (Ag.upd rfl (Ag.upd rfl (Ag.upd rfl (Ag.upd rfl (Ag.upd rfl (Ag.upd rfl (Ag.upd rfl (Ag.upd rfl (Ag.upd rfl (Ag.refl _ _))))))))))))))), ⟨rfl, rfl, rfl, rfl, rfl, rfl, rfl, rfl, rfl, rfl, rfl, rfl, rfl, rfl, trivial⟩, h_17⟩
          · refine OpZ.one rfl (Wn.no rfl) ?_
            refine WL.q (Wn.no rfl) rfl rfl (R.loadG (a := a) (i := i) (xs := (rvL bs i).map vu8) (v := (vu8 ((rvL bs i).getD i 0))) rfl (ownView (h_8.ok _ (.head _))) Try.isAgg5 (get_u8 (lt_len (K := n) ((rvL_len bs i).trans hl) (by omega)))) ?_
            refine WL.nil ?_
            refine ⟨(SL.nil _ _), ?_⟩
            refine ZT.s ?_
            refine OpZ.one rfl (Wn.no rfl) ?_
            refine WL.q (Wn.no rfl) rfl rfl (R.loadG (a := a) (i := n - 1 - i) (xs := (rvL bs i).map vu8) (v := (vu8 ((rvL bs i).getD (n - 1 - i) 0))) rfl (ownView (h_8.ok _ (.head _))) Try.isAgg5 (get_u8 (lt_len (K := n) ((rvL_len bs i).trans hl) (by omega)))) ?_
            refine WL.nil ?_
            refine ⟨(SL.nil _ _), ?_⟩
            refine ZT.s ?_
            refine OpZ.one rfl (Wn.no rfl) ?_
            refine WL.q (Wn.no rfl) rfl rfl (R.indexS (a := a) (i := i) (off := i) (xs := (rvL bs i).map vu8) rfl rfl rfl (by omega) (ownView (h_8.ok _ (.head _))) (lt_len (K := n) (len_map ((rvL_len bs i).trans hl)) (by omega)) Try.underlying62 Try.sizeOf5 (Nat.mul_one _).symm) ?_
            refine WL.nil ?_
            refine ⟨(SL.nil _ _), ?_⟩
            refine ZT.s ?_
            refine OpZ.one rfl (Wn.no rfl) ?_
            refine WL.storeR (a := a) (i := i) (v := (vu8 ((rvL bs i).getD (n - 1 - i) 0))) (xs' := ((rvL bs i).set i ((rvL bs i).getD (n - 1 - i) 0)).map vu8) h_8 rfl rfl Try.sizeOf5 rfl At.h (lt_len (K := n) (len_map ((rvL_len bs i).trans hl)) (by omega)) (set_u8 _ _ _) (fun w_18 h_19 => ?_)
            refine WL.nil ?_
            refine ⟨(SL.nil _ _), ?_⟩
            refine ZT.s ?_
            refine OpZ.one rfl (Wn.no rfl) ?_
            refine WL.q (Wn.no rfl) rfl rfl (R.indexS (a := a) (i := n - 1 - i) (off := n - 1 - i) (xs := ((rvL bs i).set i ((rvL bs i).getD (n - 1 - i) 0)).map vu8) rfl rfl rfl (by omega) (ownView (h_19.ok _ (.head _))) (lt_len (K := n) (len_map (len_set ((rvL_len bs i).trans hl) _ _)) (by omega)) Try.underlying62 Try.sizeOf5 (Nat.mul_one _).symm) ?_
            refine WL.nil ?_
            refine ⟨(SL.nil _ _), ?_⟩
            refine ZT.s ?_
            refine OpZ.last rfl (Wn.no rfl) ?_
            refine WL.storeR (a := a) (i := n - 1 - i) (v := (vu8 ((rvL bs i).getD i 0))) (xs' := (((rvL bs i).set i ((rvL bs i).getD (n - 1 - i) 0)).set (n - 1 - i) ((rvL bs i).getD i 0)).map vu8) h_19 rfl rfl Try.sizeOf5 rfl At.h (lt_len (K := n) (len_map (len_set ((rvL_len bs i).trans hl) _ _)) (by omega)) (set_u8 _ _ _) (fun w_20 h_21 => ?_)
            refine WL.nil ?_
            refine ZT.nil ?_
            refine thn_n ?_
            exact ⟨(), (Ag.upd rfl (Ag.upd rfl (Ag.upd rfl (Ag.upd rfl (Ag.upd rfl (Ag.upd rfl (Ag.upd rfl (Ag.upd rfl (Ag.upd rfl (Ag.upd rfl (Ag.upd rfl (Ag.upd rfl (Ag.upd rfl (Ag.upd rfl (Ag.refl _ _))))))))))))))), ⟨rfl, rfl, rfl, rfl, rfl, rfl, rfl, rfl, rfl, rfl, rfl, rfl, rfl, rfl, trivial⟩, h_21⟩
      · refine OpZ.one rfl (Wn.no rfl) ?_
        refine WL.q (Wn.no rfl) rfl rfl (R.indexS (a := a) (i := i) (off := i) (xs := (rvL bs i).map vu8) rfl rfl rfl (by omega) (ownView (h_8.ok _ (.head _))) (lt_len (K := n) (len_map ((rvL_len bs i).trans hl)) (by omega)) Try.underlying62 Try.sizeOf5 (Nat.mul_one _).symm) ?_
        refine WL.nil ?_
        refine ⟨(SL.nil _ _), ?_⟩
        refine ZT.s2 ?_ ?_
        · refine OpZ.one rfl (Wn.no rfl) ?_
          refine WL.q (Wn.no rfl) rfl rfl (R.indexS (a := a) (i := n - 1 - i) (off := n - 1 - i) (xs := (rvL bs i).map vu8) rfl rfl rfl (by omega) (ownView (h_8.ok _ (.head _))) (lt_len (K := n) (len_map ((rvL_len bs i).trans hl)) (by omega)) Try.underlying62 Try.sizeOf5 (Nat.mul_one _).symm) ?_
          refine WL.nil ?_
          refine ⟨(SL.nil _ _), ?_⟩
          refine ZT.s2 ?_ ?_
          · refine OpZ.one rfl (Wn.no rfl) ?_
            refine WL.q (Wn.no rfl) rfl rfl (R.loadG (a := a) (i := n - 1 - i) (xs := (rvL bs i).map vu8) (v := (vu8 ((rvL bs i).getD (n - 1 - i) 0))) rfl (ownView (h_8.ok _ (.head _))) Try.isAgg5 (get_u8 (lt_len (K := n) ((rvL_len bs i).trans hl) (by omega)))) ?_
            refine WL.nil ?_
            refine ⟨(SL.nil _ _), ?_⟩
            refine ZT.s ?_
            refine OpZ.one rfl (Wn.no rfl) ?_
            refine WL.q (Wn.no rfl) rfl rfl (R.loadG (a := a) (i := i) (xs := (rvL bs i).map vu8) (v := (vu8 ((rvL bs i).getD i 0))) rfl (ownView (h_8.ok _ (.head _))) Try.isAgg5 (get_u8 (lt_len (K := n) ((rvL_len bs i).trans hl) (by omega)))) ?_
            refine WL.nil ?_
            refine ⟨(SL.nil _ _), ?_⟩
            refine ZT.s ?_
            refine OpZ.one rfl (Wn.no rfl) ?_
            refine WL.q (Wn.no rfl) rfl rfl (R.indexS (a := a) (i := i) (off := i) (xs := (rvL bs i).map vu8) rfl rfl rfl (by omega) (ownView (h_8.ok _ (.head _))) (lt_len (K := n) (len_map ((rvL_len bs i).trans hl)) (by omega)) Try.underlying62 Try.sizeOf5 (Nat.mul_one _).symm) ?_
            refine WL.nil ?_
            refine ⟨(SL.nil _ _), ?_⟩
            refine ZT.s ?_
            refine OpZ.one rfl (Wn.no rfl) ?_
            refine WL.storeR (a := a) (i := i) (v := (vu8 ((rvL bs i).getD (n - 1 - i) 0))) (xs' := ((rvL bs i).set i ((rvL bs i).getD (n - 1 - i) 0)).map vu8) h_8 rfl rfl Try.sizeOf5 rfl At.h (lt_len (K := n) (len_map ((rvL_len bs i).trans hl)) (by omega)) (set_u8 _ _ _) (fun w_22 h_23 => ?_)
            refine WL.nil ?_
            refine ⟨(SL.nil _ _), ?_⟩
            refine ZT.s ?_
            refine OpZ.one rfl (Wn.no rfl) ?_
            refine WL.q (Wn.no rfl) rfl rfl (R.indexS (a := a) (i := n - 1 - i) (off := n - 1 - i) (xs := ((rvL bs i).set i ((rvL bs i).getD (n - 1 - i) 0)).map vu8) rfl rfl rfl (by omega) (ownView (h_23.ok _ (.head _))) (lt_len (K := n) (len_map (len_set ((rvL_len bs i).trans hl) _ _)) (by omega)) Try.underlying62 Try.sizeOf5 (Nat.mul_one _).symm) ?_
            refine WL.nil ?_
            refine ⟨(SL.nil _ _), ?_⟩
            refine ZT.s ?_
            refine OpZ.last rfl (Wn.no rfl) ?_
            refine WL.storeR (a := a) (i := n - 1 - i) (v := (vu8 ((rvL bs i).getD i 0))) (xs' := (((rvL bs i).set i ((rvL bs i).getD (n - 1 - i) 0)).set (n - 1 - i) ((rvL bs i).getD i 0)).map vu8) h_23 rfl rfl Try.sizeOf5 rfl At.h (lt_len (K := n) (len_map (len_set ((rvL_len bs i).trans hl) _ _)) (by omega)) (set_u8 _ _ _) (fun w_24 h_25 => ?_)
            refine WL.nil ?_
            refine ZT.nil ?_
            refine thn_n ?_
            exact ⟨(), (Ag.upd rfl (Ag.upd rfl (Ag.upd rfl (Ag.upd rfl (Ag.upd rfl (Ag.upd rfl (Ag.upd rfl (Ag.upd rfl (Ag.upd rfl (Ag.upd rfl (Ag.upd rfl (Ag.upd rfl (Ag.upd rfl (Ag.upd rfl (Ag.refl _ _))))))))))))))), ⟨rfl, rfl, rfl, rfl, rfl, rfl, rfl, rfl, rfl, rfl, rfl, rfl, rfl, rfl, trivial⟩, h_25⟩
          · refine OpZ.one rfl (Wn.no rfl) ?_
            refine WL.q (Wn.no rfl) rfl rfl (R.loadG (a := a) (i := i) (xs := (rvL bs i).map vu8) (v := (vu8 ((rvL bs i).getD i 0))) rfl (ownView (h_8.ok _ (.head _))) Try.isAgg5 (get_u8 (lt_len (K := n) ((rvL_len bs i).trans hl) (by omega)))) ?_
            refine WL.nil ?_
            refine ⟨(SL.nil _ _), ?_⟩
            refine ZT.s ?_
            refine OpZ.one rfl (Wn.no rfl) ?_
            refine WL.q (Wn.no rfl) rfl rfl (R.loadG (a := a) (i := n - 1 - i) (xs := (rvL bs i).map vu8) (v := (vu8 ((rvL bs i).getD (n - 1 - i) 0))) rfl (ownView (h_8.ok _ (.head _))) Try.isAgg5 (get_u8 (lt_len (K := n) ((rvL_len bs i).trans hl) (by omega)))) ?_
            refine WL.nil ?_
            refine ⟨(SL.nil _ _), ?_⟩
            refine ZT.s ?_
            refine OpZ.one rfl (Wn.no rfl) ?_
            refine WL.q (Wn.no rfl) rfl rfl (R.indexS (a := a) (i := i) (off := i) (xs := (rvL bs i).map vu8) rfl rfl rfl (by omega) (ownView (h_8.ok _ (.head _))) (lt_len (K := n) (len_map ((rvL_len bs i).trans hl)) (by omega)) Try.underlying62 Try.sizeOf5 (Nat.mul_one _).symm) ?_
            refine WL.nil ?_
            refine ⟨(SL.nil _ _), ?_⟩
            refine ZT.s ?_
            refine OpZ.one rfl (Wn.no rfl) ?_
            refine WL.storeR (a := a) (i := i) (v := (vu8 ((rvL bs i).getD (n - 1 - i) 0))) (xs' := ((rvL bs i).set i ((rvL bs i).getD (n - 1 - i) 0)).map vu8) h_8 rfl rfl Try.sizeOf5 rfl At.h (lt_len (K := n) (len_map ((rvL_len bs i).trans hl)) (by omega)) (set_u8 _ _ _) (fun w_26 h_27 => ?_)
            refine WL.nil ?_
            refine ⟨(SL.nil _ _), ?_⟩
            refine ZT.s ?_
            refine OpZ.one rfl (Wn.no rfl) ?_
            refine WL.q (Wn.no rfl) rfl rfl (R.indexS (a := a) (i := n - 1 - i) (off := n - 1 - i) (xs := ((rvL bs i).set i ((rvL bs i).getD (n - 1 - i) 0)).map vu8) rfl rfl rfl (by omega) (ownView (h_27.ok _ (.head _))) (lt_len (K := n) (len_map (len_set ((rvL_len bs i).trans hl) _ _)) (by omega)) Try.underlying62 Try.sizeOf5 (Nat.mul_one _).symm) ?_
            refine WL.nil ?_
            refine ⟨(SL.nil _ _), ?_⟩
            refine ZT.s ?_
            refine OpZ.last rfl (Wn.no rfl) ?_
            refine WL.storeR (a := a) (i := n - 1 - i) (v := (vu8 ((rvL bs i).getD i 0))) (xs' := (((rvL bs i).set i ((rvL bs i).getD (n - 1 - i) 0)).set (n - 1 - i) ((rvL bs i).getD i 0)).map vu8) h_27 rfl rfl Try.sizeOf5 rfl At.h (lt_len (K := n) (len_map (len_set ((rvL_len bs i).trans hl) _ _)) (by omega)) (set_u8 _ _ _) (fun w_28 h_29 => ?_)
            refine WL.nil ?_
            refine ZT.nil ?_
            refine thn_n ?_
            exact ⟨(), (Ag.upd rfl (Ag.upd rfl (Ag.upd rfl (Ag.upd rfl (Ag.upd rfl (Ag.upd rfl (Ag.upd rfl (Ag.upd rfl (Ag.upd rfl (Ag.upd rfl (Ag.upd rfl (Ag.upd rfl (Ag.upd rfl (Ag.upd rfl (Ag.refl _ _))))))))))))))), ⟨rfl, rfl, rfl, rfl, rfl, rfl, rfl, rfl, rfl, rfl, rfl, rfl, rfl, rfl, trivial⟩, h_29⟩
        · refine OpZ.one rfl (Wn.no rfl) ?_
          refine WL.q (Wn.no rfl) rfl rfl (R.loadG (a := a) (i := i) (xs := (rvL bs i).map vu8) (v := (vu8 ((rvL bs i).getD i 0))) rfl (ownView (h_8.ok _ (.head _))) Try.isAgg5 (get_u8 (lt_len (K := n) ((rvL_len bs i).trans hl) (by omega)))) ?_
          refine WL.nil ?_
          refine ⟨(SL.nil _ _), ?_⟩
          refine ZT.s ?_
          refine OpZ.one rfl (Wn.no rfl) ?_
          refine WL.q (Wn.no rfl) rfl rfl (R.indexS (a := a) (i := n - 1 - i) (off := n - 1 - i) (xs := (rvL bs i).map vu8) rfl rfl rfl (by omega) (ownView (h_8.ok _ (.head _))) (lt_len (K := n) (len_map ((rvL_len bs i).trans hl)) (by omega)) Try.underlying62 Try.sizeOf5 (Nat.mul_one _).symm) ?_
          refine WL.nil ?_
          refine ⟨(SL.nil _ _), ?_⟩
          refine ZT.s ?_
          refine OpZ.one rfl (Wn.no rfl) ?_
          refine WL.q (Wn.no rfl) rfl rfl (R.loadG (a := a) (i := n - 1 - i) (xs := (rvL bs i).map vu8) (v := (vu8 ((rvL bs i).getD (n - 1 - i) 0))) rfl (ownView (h_8.ok _ (.head _))) Try.isAgg5 (get_u8 (lt_len (K := n) ((rvL_len bs i).trans hl) (by omega)))) ?_
          refine WL.nil ?_
          refine ⟨(SL.nil _ _), ?_⟩
          refine ZT.s ?_
          refine OpZ.one rfl (Wn.no rfl) ?_
          refine WL.q (Wn.no rfl) rfl rfl (R.indexS (a := a) (i := i) (off := i) (xs := (rvL bs i).map vu8) rfl rfl rfl (by omega) (ownView (h_8.ok _ (.head _))) (lt_len (K := n) (len_map ((rvL_len bs i).trans hl)) (by omega)) Try.underlying62 Try.sizeOf5 (Nat.mul_one _).symm) ?_
          refine WL.nil ?_
          refine ⟨(SL.nil _ _), ?_⟩
          refine ZT.s ?_
          refine OpZ.one rfl (Wn.no rfl) ?_
          refine WL.storeR (a := a) (i := i) (v := (vu8 ((rvL bs i).getD (n - 1 - i) 0))) (xs' := ((rvL bs i).set i ((rvL bs i).getD (n - 1 - i) 0)).map vu8) h_8 rfl rfl Try.sizeOf5 rfl At.h (lt_len (K := n) (len_map ((rvL_len bs i).trans hl)) (by omega)) (set_u8 _ _ _) (fun w_30 h_31 => ?_)
          refine WL.nil ?_
          refine ⟨(SL.nil _ _), ?_⟩
          refine ZT.s ?_
          refine OpZ.one rfl (Wn.no rfl) ?_
          refine WL.q (Wn.no rfl) rfl rfl (R.indexS (a := a) (i := n - 1 - i) (off := n - 1 - i) (xs := ((rvL bs i).set i ((rvL bs i).getD (n - 1 - i) 0)).map vu8) rfl rfl rfl (by omega) (ownView (h_31.ok _ (.head _))) (lt_len (K := n) (len_map (len_set ((rvL_len bs i).trans hl) _ _)) (by omega)) Try.underlying62 Try.sizeOf5 (Nat.mul_one _).symm) ?_
          refine WL.nil ?_
          refine ⟨(SL.nil _ _), ?_⟩
          refine ZT.s ?_
          refine OpZ.last rfl (Wn.no rfl) ?_
          refine WL.storeR (a := a) (i := n - 1 - i) (v := (vu8 ((rvL bs i).getD i 0))) (xs' := (((rvL bs i).set i ((rvL bs i).getD (n - 1 - i) 0)).set (n - 1 - i) ((rvL bs i).getD i 0)).map vu8) h_31 rfl rfl Try.sizeOf5 rfl At.h (lt_len (K := n) (len_map (len_set ((rvL_len bs i).trans hl) _ _)) (by omega)) (set_u8 _ _ _) (fun w_32 h_33 => ?_)
          refine WL.nil ?_
          refine ZT.nil ?_
          refine thn_n ?_
          exact ⟨(), (Ag.upd rfl (Ag.upd rfl (Ag.upd rfl (Ag.upd rfl (Ag.upd rfl (Ag.upd rfl (Ag.upd rfl (Ag.upd rfl (Ag.upd rfl (Ag.upd rfl (Ag.upd rfl (Ag.upd rfl (Ag.upd rfl (Ag.upd rfl (Ag.refl _ _))))))))))))))), ⟨rfl, rfl, rfl, rfl, rfl, rfl, rfl, rfl, rfl, rfl, rfl, rfl, rfl, rfl, trivial⟩, h_33⟩
    · rintro _ J_34 w_35 h_36
      refine inb_n ?_
      refine thn_n ?_
      refine WP.reg ?_
      refine WL.q (Wn.no rfl) rfl rfl (R.move (v := (vi ((i : Nat) : Int))) rfl) ?_
      refine WL.q (Wn.no rfl) rfl rfl (R.bin (v := (vi ((i + 1 : Nat) : Int))) rfl rfl (bi_add (c := ((i + 1 : Nat) : Int)) (by omega) (by omega))) ?_
      refine WL.q (Wn.no rfl) rfl rfl (R.move (v := (vi ((n : Int) - 1 - (i : Int)))) rfl) ?_
      refine WL.q (Wn.no rfl) rfl rfl (R.bin (v := (vi (((n : Int) - 1 - (i : Int)) - 1))) rfl rfl (bi_sub (c := ((n : Int) - 1 - (i : Int)) - 1) (by omega) (by omega))) ?_
      refine WL.q (Wn.no rfl) rfl rfl (R.assign (v := (vi ((i + 1 : Nat) : Int))) rfl) ?_
      refine WL.q (Wn.no rfl) rfl rfl (R.assign (v := (vi (((n : Int) - 1 - (i : Int)) - 1))) rfl) ?_
      refine WL.nil ?_
      refine thn_n ?_
      rw [rvL_step hl (by omega)] at h_36
      exact ⟨i + 1, _, (by omega), (Ag.upd rfl (Ag.upd rfl (Ag.upd rfl (Ag.upd rfl (Ag.upd rfl (Ag.upd rfl (Ag.updL rfl (Ag.trans (Ag.sub rfl (Ag.mix _ _ _)) (Ag.upd rfl (Ag.upd rfl (Ag.upd rfl (Ag.updL rfl (Ag.mix _ _ _))))))))))))), ⟨rfl, congrArg vi (by omega), trivial⟩, h_36, (by omega), rfl⟩
  · have p_37 := of_decide_eq_false c_5
    refine WP.exit ?_
    refine thn_x ?_
    refine thn_x ?_
    refine inb_hit ?_
    refine ret_n ?_
    refine ret_of Try.results102 RV.nil ?_
    rw [rvL_end (i := i) (by omega) (by omega)] at h_2
    exact ⟨rfl, h_2⟩

theorem c_Turned (a : Option Addr) (n cap : Nat) (bs : List UInt8) (hl : bs.length = n) (hn : n ≤ 1099511627776) (w : World) (hv : View w a (bs.map vu8)) :
    Cs Try.prog 88 [(.slice a n cap)].toArray w (fun v w1 => ∃ a cap, v = .slice a n cap ∧ Chg w w1 [] ∧ Own w.heap.size w1 5 1 a n cap ((bs.reverse).map vu8)) := by
  refine Cs.of (n := 9) (args := [(.slice a n cap)]) Try.func88 rfl rfl rfl ?_
  have h_0 := HP.init w
  have h_00 := h_0.old (View.arg hv) (fun f hf => by cases hf)
  refine WP.seq ?_
  refine WP.reg ?_
  refine WL.q (Wn.no rfl) rfl rfl (R.assign (v := (.slice none 0 0)) rfl) ?_
  refine WL.nil ?_
  refine thn_n ?_
  refine WP.seq ?_
  refine WP.reg ?_
  refine WL.q (Wn.no rfl) rfl rfl (R.move (v := (.slice a n cap)) rfl) ?_
  refine WL.call (al := [(.slice a n cap)]) Try.call62 rfl rfl (c_Clone a n cap bs hl (by omega) _ (viewV (h_00.ok _ (.head _)))) rfl ?_
  rintro _ w_3 ⟨a_1, cap_2, rfl, hc_4, ho_5⟩
  have h_6 := h_00.gotRow hc_4 ho_5
  refine WL.q (Wn.no rfl) rfl rfl (R.assign (v := (.slice a_1 n cap_2)) rfl) ?_
  refine WL.nil ?_
  refine thn_n ?_
  refine WP.seq ?_
  refine WP.reg ?_
  refine WL.q (Wn.no rfl) rfl rfl (R.move (v := (.slice a_1 n cap_2)) rfl) ?_
  refine WL.call (al := [(.slice a_1 n cap_2)]) Try.call102 rfl rfl (c_Reverse a_1 n cap_2 bs hl (by omega) _ h_6) rfl ?_
  rintro _ w_7 ⟨rfl, h_8⟩
  refine WL.nil ?_
  refine thn_n ?_
  refine WP.seq ?_
  refine WP.reg ?_
  refine WL.q (Wn.no rfl) rfl rfl (R.move (v := (.slice a_1 n cap_2)) rfl) ?_
  refine WL.q (Wn.no rfl) rfl rfl (R.assign (v := (.slice a_1 n cap_2)) rfl) ?_
  refine WL.nil ?_
  refine thn_n ?_
  refine WP.ret ?_
  refine ret_of Try.results88 (RV.tmp (v := (.slice a_1 n cap_2)) rfl RV.nil) ?_
  exact ⟨_, _, rfl, h_8.chgS, h_8.ok _ (.head _)⟩

theorem c_Grow (m : Nat) (hm : m ≤ 1099511627776) (w : World) :
    Cs Try.prog 96 [(.slice none 0 0), (vi ((m : Nat) : Int))].toArray w (fun v w1 => ∃ a cap, v = .slice a 0 cap ∧ Chg w w1 [] ∧ Own w.heap.size w1 5 1 a 0 cap ((([] : List UInt8)).map vu8)) := by
  refine Cs.of (n := 27) (args := [(.slice none 0 0), (vi ((m : Nat) : Int))]) Try.func96 rfl rfl rfl ?_
  have h_0 := HP.init w
  refine WP.seq ?_
  refine WP.reg ?_
  refine WL.q (Wn.no rfl) rfl rfl (R.assign (v := (.slice none 0 0)) rfl) ?_
  refine WL.nil ?_
  refine thn_n ?_
  refine WP.seq ?_
  refine WP.seq ?_
  refine WP.reg ?_
  refine WL.q (Wn.no rfl) rfl rfl (R.move (v := (vi ((m : Nat) : Int))) rfl) ?_
  refine WL.q (Wn.no rfl) rfl rfl (R.bin (v := (.bool (decide ((((m : Nat) : Int) : Int) < 0)))) rfl rfl (bi_lss (r := decide ((((m : Nat) : Int) : Int) < 0)) rfl)) ?_
  refine WL.nil ?_
  refine thn_n ?_
  refine WP.condF (congrArg Value.bool (decide_eq_false (by omega))) ?_
  refine WP.skip ?_
  refine thn_n ?_
  refine WP.seq ?_
  refine WP.seq ?_
  refine WP.reg ?_
  refine WL.q (Wn.no rfl) rfl rfl (R.move (v := (vi ((m : Nat) : Int))) rfl) ?_
  refine WL.q (Wn.no rfl) rfl rfl (R.move (v := (.slice none 0 0)) rfl) ?_
  refine WL.q (Wn.no rfl) rfl rfl (R.capS (a := none) (c := 0) rfl rfl Try.underlying62) ?_
  refine WL.q (Wn.no rfl) rfl rfl (R.move (v := (.slice none 0 0)) rfl) ?_
  refine WL.q (Wn.no rfl) rfl rfl (R.lenS (a := none) (m := 0) rfl rfl Try.underlying62) ?_
  refine WL.q (Wn.no rfl) rfl rfl (R.bin (v := (vi 0)) rfl rfl (bi_sub (c := 0) (by omega) (by omega))) ?_
  refine WL.q (Wn.no rfl) rfl rfl (R.bin (v := (vi ((m - 0 : Nat) : Int))) rfl rfl (bi_sub (c := ((m - 0 : Nat) : Int)) (by omega) (by omega))) ?_
  refine WL.q (Wn.no rfl) rfl rfl (R.assign (v := (vi ((m - 0 : Nat) : Int))) rfl) ?_
  refine WL.nil ?_
  refine thn_n ?_
  refine WP.seq ?_
  refine WP.reg ?_
  refine WL.q (Wn.no rfl) rfl rfl (R.move (v := (vi ((m - 0 : Nat) : Int))) rfl) ?_
  refine WL.q (Wn.no rfl) rfl rfl (R.bin (v := (.bool (decide ((((m - 0 : Nat) : Int) : Int) > 0)))) rfl rfl (bi_gtr (r := decide ((((m - 0 : Nat) : Int) : Int) > 0)) rfl)) ?_
  refine WL.nil ?_
  refine thn_n ?_
  refine WP.cond (b := decide ((((m - 0 : Nat) : Int) : Int) > 0)) rfl (fun c_1 => ?_) (fun c_1 => ?_)
  · have p_2 := of_decide_eq_true c_1
    refine WP.reg ?_
    refine WL.q (Wn.no rfl) rfl rfl (R.move (v := (.slice none 0 0)) rfl) ?_
    refine WL.q (Wn.no rfl) rfl rfl (R.move (v := (.slice none 0 0)) rfl) ?_
    refine WL.q (Wn.no rfl) rfl rfl (R.capS (a := none) (c := 0) rfl rfl Try.underlying62) ?_
    refine WL.q (Wn.no rfl) rfl rfl (R.sliceS (a := none) (len := 0) (l := 0) (h := 0) rfl EvB.dflt (EvB.it (l := 0) rfl rfl) (by decide) (by omega) Try.underlying62 Try.sizeOf5) ?_
    refine WL.q (Wn.no rfl) rfl rfl (R.move (v := (vi ((m - 0 : Nat) : Int))) rfl) ?_
    have h_3 := h_0.rowNil 5 1
    refine WL.appendZ (i := Try.t5) (m := m - 0) (km := m - 0) (xs := []) (zs := (([] : List UInt8) ++ List.replicate (m - 0) (0 : UInt8)).map vu8) h_3 rfl rfl Try.underlying62 Try.underlying3 rfl rfl rfl rfl (by simp only [List.map_append, List.map_replicate, List.map_nil]) (by omega) (by omega) (fun _ _ => At.h) rfl (fun a_4 c_5 w_6 h_7 => ?_)
    refine WL.q (Wn.no rfl) rfl rfl (R.move (v := (.slice none 0 0)) rfl) ?_
    refine WL.q (Wn.no rfl) rfl rfl (R.lenS (a := none) (m := 0) rfl rfl Try.underlying62) ?_
    refine WL.q (Wn.no rfl) rfl rfl (R.sliceR0 (h := 0) rfl EvB.dflt (EvB.it (l := 0) rfl rfl) (Nat.le_trans (by omega) (h_7.own (.head _)).2.2.1) Try.underlying62 Try.sizeOf5 (h_7.ok _ (.head _))) ?_
    have h_8 := HP.rowCut (k := 0) h_7 At.h (by omega)
    rw [show ((([] : List UInt8) ++ List.replicate (m - 0) (0 : UInt8)).map vu8).take (0 * 1) = ((([] : List UInt8) ++ List.replicate (m - 0) (0 : UInt8)).take 0).map vu8 from by rw [Nat.mul_one, ← List.map_take]] at h_8
    refine WL.q (Wn.no rfl) rfl rfl (R.assign (v := (.slice a_4 0 c_5)) rfl) ?_
    refine WL.nil ?_
    refine thn_n ?_
    refine WP.seq ?_
    refine WP.reg ?_
    refine WL.q (Wn.no rfl) rfl rfl (R.move (v := (.slice a_4 0 c_5)) rfl) ?_
    refine WL.q (Wn.no rfl) rfl rfl (R.assign (v := (.slice a_4 0 c_5)) rfl) ?_
    refine WL.nil ?_
    refine thn_n ?_
    refine WP.ret ?_
    refine ret_of Try.results96 (RV.tmp (v := (.slice a_4 0 c_5)) rfl RV.nil) ?_
    exact ⟨_, _, rfl, h_8.chgS, h_8.ok _ (.head _)⟩
  · have p_9 := of_decide_eq_false c_1
    refine WP.skip ?_
    refine thn_n ?_
    refine WP.seq ?_
    refine WP.reg ?_
    refine WL.q (Wn.no rfl) rfl rfl (R.move (v := (.slice none 0 0)) rfl) ?_
    refine WL.q (Wn.no rfl) rfl rfl (R.assign (v := (.slice none 0 0)) rfl) ?_
    refine WL.nil ?_
    refine thn_n ?_
    refine WP.ret ?_
    refine ret_of Try.results96 (RV.tmp (v := (.slice none 0 0)) rfl RV.nil) ?_
    exact ⟨none, 0, rfl, h_0.chgS, Own.nil ..⟩

theorem c_Concat (a : Option Addr) (n cap : Nat) (xs : List Value) (ls : List (List UInt8)) (hln : ls.length = n) (hb : ls.flatten.length ≤ 1099511627776) (hnb : n ≤ 1099511627776) (w : World) (hv : View w a xs) (hs : Sls w xs ls) :
    Cs Try.prog 83 [(.slice a n cap)].toArray w (fun v w1 => ∃ a cap, v = .slice a ls.flatten.length cap ∧ Chg w w1 [] ∧ Own w.heap.size w1 5 1 a ls.flatten.length cap ((ls.flatten).map vu8)) := by
  refine Cs.of (n := 36) (args := [(.slice a n cap)]) Try.func83 rfl rfl rfl ?_
  have h_0 := HP.init w
  have h_01 := h_0.old (View.arg hv) (fun f hf => by cases hf)
  have h_00 := h_01.old hs.pin (fun f hf => by rw [List.mem_singleton] at hf; subst hf; intro hm; simp [Ent.mut] at hm)
  have hxl : xs.length = n := hs.len.trans hln
  refine WP.seq ?_
  refine WP.reg ?_
  refine WL.q (Wn.no rfl) rfl rfl (R.assign (v := (.slice none 0 0)) rfl) ?_
  refine WL.nil ?_
  refine thn_n ?_
  refine WP.seq ?_
  refine WP.reg ?_
  refine WL.q (Wn.no rfl) rfl rfl (R.assign (v := (vi 0)) rfl) ?_
  refine WL.nil ?_
  refine thn_n ?_
  refine WP.seq ?_
  refine WP.seq ?_
  refine WP.reg ?_
  refine WL.q (Wn.no rfl) rfl rfl (R.move (v := (.slice a n cap)) rfl) ?_
  refine WL.q (Wn.no rfl) rfl rfl (R.lenS (a := a) (m := n) rfl rfl Try.underlying110) ?_
  refine WL.q (Wn.no rfl) rfl rfl (R.move (v := (vi 0)) rfl) ?_
  refine WL.nil ?_
  refine thn_n ?_
  refine WP.block ?_
  refine WP.loopG (G := Nat) [3, 5, 11, 12, 13, 14, 15, 16, 17, 18, 19, 20, 21, 22] (fun k => [(3, (vi ((((ls.take k).flatten).length : Nat) : Int))), (11, (vi ((k : Nat) : Int)))]) (fun k m w1 => HP w w1 [.pin (sblks xs) (fun w => Sls w xs ls), .view a xs] ∧ (k ≤ n) ∧ m = n - k) ⟨0, _, ⟨rfl, rfl, trivial⟩, h_00, (by omega), rfl⟩ ?_
  rintro k m_3 J_4 w_1 ⟨h_2, hk, rfl⟩
  have hfl := Go.Wr.flat_take_le ls k
  have hfl1 : k < n → (ls.take k).flatten.length + (ls.getD k []).length ≤ ls.flatten.length := fun h => by have h2 := Go.Wr.flat_take_le ls (k + 1); rw [Go.Wr.flat_take (by omega), List.length_append] at h2; exact h2
  refine WP.seq ?_
  refine WP.reg ?_
  refine WL.q (Wn.no rfl) rfl rfl (R.bin (v := (.bool (decide ((((k : Nat) : Int) : Int) < ((n : Nat) : Int))))) rfl rfl (bi_lss (r := decide ((((k : Nat) : Int) : Int) < ((n : Nat) : Int))) rfl)) ?_
  refine WL.nil ?_
  refine thn_n ?_
  refine WP.seq ?_
  refine WP.cond (b := decide ((((k : Nat) : Int) : Int) < ((n : Nat) : Int))) rfl (fun c_5 => ?_) (fun c_5 => ?_)
  · have p_6 := of_decide_eq_true c_5
    refine WP.skip ?_
    refine thn_n ?_
    refine WP.seq ?_
    refine WP.block ?_
    refine WP.seq ?_
    refine WP.reg ?_
    refine WL.q (Wn.no rfl) rfl rfl (R.indexS (a := a) (i := k) (off := k) (xs := xs) rfl rfl rfl (by omega) (viewV (h_2.ok _ (.tail _ (.head _)))) (by omega) Try.underlying110 Try.sizeOf62 (Nat.mul_one _).symm) ?_
    obtain ⟨a_7, n_8, c_9, hx_10, hl_11, hn_12, hv_13, hb_14⟩ := Sls.get (i := k) (h_2.ok _ (.head _)).1 (by rw [hln]; omega)
    have h_15 := h_2.within (e' := .view a_7 ((ls.getD k []).map vu8)) (.head _) rfl (View.arg hv_13) rfl rfl (fun b hb_ => hb_14 _ (view_sblk hl_11 b hb_))
    refine WL.q (Wn.no rfl) rfl rfl (R.loadG (a := a) (i := k) (xs := xs) (v := (.slice a_7 n_8 c_9)) rfl (viewV (h_15.ok _ (.tail _ (.tail _ (.head _))))) Try.isAgg62 hx_10) ?_
    refine WL.q (Wn.no rfl) rfl rfl (R.assign (v := (.slice a_7 n_8 c_9)) rfl) ?_
    refine WL.nil ?_
    refine thn_n ?_
    refine WP.seq ?_
    refine WP.reg ?_
    refine WL.q (Wn.no rfl) rfl rfl (R.move (v := (vi ((((ls.take k).flatten).length : Nat) : Int))) rfl) ?_
    refine WL.q (Wn.no rfl) rfl rfl (R.move (v := (.slice a_7 n_8 c_9)) rfl) ?_
    refine WL.q (Wn.no rfl) rfl rfl (R.lenS (a := a_7) (m := n_8) rfl rfl Try.underlying62) ?_
    refine WL.q (Wn.no rfl) rfl rfl (R.bin (v := (vi ((((ls.take k).flatten).length + n_8 : Nat) : Int))) rfl rfl (bi_add (c := ((((ls.take k).flatten).length + n_8 : Nat) : Int)) (by omega) (by omega))) ?_
    refine WL.q (Wn.no rfl) rfl rfl (R.assign (v := (vi ((((ls.take k).flatten).length + n_8 : Nat) : Int))) rfl) ?_
    refine WL.nil ?_
    refine thn_n ?_
    refine WP.seq ?_
    refine WP.reg ?_
    refine WL.q (Wn.no rfl) rfl rfl (R.move (v := (vi ((((ls.take k).flatten).length + n_8 : Nat) : Int))) rfl) ?_
    refine WL.q (Wn.no rfl) rfl rfl (R.bin (v := (.bool (decide ((((((ls.take k).flatten).length + n_8 : Nat) : Int) : Int) < 0)))) rfl rfl (bi_lss (r := decide ((((((ls.take k).flatten).length + n_8 : Nat) : Int) : Int) < 0)) rfl)) ?_
    refine WL.nil ?_
    refine thn_n ?_
    refine WP.condF (congrArg Value.bool (decide_eq_false (by omega))) ?_
    refine WP.skip ?_
    refine inb_n ?_
    refine thn_n ?_
    refine WP.reg ?_
    refine WL.q (Wn.no rfl) rfl rfl (R.bin (v := (vi ((k + 1 : Nat) : Int))) rfl rfl (bi_add (c := ((k + 1 : Nat) : Int)) (by omega) (by omega))) ?_
    refine WL.q (Wn.no rfl) rfl rfl (R.move (v := (vi ((k + 1 : Nat) : Int))) rfl) ?_
    refine WL.nil ?_
    refine thn_n ?_
    have h_16 := h_15.drop rfl
    have e := Go.Wr.flat_take (ls := ls) (k := k) (by omega)
    have el : ((ls.take k).flatten).length + n_8 = (((ls.take (k + 1)).flatten)).length := by rw [e, List.length_append]; omega
    exact ⟨k + 1, _, (by omega), (Ag.upd rfl (Ag.upd rfl (Ag.upd rfl (Ag.upd rfl (Ag.upd rfl (Ag.upd rfl (Ag.upd rfl (Ag.upd rfl (Ag.upd rfl (Ag.upd rfl (Ag.upd rfl (Ag.upd rfl (Ag.upd rfl (Ag.updL rfl (Ag.mix _ _ _))))))))))))))), ⟨by rw [← el]; rfl, rfl, trivial⟩, h_16, (by omega), rfl⟩
  · have p_17 := of_decide_eq_false c_5
    refine WP.exit ?_
    refine thn_x ?_
    refine thn_x ?_
    refine inb_hit ?_
    refine thn_n ?_
    refine WP.seq ?_
    refine WP.reg ?_
    refine WL.q (Wn.no rfl) rfl rfl (R.move (v := (vi ((((ls.take k).flatten).length : Nat) : Int))) rfl) ?_
    refine WL.call (al := [(.slice none 0 0), (vi ((((ls.take k).flatten).length : Nat) : Int))]) Try.call96 rfl rfl (c_Grow (((ls.take k).flatten).length) (by omega) _) rfl ?_
    rintro _ w_20 ⟨a_18, cap_19, rfl, hc_21, ho_22⟩
    have h_23 := h_2.gotRow hc_21 ho_22
    refine WL.q (Wn.no rfl) rfl rfl (R.assign (v := (.slice a_18 0 cap_19)) rfl) ?_
    refine WL.nil ?_
    refine thn_n ?_
    refine WP.seq ?_
    refine WP.seq ?_
    refine WP.reg ?_
    refine WL.q (Wn.no rfl) rfl rfl (R.move (v := (.slice a n cap)) rfl) ?_
    refine WL.q (Wn.no rfl) rfl rfl (R.lenS (a := a) (m := n) rfl rfl Try.underlying110) ?_
    refine WL.q (Wn.no rfl) rfl rfl (R.move (v := (vi 0)) rfl) ?_
    refine WL.nil ?_
    refine thn_n ?_
    refine WP.block ?_
    have hkn : k = n := by omega
    refine WP.loopG (G := Nat × Option Addr × Nat) [6, 8, 27, 28, 29, 30, 31, 32, 33, 34] (fun (q, ra, rc) => [(6, (.slice ra (((ls.take q).flatten).length) rc)), (27, (vi ((q : Nat) : Int)))]) (fun (q, ra, rc) m w1 => HP w w1 [.row ra (((ls.take q).flatten).length) rc 5 1 (((ls.take q).flatten).map vu8), .pin (sblks xs) (fun w => Sls w xs ls), .view a xs] ∧ (q ≤ n) ∧ m = n - q) ⟨(0, a_18, cap_19), _, ⟨rfl, rfl, trivial⟩, h_23, (by omega), rfl⟩ ?_
    rintro ⟨q, ra, rc⟩ m_26 J_27 w_24 ⟨h_25, hq, rfl⟩
    have hfq := Go.Wr.flat_take_le ls q
    refine WP.seq ?_
    refine WP.reg ?_
    refine WL.q (Wn.no rfl) rfl rfl (R.bin (v := (.bool (decide ((((q : Nat) : Int) : Int) < ((n : Nat) : Int))))) rfl rfl (bi_lss (r := decide ((((q : Nat) : Int) : Int) < ((n : Nat) : Int))) rfl)) ?_
    refine WL.nil ?_
    refine thn_n ?_
    refine WP.seq ?_
    refine WP.cond (b := decide ((((q : Nat) : Int) : Int) < ((n : Nat) : Int))) rfl (fun c_28 => ?_) (fun c_28 => ?_)
    · have p_29 := of_decide_eq_true c_28
      refine WP.skip ?_
      refine thn_n ?_
      refine WP.seq ?_
      refine WP.block ?_
      refine WP.seq ?_
      refine WP.reg ?_
      refine WL.q (Wn.no rfl) rfl rfl (R.indexS (a := a) (i := q) (off := q) (xs := xs) rfl rfl rfl (by omega) (viewV (h_25.ok _ (.tail _ (.tail _ (.head _))))) (by omega) Try.underlying110 Try.sizeOf62 (Nat.mul_one _).symm) ?_
      obtain ⟨a_30, n_31, c_32, hx_33, hl_34, hn_35, hv_36, hb_37⟩ := Sls.get (i := q) (h_25.ok _ (.tail _ (.head _))).1 (by rw [hln]; omega)
      have h_38 := h_25.within (e' := .view a_30 ((ls.getD q []).map vu8)) (.tail _ (.head _)) rfl (View.arg hv_36) rfl rfl (fun b hb_ => hb_37 _ (view_sblk hl_34 b hb_))
      refine WL.q (Wn.no rfl) rfl rfl (R.loadG (a := a) (i := q) (xs := xs) (v := (.slice a_30 n_31 c_32)) rfl (viewV (h_38.ok _ (.tail _ (.tail _ (.tail _ (.head _)))))) Try.isAgg62 hx_33) ?_
      refine WL.q (Wn.no rfl) rfl rfl (R.assign (v := (.slice a_30 n_31 c_32)) rfl) ?_
      refine WL.nil ?_
      refine thn_n ?_
      refine WP.reg ?_
      refine WL.q (Wn.no rfl) rfl rfl (R.move (v := (.slice ra (((ls.take q).flatten).length) rc)) rfl) ?_
      refine WL.q (Wn.no rfl) rfl rfl (R.move (v := (.slice a_30 n_31 c_32)) rfl) ?_
      have hle := Go.Wr.flat_take_le ls (q + 1)
      rw [Go.Wr.flat_take (by omega), List.length_append] at hle
      refine WL.append (km := ((ls.take q).flatten).length + n_31) (xs := ((ls.take q).flatten).map vu8) (ys := (ls.getD q []).map vu8) (zs := (((ls.take q).flatten).map vu8) ++ ((ls.getD q []).map vu8)) h_38 rfl rfl el62 (viewV (h_38.ok _ (.head _))) ((len_map hl_34).trans (Nat.mul_one _).symm) (one_u8 _) rfl (by omega) (by omega) (by omega) (fun _ _ => (At.t At.h)) rfl (fun a_39 c_40 w_41 h_42 => ?_)
      refine WL.q (Wn.no rfl) rfl rfl (R.assign (v := (.slice a_39 (((ls.take q).flatten).length + n_31) c_40)) rfl) ?_
      refine WL.nil ?_
      refine inb_n ?_
      refine thn_n ?_
      refine WP.reg ?_
      refine WL.q (Wn.no rfl) rfl rfl (R.bin (v := (vi ((q + 1 : Nat) : Int))) rfl rfl (bi_add (c := ((q + 1 : Nat) : Int)) (by omega) (by omega))) ?_
      refine WL.q (Wn.no rfl) rfl rfl (R.move (v := (vi ((q + 1 : Nat) : Int))) rfl) ?_
      refine WL.nil ?_
      refine thn_n ?_
      have h_43 := h_42.drop rfl
      have e := Go.Wr.flat_take (ls := ls) (k := q) (by omega)
      have el : ((ls.take q).flatten).length + n_31 = (((ls.take (q + 1)).flatten)).length := by rw [e, List.length_append]; omega
      rw [el, show (((ls.take q).flatten).map vu8) ++ ((ls.getD q []).map vu8) = (((ls.take (q + 1)).flatten)).map vu8 from by rw [e, List.map_append]] at h_43
      exact ⟨(q + 1, a_39, c_40), _, (by omega), (Ag.upd rfl (Ag.upd rfl (Ag.upd rfl (Ag.upd rfl (Ag.upd rfl (Ag.upd rfl (Ag.upd rfl (Ag.upd rfl (Ag.upd rfl (Ag.upd rfl (Ag.updL rfl (Ag.mix _ _ _)))))))))))), ⟨by rw [← el]; rfl, rfl, trivial⟩, h_43, (by omega), rfl⟩
    · have p_44 := of_decide_eq_false c_28
      refine WP.exit ?_
      refine thn_x ?_
      refine thn_x ?_
      refine inb_hit ?_
      refine thn_n ?_
      refine WP.seq ?_
      refine WP.reg ?_
      refine WL.q (Wn.no rfl) rfl rfl (R.move (v := (.slice ra (((ls.take q).flatten).length) rc)) rfl) ?_
      refine WL.q (Wn.no rfl) rfl rfl (R.assign (v := (.slice ra (((ls.take q).flatten).length) rc)) rfl) ?_
      refine WL.nil ?_
      refine thn_n ?_
      refine WP.ret ?_
      refine ret_of Try.results83 (RV.tmp (v := (.slice ra (((ls.take q).flatten).length) rc)) rfl RV.nil) ?_
      have hqn : q = n := by omega
      rw [hqn, List.take_of_length_le (by omega)] at h_25
      refine ⟨_, _, ?_, h_25.chgS, h_25.ok _ (.head _)⟩
      rw [hqn, List.take_of_length_le (by omega)]; rfl

theorem c_wJoin (a : Option Addr) (n cap : Nat) (xs : List Value) (ls : List (List UInt8)) (hln : ls.length = n) (hb : ls.flatten.length ≤ 1099511627776) (hnb : n ≤ 1099511627776) (w : World) (hv : View w a xs) (hs : Sls w xs ls) :
    Cs Try.prog 82 [(.slice a n cap)].toArray w (fun v w1 => ∃ a cap, v = .slice a ls.flatten.length cap ∧ Chg w w1 [] ∧ Own w.heap.size w1 5 1 a ls.flatten.length cap ((ls.flatten).map vu8)) := by
  refine Cs.of (n := 5) (args := [(.slice a n cap)]) Try.func82 rfl rfl rfl ?_
  have h_0 := HP.init w
  have h_01 := h_0.old (View.arg hv) (fun f hf => by cases hf)
  have h_00 := h_01.old hs.pin (fun f hf => by rw [List.mem_singleton] at hf; subst hf; intro hm; simp [Ent.mut] at hm)
  have hxl : xs.length = n := hs.len.trans hln
  refine WP.seq ?_
  refine WP.reg ?_
  refine WL.q (Wn.no rfl) rfl rfl (R.assign (v := (.slice none 0 0)) rfl) ?_
  refine WL.nil ?_
  refine thn_n ?_
  refine WP.seq ?_
  refine WP.reg ?_
  refine WL.q (Wn.no rfl) rfl rfl (R.move (v := (.slice a n cap)) rfl) ?_
  refine WL.call (al := [(.slice a n cap)]) Try.call83 rfl rfl (c_Concat a n cap xs ls hln (by omega) (by omega) _ (viewV (h_00.ok _ (.tail _ (.head _)))) (h_00.ok _ (.head _)).1) rfl ?_
  rintro _ w_3 ⟨a_1, cap_2, rfl, hc_4, ho_5⟩
  have h_6 := h_00.gotRow hc_4 ho_5
  refine WL.q (Wn.no rfl) rfl rfl (R.assign (v := (.slice a_1 ls.flatten.length cap_2)) rfl) ?_
  refine WL.nil ?_
  refine thn_n ?_
  refine WP.ret ?_
  refine ret_of Try.results82 (RV.tmp (v := (.slice a_1 ls.flatten.length cap_2)) rfl RV.nil) ?_
  exact ⟨_, _, rfl, h_6.chgS, h_6.ok _ (.head _)⟩
theorem c_get (a : Option Addr) (n cap : Nat) (bs : List UInt8) (hl : bs.length = n) (h8 : n ≤ 8) (w : World) (hv : View w a (bs.map vu8)) :
    Cs Try.prog 123 [(.slice a n cap)].toArray w (fun v w1 => v = vu64 (UInt64.ofNat (natLE bs)) ∧ Chg w w1 []) := by
  refine Cs.of (n := 22) (args := [(.slice a n cap)]) Try.func123 rfl rfl rfl ?_
  have h_0 := HP.init w
  have h_00 := h_0.old (View.arg hv) (fun f hf => by cases hf)
  refine WP.seq ?_
  refine WP.reg ?_
  refine WL.q (Wn.no rfl) rfl rfl (R.assign (v := (vu64 0)) rfl) ?_
  refine WL.nil ?_
  refine thn_n ?_
  refine WP.seq ?_
  refine WP.reg ?_
  refine WL.q (Wn.no rfl) rfl rfl (R.assign (v := (vu64 0)) rfl) ?_
  refine WL.nil ?_
  refine thn_n ?_
  refine WP.seq ?_
  refine WP.seq ?_
  refine WP.reg ?_
  refine WL.q (Wn.no rfl) rfl rfl (R.move (v := (.slice a n cap)) rfl) ?_
  refine WL.q (Wn.no rfl) rfl rfl (R.lenS (a := a) (m := n) rfl rfl Try.underlying62) ?_
  refine WL.q (Wn.no rfl) rfl rfl (R.move (v := (vi 0)) rfl) ?_
  refine WL.nil ?_
  refine thn_n ?_
  refine WP.block ?_
  refine WP.loopG (G := Nat) [3, 4, 5, 8, 9, 10, 11, 12, 13, 14, 15, 16, 17, 18, 19, 20] (fun k => [(3, (vu64 (UInt64.ofNat (natLE (bs.take k))))), (8, (vi ((k : Nat) : Int)))]) (fun k m w1 => HP w w1 [.view a (bs.map vu8)] ∧ (k ≤ n) ∧ m = n - k) ⟨0, _, ⟨rfl, rfl, trivial⟩, h_00, Nat.zero_le _, rfl⟩ ?_
  rintro k m_3 J_4 w_1 ⟨h_2, hk, rfl⟩
  refine WP.seq ?_
  refine WP.reg ?_
  refine WL.q (Wn.no rfl) rfl rfl (R.bin (v := (.bool (decide ((((k : Nat) : Int) : Int) < ((n : Nat) : Int))))) rfl rfl (bi_lss (r := decide ((((k : Nat) : Int) : Int) < ((n : Nat) : Int))) rfl)) ?_
  refine WL.nil ?_
  refine thn_n ?_
  refine WP.seq ?_
  refine WP.cond (b := decide ((((k : Nat) : Int) : Int) < ((n : Nat) : Int))) rfl (fun c_5 => ?_) (fun c_5 => ?_)
  · have p_6 := of_decide_eq_true c_5
    refine WP.skip ?_
    refine thn_n ?_
    refine WP.seq ?_
    refine WP.block ?_
    refine WP.seq ?_
    refine WP.reg ?_
    refine WL.q (Wn.no rfl) rfl rfl (R.move (v := (vi ((k : Nat) : Int))) rfl) ?_
    refine WL.q (Wn.no rfl) rfl rfl (R.indexS (a := a) (i := k) (off := k) (xs := bs.map vu8) rfl rfl rfl (by omega) (viewV (h_2.ok _ (.head _))) (lt_len (K := n) (len_map hl) (by omega)) Try.underlying62 Try.sizeOf5 (Nat.mul_one _).symm) ?_
    refine WL.q (Wn.no rfl) rfl rfl (R.loadG (a := a) (i := k) (xs := bs.map vu8) (v := (vu8 (bs.getD k 0))) rfl (viewV (h_2.ok _ (.head _))) Try.isAgg5 (get_u8 (lt_len (K := n) hl (by omega)))) ?_
    refine WL.q (Wn.no rfl) rfl rfl (R.assign (v := (vi ((k : Nat) : Int))) rfl) ?_
    refine WL.q (Wn.no rfl) rfl rfl (R.assign (v := (vu8 (bs.getD k 0))) rfl) ?_
    refine WL.nil ?_
    refine thn_n ?_
    refine WP.reg ?_
    refine WL.q (Wn.no rfl) rfl rfl (R.move (v := (vu64 (UInt64.ofNat (natLE (bs.take k))))) rfl) ?_
    refine WL.q (Wn.no rfl) rfl rfl (R.move (v := (vu8 (bs.getD k 0))) rfl) ?_
    refine WL.q (Wn.no rfl) rfl rfl (R.conv (b := ((UInt64.ofNat ((bs.getD k 0).toNat)) : UInt64).toNat) rfl Try.underlying5 Try.underlying37 (w64_nat ((bs.getD k 0).toNat))) ?_
    refine WL.q (Wn.no rfl) rfl rfl (R.move (v := (vi ((k : Nat) : Int))) rfl) ?_
    refine WL.q (Wn.no rfl) rfl rfl (R.bin (v := (vi ((8 * k : Nat) : Int))) rfl rfl (bi_mul (c := ((8 * k : Nat) : Int)) (by omega) (by omega))) ?_
    refine WL.q (Wn.no rfl) rfl rfl (R.binR (v := vu64 (shl64 (UInt64.ofNat ((bs.getD k 0).toNat)) (8 * k))) rfl rfl (run_shl64 _ _ _ (UInt64.ofNat ((bs.getD k 0).toNat)) _ (8 * k))) ?_
    refine WL.q (Wn.no rfl) rfl rfl (R.bin (v := (vu64 ((UInt64.ofNat (natLE (bs.take k))) ||| (shl64 (UInt64.ofNat ((bs.getD k 0).toNat)) (8 * k))))) rfl rfl (b64_or (UInt64.ofNat (natLE (bs.take k))) (shl64 (UInt64.ofNat ((bs.getD k 0).toNat)) (8 * k)))) ?_
    refine WL.q (Wn.no rfl) rfl rfl (R.assign (v := (vu64 ((UInt64.ofNat (natLE (bs.take k))) ||| (shl64 (UInt64.ofNat ((bs.getD k 0).toNat)) (8 * k))))) rfl) ?_
    refine WL.nil ?_
    refine inb_n ?_
    refine thn_n ?_
    refine WP.reg ?_
    refine WL.q (Wn.no rfl) rfl rfl (R.bin (v := (vi ((k + 1 : Nat) : Int))) rfl rfl (bi_add (c := ((k + 1 : Nat) : Int)) (by omega) (by omega))) ?_
    refine WL.q (Wn.no rfl) rfl rfl (R.move (v := (vi ((k + 1 : Nat) : Int))) rfl) ?_
    refine WL.nil ?_
    refine thn_n ?_
    exact ⟨k + 1, _, (by omega), (Ag.upd rfl (Ag.upd rfl (Ag.upd rfl (Ag.upd rfl (Ag.upd rfl (Ag.upd rfl (Ag.upd rfl (Ag.upd rfl (Ag.upd rfl (Ag.upd rfl (Ag.upd rfl (Ag.upd rfl (Ag.upd rfl (Ag.upd rfl (Ag.upd rfl (Ag.upd rfl (Ag.updL rfl (Ag.mix _ _ _)))))))))))))))))), ⟨congrArg (fun x : UInt64 => vu64 x) (by rw [natLE_take bs k (by omega)]; exact or_shl (by have := natLE_lt (bs.take k); rwa [List.length_take, Nat.min_eq_left (by omega)] at this) (by omega) (UInt8.toNat_lt _)), rfl, trivial⟩, h_2, (by omega), rfl⟩
  · have p_7 := of_decide_eq_false c_5
    refine WP.exit ?_
    refine thn_x ?_
    refine thn_x ?_
    refine inb_hit ?_
    refine thn_n ?_
    refine WP.seq ?_
    refine WP.reg ?_
    refine WL.q (Wn.no rfl) rfl rfl (R.move (v := (vu64 (UInt64.ofNat (natLE (bs.take k))))) rfl) ?_
    refine WL.q (Wn.no rfl) rfl rfl (R.assign (v := (vu64 (UInt64.ofNat (natLE (bs.take k))))) rfl) ?_
    refine WL.nil ?_
    refine thn_n ?_
    refine WP.ret ?_
    refine ret_of Try.results123 (RV.tmp (v := (vu64 (UInt64.ofNat (natLE (bs.take k))))) rfl RV.nil) ?_
    have hkn : k = n := by omega
    subst hkn
    exact ⟨by rw [List.take_of_length_le (by omega)]; rfl, h_2.chgS⟩

theorem shr_zero (x : UInt64) (k : Nat) : shr64 x (8 * k) = 0 ↔ x.toNat < 256 ^ k := by
  have hx := x.toNat_lt
  have h1 : x.toNat / 2 ^ (8 * k) ≤ x.toNat := Nat.div_le_self _ _
  rw [← UInt64.toNat_inj, shr64, pow256]
  have h2 : (UInt64.ofNat (x.toNat / 2 ^ (8 * k))).toNat = x.toNat / 2 ^ (8 * k) := by simp; omega
  rw [h2]
  show x.toNat / 2 ^ (8 * k) = 0 ↔ _
  rw [Nat.div_eq_zero_iff]
  have : 0 < 2 ^ (8 * k) := Nat.pow_pos (by omega)
  omega

theorem c_Put_a (x : UInt64) (n : Nat) (h1 : 1 ≤ n) (h8 : n < 8) (hx : x.toNat < 256 ^ n) (w : World) :
    Cs Try.prog 48 [(vu64 x), (vi ((n : Nat) : Int))].toArray w (fun v w1 => ∃ a cap, v = .tuple [.slice a n cap, vi 0].toArray ∧ Chg w w1 [] ∧ Own w.heap.size w1 5 1 a n cap ((leN n x.toNat).map vu8)) := by
  refine Cs.of (n := 39) (args := [(vu64 x), (vi ((n : Nat) : Int))]) Try.func48 rfl rfl rfl ?_
  have h_0 := HP.init w
  refine WP.seq ?_
  refine WP.reg ?_
  refine WL.q (Wn.no rfl) rfl rfl (R.assign (v := (.slice none 0 0)) rfl) ?_
  refine WL.q (Wn.no rfl) rfl rfl (R.assign (v := (vi 0)) rfl) ?_
  refine WL.nil ?_
  refine thn_n ?_
  refine WP.seq ?_
  refine WP.seq ?_
  refine WP.reg ?_
  refine WL.q (Wn.no rfl) rfl rfl (R.move (v := (vi ((n : Nat) : Int))) rfl) ?_
  refine WL.q (Wn.no rfl) rfl rfl (R.bin (v := (.bool (decide ((((n : Nat) : Int) : Int) < 1)))) rfl rfl (bi_lss (r := decide ((((n : Nat) : Int) : Int) < 1)) rfl)) ?_
  refine WL.q (Wn.no rfl) rfl rfl (R.move (v := (.bool (decide ((((n : Nat) : Int) : Int) < 1)))) rfl) ?_
  refine WL.want rfl (congrArg Value.bool (decide_eq_false (by omega))) ?_
  refine WL.q (Wn.no rfl) rfl rfl (R.move (v := (vi ((n : Nat) : Int))) rfl) ?_
  refine WL.want rfl (congrArg Value.bool (decide_eq_false (by omega))) ?_
  refine WL.q (Wn.no rfl) rfl rfl (R.bin (v := (.bool (decide ((((n : Nat) : Int) : Int) > 8)))) rfl rfl (bi_gtr (r := decide ((((n : Nat) : Int) : Int) > 8)) rfl)) ?_
  refine WL.q (Wn.no rfl) rfl rfl (R.pickF (v := (.bool (decide ((((n : Nat) : Int) : Int) > 8)))) (congrArg Value.bool (decide_eq_false (by omega))) rfl) ?_
  refine WL.q (Wn.no rfl) rfl rfl (R.move (v := (.bool (decide ((((n : Nat) : Int) : Int) > 8)))) rfl) ?_
  refine WL.want rfl (congrArg Value.bool (decide_eq_false (by omega))) ?_
  refine WL.q (Wn.no rfl) rfl rfl (R.move (v := (vi ((n : Nat) : Int))) rfl) ?_
  refine WL.want rfl (congrArg Value.bool (decide_eq_false (by omega))) ?_
  refine WL.q (Wn.no rfl) rfl rfl (R.bin (v := (.bool (decide ((((n : Nat) : Int) : Int) < 8)))) rfl rfl (bi_lss (r := decide ((((n : Nat) : Int) : Int) < 8)) rfl)) ?_
  refine WL.want rfl (congrArg Value.bool (decide_eq_false (by omega))) ?_
  refine WL.q (Wn.no rfl) rfl rfl (R.move (v := (.bool (decide ((((n : Nat) : Int) : Int) < 8)))) rfl) ?_
  refine WL.want rfl (congrArg Value.bool (decide_eq_true (by omega))) ?_
  refine WL.q (Wn.no rfl) rfl rfl (R.move (v := (vu64 x)) rfl) ?_
  refine WL.want rfl (congrArg Value.bool (decide_eq_true (by omega))) ?_
  refine WL.q (Wn.no rfl) rfl rfl (R.move (v := (vi ((n : Nat) : Int))) rfl) ?_
  refine WL.want rfl (congrArg Value.bool (decide_eq_true (by omega))) ?_
  refine WL.q (Wn.no rfl) rfl rfl (R.bin (v := (vi ((8 * n : Nat) : Int))) rfl rfl (bi_mul (c := ((8 * n : Nat) : Int)) (by omega) (by omega))) ?_
  refine WL.want rfl (congrArg Value.bool (decide_eq_true (by omega))) ?_
  refine WL.q (Wn.no rfl) rfl rfl (R.binR (v := vu64 (shr64 x (8 * n))) rfl rfl (run_shr64 _ _ _ x _ (8 * n))) ?_
  refine WL.want rfl (congrArg Value.bool (decide_eq_true (by omega))) ?_
  refine WL.q (Wn.no rfl) rfl rfl (R.bin (v := (.bool (decide ((shr64 x (8 * n) : UInt64) ≠ 0)))) rfl rfl (b64_neq (shr64 x (8 * n)) 0 (r := decide ((shr64 x (8 * n) : UInt64) ≠ 0)) rfl)) ?_
  refine WL.want rfl (congrArg Value.bool (decide_eq_false (by omega))) ?_
  refine WL.q (Wn.no rfl) rfl rfl (R.pickT (v := (.bool (decide ((shr64 x (8 * n) : UInt64) ≠ 0)))) (congrArg Value.bool (decide_eq_true (by omega))) rfl) ?_
  refine WL.q (Wn.no rfl) rfl rfl (R.pickF (v := (.bool (decide ((shr64 x (8 * n) : UInt64) ≠ 0)))) (congrArg Value.bool (decide_eq_false (by omega))) rfl) ?_
  refine WL.nil ?_
  refine thn_n ?_
  refine WP.condF (congrArg Value.bool (decide_eq_false (fun h => h ((shr_zero x n).2 hx)))) ?_
  refine WP.skip ?_
  refine thn_n ?_
  refine WP.seq ?_
  refine WP.reg ?_
  refine WL.q (Wn.no rfl) rfl rfl (R.assign (v := (.slice none 0 0)) rfl) ?_
  refine WL.nil ?_
  refine thn_n ?_
  refine WP.seq ?_
  refine WP.seq ?_
  refine WP.reg ?_
  refine WL.q (Wn.no rfl) rfl rfl (R.move (v := (vi ((n : Nat) : Int))) rfl) ?_
  refine WL.q (Wn.no rfl) rfl rfl (R.move (v := (vi 0)) rfl) ?_
  refine WL.nil ?_
  refine thn_n ?_
  refine WP.block ?_
  have h_1 := h_0.rowNil 5 1
  refine WP.loopG (G := Nat × Option Addr × Nat) [6, 7, 26, 27, 28, 29, 30, 31, 32, 33, 34, 35, 36, 37] (fun (k, a, cap) => [(6, (.slice a k cap)), (26, (vi ((k : Nat) : Int)))]) (fun (k, a, cap) m w1 => HP w w1 [.row a k cap 5 1 ((leN k x.toNat).map vu8)] ∧ (k ≤ n) ∧ m = n - k) ⟨(0, none, 0), _, ⟨rfl, rfl, trivial⟩, h_1, Nat.zero_le _, rfl⟩ ?_
  rintro ⟨k, a, cap⟩ m_4 J_5 w_2 ⟨h_3, hk, rfl⟩
  refine WP.seq ?_
  refine WP.reg ?_
  refine WL.q (Wn.no rfl) rfl rfl (R.bin (v := (.bool (decide ((((k : Nat) : Int) : Int) < ((n : Nat) : Int))))) rfl rfl (bi_lss (r := decide ((((k : Nat) : Int) : Int) < ((n : Nat) : Int))) rfl)) ?_
  refine WL.nil ?_
  refine thn_n ?_
  refine WP.seq ?_
  refine WP.cond (b := decide ((((k : Nat) : Int) : Int) < ((n : Nat) : Int))) rfl (fun c_6 => ?_) (fun c_6 => ?_)
  · have p_7 := of_decide_eq_true c_6
    refine WP.skip ?_
    refine thn_n ?_
    refine WP.seq ?_
    refine WP.block ?_
    refine WP.seq ?_
    refine WP.reg ?_
    refine WL.q (Wn.no rfl) rfl rfl (R.move (v := (vi ((k : Nat) : Int))) rfl) ?_
    refine WL.q (Wn.no rfl) rfl rfl (R.assign (v := (vi ((k : Nat) : Int))) rfl) ?_
    refine WL.nil ?_
    refine thn_n ?_
    refine WP.reg ?_
    refine WL.q (Wn.no rfl) rfl rfl (R.move (v := (.slice a k cap)) rfl) ?_
    refine WL.q (Wn.no rfl) rfl rfl (R.move (v := (vu64 x)) rfl) ?_
    refine WL.q (Wn.no rfl) rfl rfl (R.move (v := (vi ((k : Nat) : Int))) rfl) ?_
    refine WL.q (Wn.no rfl) rfl rfl (R.bin (v := (vi ((8 * k : Nat) : Int))) rfl rfl (bi_mul (c := ((8 * k : Nat) : Int)) (by omega) (by omega))) ?_
    refine WL.q (Wn.no rfl) rfl rfl (R.binR (v := vu64 (shr64 x (8 * k))) rfl rfl (run_shr64 _ _ _ x _ (8 * k))) ?_
    refine WL.q (Wn.no rfl) rfl rfl (R.conv (b := ((UInt8.ofNat ((shr64 x (8 * k)).toNat)) : UInt8).toNat) rfl Try.underlying37 Try.underlying5 (w8_nat ((shr64 x (8 * k)).toNat))) ?_
    refine WL.buildSl (vs := [(0, (vu8 (UInt8.ofNat ((shr64 x (8 * k)).toNat))))]) (cs := ([UInt8.ofNat ((shr64 x (8 * k)).toNat)] : List UInt8).map vu8) h_3 Try.underlying62 Try.sizeOf5 (zv Try.typeInfo5 rfl) rfl rfl (by kernel_rfl) rfl (one_u8 _) rfl rfl (fun b_8 w_9 h_10 => ?_)
    refine WL.append (km := k + 1) (xs := (leN k x.toNat).map vu8) (ys := ([UInt8.ofNat ((shr64 x (8 * k)).toNat)] : List UInt8).map vu8) (zs := ((leN k x.toNat).map vu8) ++ (([UInt8.ofNat ((shr64 x (8 * k)).toNat)] : List UInt8).map vu8)) h_10 rfl rfl el62 (viewB (h_10.ok _ (.head _)) Sg.h) ((len_map (rfl : List.length ([UInt8.ofNat ((shr64 x (8 * k)).toNat)] : List UInt8) = 1)).trans (Nat.mul_one _).symm) (one_u8 _) rfl (by omega) (by omega) (by omega) (fun _ _ => (At.t At.h)) rfl (fun a_11 c_12 w_13 h_14 => ?_)
    refine WL.q (Wn.no rfl) rfl rfl (R.assign (v := (.slice a_11 (k + 1) c_12)) rfl) ?_
    refine WL.nil ?_
    refine inb_n ?_
    refine thn_n ?_
    refine WP.reg ?_
    refine WL.q (Wn.no rfl) rfl rfl (R.bin (v := (vi ((k + 1 : Nat) : Int))) rfl rfl (bi_add (c := ((k + 1 : Nat) : Int)) (by omega) (by omega))) ?_
    refine WL.q (Wn.no rfl) rfl rfl (R.move (v := (vi ((k + 1 : Nat) : Int))) rfl) ?_
    refine WL.nil ?_
    refine thn_n ?_
    have h_15 := h_14.drop rfl
    have e : leN k x.toNat ++ ([UInt8.ofNat (shr64 x (8 * k)).toNat] : List UInt8) = leN (k + 1) x.toNat := by rw [leN_snoc, shr_byte]
    rw [show ((leN k x.toNat).map vu8) ++ (([UInt8.ofNat ((shr64 x (8 * k)).toNat)] : List UInt8).map vu8) = (leN (k + 1) x.toNat).map vu8 from by rw [← e, List.map_append]] at h_15
    exact ⟨(k + 1, a_11, c_12), _, (by omega), (Ag.upd rfl (Ag.upd rfl (Ag.upd rfl (Ag.upd rfl (Ag.upd rfl (Ag.upd rfl (Ag.upd rfl (Ag.upd rfl (Ag.upd rfl (Ag.upd rfl (Ag.upd rfl (Ag.upd rfl (Ag.upd rfl (Ag.upd rfl (Ag.updL rfl (Ag.mix _ _ _)))))))))))))))), ⟨rfl, rfl, trivial⟩, h_15, (by omega), rfl⟩
  · have p_17 := of_decide_eq_false c_6
    refine WP.exit ?_
    refine thn_x ?_
    refine thn_x ?_
    refine inb_hit ?_
    refine thn_n ?_
    refine WP.seq ?_
    refine WP.reg ?_
    refine WL.q (Wn.no rfl) rfl rfl (R.move (v := (.slice a k cap)) rfl) ?_
    refine WL.q (Wn.no rfl) rfl rfl (R.assign (v := (.slice a k cap)) rfl) ?_
    refine WL.q (Wn.no rfl) rfl rfl (R.assign (v := (vi 0)) rfl) ?_
    refine WL.nil ?_
    refine thn_n ?_
    refine WP.ret ?_
    refine ret_of Try.results48 (RV.tmp (v := (.slice a k cap)) rfl (RV.tmp (v := (vi 0)) rfl RV.nil)) ?_
    have hkn : k = n := by omega
    subst hkn
    exact ⟨_, _, rfl, h_3.chgS, h_3.ok _ (.head _)⟩

theorem c_Put_b (x : UInt64) (n : Nat) (h8 : n = 8) (w : World) :
    Cs Try.prog 48 [(vu64 x), (vi ((n : Nat) : Int))].toArray w (fun v w1 => ∃ a cap, v = .tuple [.slice a n cap, vi 0].toArray ∧ Chg w w1 [] ∧ Own w.heap.size w1 5 1 a n cap ((leN n x.toNat).map vu8)) := by
  refine Cs.of (n := 39) (args := [(vu64 x), (vi ((n : Nat) : Int))]) Try.func48 rfl rfl rfl ?_
  have h_0 := HP.init w
  refine WP.seq ?_
  refine WP.reg ?_
  refine WL.q (Wn.no rfl) rfl rfl (R.assign (v := (.slice none 0 0)) rfl) ?_
  refine WL.q (Wn.no rfl) rfl rfl (R.assign (v := (vi 0)) rfl) ?_
  refine WL.nil ?_
  refine thn_n ?_
  refine WP.seq ?_
  refine WP.seq ?_
  refine WP.reg ?_
  refine WL.q (Wn.no rfl) rfl rfl (R.move (v := (vi ((n : Nat) : Int))) rfl) ?_
  refine WL.q (Wn.no rfl) rfl rfl (R.bin (v := (.bool (decide ((((n : Nat) : Int) : Int) < 1)))) rfl rfl (bi_lss (r := decide ((((n : Nat) : Int) : Int) < 1)) rfl)) ?_
  refine WL.q (Wn.no rfl) rfl rfl (R.move (v := (.bool (decide ((((n : Nat) : Int) : Int) < 1)))) rfl) ?_
  refine WL.want rfl (congrArg Value.bool (decide_eq_false (by omega))) ?_
  refine WL.q (Wn.no rfl) rfl rfl (R.move (v := (vi ((n : Nat) : Int))) rfl) ?_
  refine WL.want rfl (congrArg Value.bool (decide_eq_false (by omega))) ?_
  refine WL.q (Wn.no rfl) rfl rfl (R.bin (v := (.bool (decide ((((n : Nat) : Int) : Int) > 8)))) rfl rfl (bi_gtr (r := decide ((((n : Nat) : Int) : Int) > 8)) rfl)) ?_
  refine WL.q (Wn.no rfl) rfl rfl (R.pickF (v := (.bool (decide ((((n : Nat) : Int) : Int) > 8)))) (congrArg Value.bool (decide_eq_false (by omega))) rfl) ?_
  refine WL.q (Wn.no rfl) rfl rfl (R.move (v := (.bool (decide ((((n : Nat) : Int) : Int) > 8)))) rfl) ?_
  refine WL.want rfl (congrArg Value.bool (decide_eq_false (by omega))) ?_
  refine WL.q (Wn.no rfl) rfl rfl (R.move (v := (vi ((n : Nat) : Int))) rfl) ?_
  refine WL.want rfl (congrArg Value.bool (decide_eq_false (by omega))) ?_
  refine WL.q (Wn.no rfl) rfl rfl (R.bin (v := (.bool (decide ((((n : Nat) : Int) : Int) < 8)))) rfl rfl (bi_lss (r := decide ((((n : Nat) : Int) : Int) < 8)) rfl)) ?_
  refine WL.want rfl (congrArg Value.bool (decide_eq_false (by omega))) ?_
  refine WL.q (Wn.no rfl) rfl rfl (R.move (v := (.bool (decide ((((n : Nat) : Int) : Int) < 8)))) rfl) ?_
  refine WL.skip rfl (congrArg Value.bool (decide_eq_false (by omega))) rfl ?_
  refine WL.skip rfl (congrArg Value.bool (decide_eq_false (by omega))) rfl ?_
  refine WL.skip rfl (congrArg Value.bool (decide_eq_false (by omega))) rfl ?_
  refine WL.skip rfl (congrArg Value.bool (decide_eq_false (by omega))) rfl ?_
  refine WL.skip rfl (congrArg Value.bool (decide_eq_false (by omega))) rfl ?_
  refine WL.want rfl (congrArg Value.bool (decide_eq_false (by omega))) ?_
  refine WL.q (Wn.no rfl) rfl rfl (R.pickF (v := (.bool false)) (congrArg Value.bool (decide_eq_false (by omega))) rfl) ?_
  refine WL.q (Wn.no rfl) rfl rfl (R.pickF (v := (.bool false)) (congrArg Value.bool (decide_eq_false (by omega))) rfl) ?_
  refine WL.nil ?_
  refine thn_n ?_
  refine WP.condF rfl ?_
  refine WP.skip ?_
  refine thn_n ?_
  refine WP.seq ?_
  refine WP.reg ?_
  refine WL.q (Wn.no rfl) rfl rfl (R.assign (v := (.slice none 0 0)) rfl) ?_
  refine WL.nil ?_
  refine thn_n ?_
  refine WP.seq ?_
  refine WP.seq ?_
  refine WP.reg ?_
  refine WL.q (Wn.no rfl) rfl rfl (R.move (v := (vi ((n : Nat) : Int))) rfl) ?_
  refine WL.q (Wn.no rfl) rfl rfl (R.move (v := (vi 0)) rfl) ?_
  refine WL.nil ?_
  refine thn_n ?_
  refine WP.block ?_
  have h_1 := h_0.rowNil 5 1
  refine WP.loopG (G := Nat × Option Addr × Nat) [6, 7, 26, 27, 28, 29, 30, 31, 32, 33, 34, 35, 36, 37] (fun (k, a, cap) => [(6, (.slice a k cap)), (26, (vi ((k : Nat) : Int)))]) (fun (k, a, cap) m w1 => HP w w1 [.row a k cap 5 1 ((leN k x.toNat).map vu8)] ∧ (k ≤ n) ∧ m = n - k) ⟨(0, none, 0), _, ⟨rfl, rfl, trivial⟩, h_1, Nat.zero_le _, rfl⟩ ?_
  rintro ⟨k, a, cap⟩ m_4 J_5 w_2 ⟨h_3, hk, rfl⟩
  refine WP.seq ?_
  refine WP.reg ?_
  refine WL.q (Wn.no rfl) rfl rfl (R.bin (v := (.bool (decide ((((k : Nat) : Int) : Int) < ((n : Nat) : Int))))) rfl rfl (bi_lss (r := decide ((((k : Nat) : Int) : Int) < ((n : Nat) : Int))) rfl)) ?_
  refine WL.nil ?_
  refine thn_n ?_
  refine WP.seq ?_
  refine WP.cond (b := decide ((((k : Nat) : Int) : Int) < ((n : Nat) : Int))) rfl (fun c_6 => ?_) (fun c_6 => ?_)
  · have p_7 := of_decide_eq_true c_6
    refine WP.skip ?_
    refine thn_n ?_
    refine WP.seq ?_
    refine WP.block ?_
    refine WP.seq ?_
    refine WP.reg ?_
    refine WL.q (Wn.no rfl) rfl rfl (R.move (v := (vi ((k : Nat) : Int))) rfl) ?_
    refine WL.q (Wn.no rfl) rfl rfl (R.assign (v := (vi ((k : Nat) : Int))) rfl) ?_
    refine WL.nil ?_
    refine thn_n ?_
    refine WP.reg ?_
    refine WL.q (Wn.no rfl) rfl rfl (R.move (v := (.slice a k cap)) rfl) ?_
    refine WL.q (Wn.no rfl) rfl rfl (R.move (v := (vu64 x)) rfl) ?_
    refine WL.q (Wn.no rfl) rfl rfl (R.move (v := (vi ((k : Nat) : Int))) rfl) ?_
    refine WL.q (Wn.no rfl) rfl rfl (R.bin (v := (vi ((8 * k : Nat) : Int))) rfl rfl (bi_mul (c := ((8 * k : Nat) : Int)) (by omega) (by omega))) ?_
    refine WL.q (Wn.no rfl) rfl rfl (R.binR (v := vu64 (shr64 x (8 * k))) rfl rfl (run_shr64 _ _ _ x _ (8 * k))) ?_
    refine WL.q (Wn.no rfl) rfl rfl (R.conv (b := ((UInt8.ofNat ((shr64 x (8 * k)).toNat)) : UInt8).toNat) rfl Try.underlying37 Try.underlying5 (w8_nat ((shr64 x (8 * k)).toNat))) ?_
    refine WL.buildSl (vs := [(0, (vu8 (UInt8.ofNat ((shr64 x (8 * k)).toNat))))]) (cs := ([UInt8.ofNat ((shr64 x (8 * k)).toNat)] : List UInt8).map vu8) h_3 Try.underlying62 Try.sizeOf5 (zv Try.typeInfo5 rfl) rfl rfl (by kernel_rfl) rfl (one_u8 _) rfl rfl (fun b_8 w_9 h_10 => ?_)
    refine WL.append (km := k + 1) (xs := (leN k x.toNat).map vu8) (ys := ([UInt8.ofNat ((shr64 x (8 * k)).toNat)] : List UInt8).map vu8) (zs := ((leN k x.toNat).map vu8) ++ (([UInt8.ofNat ((shr64 x (8 * k)).toNat)] : List UInt8).map vu8)) h_10 rfl rfl el62 (viewB (h_10.ok _ (.head _)) Sg.h) ((len_map (rfl : List.length ([UInt8.ofNat ((shr64 x (8 * k)).toNat)] : List UInt8) = 1)).trans (Nat.mul_one _).symm) (one_u8 _) rfl (by omega) (by omega) (by omega) (fun _ _ => (At.t At.h)) rfl (fun a_11 c_12 w_13 h_14 => ?_)
    refine WL.q (Wn.no rfl) rfl rfl (R.assign (v := (.slice a_11 (k + 1) c_12)) rfl) ?_
    refine WL.nil ?_
    refine inb_n ?_
    refine thn_n ?_
    refine WP.reg ?_
    refine WL.q (Wn.no rfl) rfl rfl (R.bin (v := (vi ((k + 1 : Nat) : Int))) rfl rfl (bi_add (c := ((k + 1 : Nat) : Int)) (by omega) (by omega))) ?_
    refine WL.q (Wn.no rfl) rfl rfl (R.move (v := (vi ((k + 1 : Nat) : Int))) rfl) ?_
    refine WL.nil ?_
    refine thn_n ?_
    have h_15 := h_14.drop rfl
    have e : leN k x.toNat ++ ([UInt8.ofNat (shr64 x (8 * k)).toNat] : List UInt8) = leN (k + 1) x.toNat := by rw [leN_snoc, shr_byte]
    rw [show ((leN k x.toNat).map vu8) ++ (([UInt8.ofNat ((shr64 x (8 * k)).toNat)] : List UInt8).map vu8) = (leN (k + 1) x.toNat).map vu8 from by rw [← e, List.map_append]] at h_15
    exact ⟨(k + 1, a_11, c_12), _, (by omega), (Ag.upd rfl (Ag.upd rfl (Ag.upd rfl (Ag.upd rfl (Ag.upd rfl (Ag.upd rfl (Ag.upd rfl (Ag.upd rfl (Ag.upd rfl (Ag.upd rfl (Ag.upd rfl (Ag.upd rfl (Ag.upd rfl (Ag.upd rfl (Ag.updL rfl (Ag.mix _ _ _)))))))))))))))), ⟨rfl, rfl, trivial⟩, h_15, (by omega), rfl⟩
  · have p_17 := of_decide_eq_false c_6
    refine WP.exit ?_
    refine thn_x ?_
    refine thn_x ?_
    refine inb_hit ?_
    refine thn_n ?_
    refine WP.seq ?_
    refine WP.reg ?_
    refine WL.q (Wn.no rfl) rfl rfl (R.move (v := (.slice a k cap)) rfl) ?_
    refine WL.q (Wn.no rfl) rfl rfl (R.assign (v := (.slice a k cap)) rfl) ?_
    refine WL.q (Wn.no rfl) rfl rfl (R.assign (v := (vi 0)) rfl) ?_
    refine WL.nil ?_
    refine thn_n ?_
    refine WP.ret ?_
    refine ret_of Try.results48 (RV.tmp (v := (.slice a k cap)) rfl (RV.tmp (v := (vi 0)) rfl RV.nil)) ?_
    have hkn : k = n := by omega
    subst hkn
    exact ⟨_, _, rfl, h_3.chgS, h_3.ok _ (.head _)⟩
end Go.Proofs.Ytbldmljbfokobaa
