/- WireBytes holds of every input. Conditions: none. -/
import Derived.Test.YtcmgadjnammahaaU6
namespace Go.Proofs.Ytcmgadjnammahaa
open Go.Vc Go.RowKit
set_option linter.unusedVariables false
set_option linter.unusedSimpArgs false
set_option maxRecDepth 20000

theorem w_Bytes_a (a : Option Addr) (n cap : Nat) (bs : List UInt8) (hl : bs.length = n) (a2 : Option Addr) (n2 cap2 : Nat) (bs2 : List UInt8) (hl2 : bs2.length = n2) (i : Int) (h : 9000 < n) (w : World) (hv : View w a (bs.map vu8)) (hv2 : View w a2 (bs2.map vu8)) :
    Cs Try.prog 9 [(.slice a n cap), (.slice a2 n2 cap2), (vi i)].toArray w (fun v w1 => v = .bool true ∧ Chg w w1 []) := by
  refine Cs.of (n := 69) (args := [(.slice a n cap), (.slice a2 n2 cap2), (vi i)]) Try.func9 rfl rfl rfl ?_
  have h_0 := HP.init w
  have h_01 := h_0.old (View.arg hv) (fun f hf => by cases hf)
  have h_00 := h_01.old (View.arg hv2) (fun f hf => by rw [List.mem_singleton] at hf; subst hf; intro hm; simp [Ent.mut] at hm)
  refine WP.seq ?_
  refine WP.reg ?_
  refine WL.q (Wn.no rfl) rfl rfl (R.assign (v := (.bool false)) rfl) ?_
  refine WL.nil ?_
  refine thn_n ?_
  refine WP.seq ?_
  refine WP.seq ?_
  refine WP.reg ?_
  refine WL.q (Wn.no rfl) rfl rfl (R.move (v := (.slice a n cap)) rfl) ?_
  refine WL.q (Wn.no rfl) rfl rfl (R.lenS (a := a) (m := n) rfl rfl Try.underlying23) ?_
  refine WL.q (Wn.no rfl) rfl rfl (R.bin (v := (.bool (decide ((((n : Nat) : Int) : Int) > 9000)))) rfl rfl (bi_gtr (r := decide ((((n : Nat) : Int) : Int) > 9000)) rfl)) ?_
  refine WL.q (Wn.no rfl) rfl rfl (R.move (v := (.bool (decide ((((n : Nat) : Int) : Int) > 9000)))) rfl) ?_
  refine WL.skip rfl (congrArg Value.bool (decide_eq_true (by omega))) rfl ?_
  refine WL.skip rfl (congrArg Value.bool (decide_eq_true (by omega))) rfl ?_
  refine WL.skip rfl (congrArg Value.bool (decide_eq_true (by omega))) rfl ?_
  refine WL.q (Wn.no rfl) rfl rfl (R.pickT (v := (.bool true)) (congrArg Value.bool (decide_eq_true (by omega))) rfl) ?_
  refine WL.nil ?_
  refine thn_n ?_
  refine WP.condT rfl ?_
  refine WP.seq ?_
  refine WP.reg ?_
  refine WL.call (al := []) Try.call22 rfl rfl (c_known1  _ ) rfl ?_
  rintro _ w_2 ⟨rfl, hc_1⟩
  have h_3 := h_00.same hc_1
  refine WL.q (Wn.no rfl) rfl rfl (R.assign (v := (.bool true)) rfl) ?_
  refine WL.nil ?_
  refine thn_n ?_
  refine WP.ret ?_
  refine thn_r ?_
  refine ret_of Try.results9 (RV.tmp (v := (.bool true)) rfl RV.nil) ?_
  exact ⟨rfl, h_3.chgS⟩

theorem w_Bytes_b (a : Option Addr) (n cap : Nat) (bs : List UInt8) (hl : bs.length = n) (a2 : Option Addr) (n2 cap2 : Nat) (bs2 : List UInt8) (hl2 : bs2.length = n2) (i : Int) (h : ¬ 9000 < n) (h2 : 9000 < n2) (w : World) (hv : View w a (bs.map vu8)) (hv2 : View w a2 (bs2.map vu8)) :
    Cs Try.prog 9 [(.slice a n cap), (.slice a2 n2 cap2), (vi i)].toArray w (fun v w1 => v = .bool true ∧ Chg w w1 []) := by
  refine Cs.of (n := 69) (args := [(.slice a n cap), (.slice a2 n2 cap2), (vi i)]) Try.func9 rfl rfl rfl ?_
  have h_0 := HP.init w
  have h_01 := h_0.old (View.arg hv) (fun f hf => by cases hf)
  have h_00 := h_01.old (View.arg hv2) (fun f hf => by rw [List.mem_singleton] at hf; subst hf; intro hm; simp [Ent.mut] at hm)
  refine WP.seq ?_
  refine WP.reg ?_
  refine WL.q (Wn.no rfl) rfl rfl (R.assign (v := (.bool false)) rfl) ?_
  refine WL.nil ?_
  refine thn_n ?_
  refine WP.seq ?_
  refine WP.seq ?_
  refine WP.reg ?_
  refine WL.q (Wn.no rfl) rfl rfl (R.move (v := (.slice a n cap)) rfl) ?_
  refine WL.q (Wn.no rfl) rfl rfl (R.lenS (a := a) (m := n) rfl rfl Try.underlying23) ?_
  refine WL.q (Wn.no rfl) rfl rfl (R.bin (v := (.bool (decide ((((n : Nat) : Int) : Int) > 9000)))) rfl rfl (bi_gtr (r := decide ((((n : Nat) : Int) : Int) > 9000)) rfl)) ?_
  refine WL.q (Wn.no rfl) rfl rfl (R.move (v := (.bool (decide ((((n : Nat) : Int) : Int) > 9000)))) rfl) ?_
  refine WL.want rfl (congrArg Value.bool (decide_eq_false (by omega))) ?_
  refine WL.q (Wn.no rfl) rfl rfl (R.move (v := (.slice a2 n2 cap2)) rfl) ?_
  refine WL.want rfl (congrArg Value.bool (decide_eq_false (by omega))) ?_
  refine WL.q (Wn.no rfl) rfl rfl (R.lenS (a := a2) (m := n2) rfl rfl Try.underlying23) ?_
  refine WL.want rfl (congrArg Value.bool (decide_eq_false (by omega))) ?_
  refine WL.q (Wn.no rfl) rfl rfl (R.bin (v := (.bool (decide ((((n2 : Nat) : Int) : Int) > 9000)))) rfl rfl (bi_gtr (r := decide ((((n2 : Nat) : Int) : Int) > 9000)) rfl)) ?_
  refine WL.q (Wn.no rfl) rfl rfl (R.pickF (v := (.bool (decide ((((n2 : Nat) : Int) : Int) > 9000)))) (congrArg Value.bool (decide_eq_false (by omega))) rfl) ?_
  refine WL.nil ?_
  refine thn_n ?_
  refine WP.condT (congrArg Value.bool (decide_eq_true (by omega))) ?_
  refine WP.seq ?_
  refine WP.reg ?_
  refine WL.call (al := []) Try.call22 rfl rfl (c_known1  _ ) rfl ?_
  rintro _ w_2 ⟨rfl, hc_1⟩
  have h_3 := h_00.same hc_1
  refine WL.q (Wn.no rfl) rfl rfl (R.assign (v := (.bool true)) rfl) ?_
  refine WL.nil ?_
  refine thn_n ?_
  refine WP.ret ?_
  refine thn_r ?_
  refine ret_of Try.results9 (RV.tmp (v := (.bool true)) rfl RV.nil) ?_
  exact ⟨rfl, h_3.chgS⟩

theorem w_Bytes_n (a : Option Addr) (n cap : Nat) (bs : List UInt8) (hl : bs.length = n) (a2 : Option Addr) (n2 cap2 : Nat) (bs2 : List UInt8) (hl2 : bs2.length = n2) (i : Nat) (h : ¬ 9000 < n) (h2 : ¬ 9000 < n2) (w : World) (hv : View w a (bs.map vu8)) (hv2 : View w a2 (bs2.map vu8)) (hcap : n ≤ cap) :
    Cs Try.prog 9 [(.slice a n cap), (.slice a2 n2 cap2), (vi ((i : Nat) : Int))].toArray w (fun v w1 => v = .bool true ∧ Chg w w1 []) := by
  refine Cs.of (n := 69) (args := [(.slice a n cap), (.slice a2 n2 cap2), (vi ((i : Nat) : Int))]) Try.func9 rfl rfl rfl ?_
  have h_0 := HP.init w
  have h_01 := h_0.old (View.arg hv) (fun f hf => by cases hf)
  have h_00 := h_01.old (View.arg hv2) (fun f hf => by rw [List.mem_singleton] at hf; subst hf; intro hm; simp [Ent.mut] at hm)
  refine WP.seq ?_
  refine WP.reg ?_
  refine WL.q (Wn.no rfl) rfl rfl (R.assign (v := (.bool false)) rfl) ?_
  refine WL.nil ?_
  refine thn_n ?_
  refine WP.seq ?_
  refine WP.seq ?_
  refine WP.reg ?_
  refine WL.q (Wn.no rfl) rfl rfl (R.move (v := (.slice a n cap)) rfl) ?_
  refine WL.q (Wn.no rfl) rfl rfl (R.lenS (a := a) (m := n) rfl rfl Try.underlying23) ?_
  refine WL.q (Wn.no rfl) rfl rfl (R.bin (v := (.bool (decide ((((n : Nat) : Int) : Int) > 9000)))) rfl rfl (bi_gtr (r := decide ((((n : Nat) : Int) : Int) > 9000)) rfl)) ?_
  refine WL.q (Wn.no rfl) rfl rfl (R.move (v := (.bool (decide ((((n : Nat) : Int) : Int) > 9000)))) rfl) ?_
  refine WL.want rfl (congrArg Value.bool (decide_eq_false (by omega))) ?_
  refine WL.q (Wn.no rfl) rfl rfl (R.move (v := (.slice a2 n2 cap2)) rfl) ?_
  refine WL.want rfl (congrArg Value.bool (decide_eq_false (by omega))) ?_
  refine WL.q (Wn.no rfl) rfl rfl (R.lenS (a := a2) (m := n2) rfl rfl Try.underlying23) ?_
  refine WL.want rfl (congrArg Value.bool (decide_eq_false (by omega))) ?_
  refine WL.q (Wn.no rfl) rfl rfl (R.bin (v := (.bool (decide ((((n2 : Nat) : Int) : Int) > 9000)))) rfl rfl (bi_gtr (r := decide ((((n2 : Nat) : Int) : Int) > 9000)) rfl)) ?_
  refine WL.q (Wn.no rfl) rfl rfl (R.pickF (v := (.bool (decide ((((n2 : Nat) : Int) : Int) > 9000)))) (congrArg Value.bool (decide_eq_false (by omega))) rfl) ?_
  refine WL.nil ?_
  refine thn_n ?_
  refine WP.condF (congrArg Value.bool (decide_eq_false (by omega))) ?_
  refine WP.skip ?_
  refine thn_n ?_
  refine WP.seq ?_
  refine WP.reg ?_
  refine WL.q (Wn.no rfl) rfl rfl (R.move (v := (.slice a n cap)) rfl) ?_
  refine WL.q (Wn.no rfl) rfl rfl (R.toStr (bs := bs) rfl Try.underlying23 Try.underlying5 Try.underlying9 (viewV (h_00.ok _ (.tail _ (.head _)))) hl) ?_
  refine WL.q (Wn.no rfl) rfl rfl (R.assign (v := (.string (bstr bs))) rfl) ?_
  refine WL.nil ?_
  refine thn_n ?_
  refine WP.seq ?_
  refine WP.reg ?_
  refine WL.q (Wn.no rfl) rfl rfl (R.move (v := (.slice a n cap)) rfl) ?_
  refine WL.call (al := [(.slice a n cap)]) Try.call34 rfl rfl (c_Turned a n cap bs hl (by omega) _ (viewV (h_00.ok _ (.tail _ (.head _))))) rfl ?_
  rintro _ w_3 ⟨a_1, cap_2, rfl, hc_4, ho_5⟩
  have h_6 := h_00.gotRow hc_4 ho_5
  refine WL.q (Wn.no rfl) rfl rfl (R.assign (v := (.slice a_1 n cap_2)) rfl) ?_
  refine WL.nil ?_
  refine thn_n ?_
  refine WP.seq ?_
  refine WP.seq ?_
  refine WP.reg ?_
  refine WL.q (Wn.no rfl) rfl rfl (R.move (v := (.slice a_1 n cap_2)) rfl) ?_
  refine WL.q (Wn.no rfl) rfl rfl (R.move (v := (.slice a n cap)) rfl) ?_
  refine WL.call (al := [(.slice a n cap)]) Try.call44 rfl rfl (c_TurnedR a n cap bs hl (by omega) _ (viewV (h_6.ok _ (.tail _ (.tail _ (.head _)))))) rfl ?_
  rintro _ w_9 ⟨a_7, cap_8, rfl, hc_10, ho_11⟩
  have h_12 := h_6.gotRow hc_10 ho_11
  refine WL.call (al := [(.slice a_1 n cap_2), (.slice a_7 n cap_8)]) Try.call19 rfl rfl (c_SameR a_1 n cap_2 bs.reverse ((List.length_reverse ..).trans hl) a_7 n cap_8 bs.reverse ((List.length_reverse ..).trans hl) _ (ownView (h_12.ok _ (.tail _ (.head _)))) (ownView (h_12.ok _ (.head _)))) rfl ?_
  rintro _ w_14 ⟨rfl, hc_13⟩
  have h_15 := h_12.same hc_13
  refine WL.q (Wn.no rfl) rfl rfl (R.not (b := true) (congrArg Value.bool (decide_eq_true rfl))) ?_
  refine WL.q (Wn.no rfl) rfl rfl (R.move (v := (.bool false)) rfl) ?_
  refine WL.want rfl rfl ?_
  refine WL.q (Wn.no rfl) rfl rfl (R.move (v := (.slice a n cap)) rfl) ?_
  refine WL.want rfl rfl ?_
  refine WL.q (Wn.no rfl) rfl rfl (R.move (v := (vi ((i : Nat) : Int))) rfl) ?_
  refine WL.want rfl rfl ?_
  refine WL.call (al := [(.slice a n cap), (vi ((i : Nat) : Int))]) Try.call45 rfl rfl (c_Word a n cap bs hl i (by omega) _ (viewV (h_15.ok _ (.tail _ (.tail _ (.tail _ (.head _)))))) (by omega)) rfl ?_
  rintro _ w_17 ⟨rfl, hc_16⟩
  have h_18 := h_15.same hc_16
  refine WL.want rfl rfl ?_
  refine WL.q (Wn.no rfl) rfl rfl (R.move (v := (.slice a n cap)) rfl) ?_
  refine WL.want rfl rfl ?_
  refine WL.q (Wn.no rfl) rfl rfl (R.move (v := (vi ((i : Nat) : Int))) rfl) ?_
  refine WL.want rfl rfl ?_
  refine WL.call (al := [(.slice a n cap), (vi ((i : Nat) : Int))]) Try.call46 rfl rfl (c_WordR a n cap bs hl i (by omega) _ (viewV (h_18.ok _ (.tail _ (.tail _ (.tail _ (.head _))))))) rfl ?_
  rintro _ w_20 ⟨rfl, hc_19⟩
  have h_21 := h_18.same hc_19
  refine WL.want rfl rfl ?_
  refine WL.q (Wn.no rfl) rfl rfl (R.bin (v := (.bool false)) rfl rfl (b64_neq (wordB bs i) (wordB bs i) (r := false) (by simp))) ?_
  refine WL.q (Wn.no rfl) rfl rfl (R.pickF (v := (.bool false)) rfl rfl) ?_
  refine WL.q (Wn.no rfl) rfl rfl (R.move (v := (.bool false)) rfl) ?_
  refine WL.want rfl rfl ?_
  refine WL.q (Wn.no rfl) rfl rfl (R.move (v := (.slice a n cap)) rfl) ?_
  refine WL.want rfl rfl ?_
  refine WL.call (al := [(.slice a n cap)]) Try.call33 rfl rfl (c_Hex a n cap bs hl (by omega) _ (viewV (h_21.ok _ (.tail _ (.tail _ (.tail _ (.head _))))))) rfl ?_
  rintro _ w_23 ⟨rfl, hc_22⟩
  have h_24 := h_21.same hc_22
  refine WL.want rfl rfl ?_
  refine WL.q (Wn.no rfl) rfl rfl (R.move (v := (.slice a n cap)) rfl) ?_
  refine WL.want rfl rfl ?_
  refine WL.call (al := [(.slice a n cap)]) Try.call47 rfl rfl (c_HexR a n cap bs hl (by omega) _ (viewV (h_24.ok _ (.tail _ (.tail _ (.tail _ (.head _))))))) rfl ?_
  rintro _ w_26 ⟨rfl, hc_25⟩
  have h_27 := h_24.same hc_25
  refine WL.want rfl rfl ?_
  refine WL.q (Wn.no rfl) rfl rfl (R.neStr (a := Go.Wr.hexL bs) (b := Go.Wr.hexL bs) (r := false) rfl rfl (by simp)) ?_
  refine WL.q (Wn.no rfl) rfl rfl (R.pickF (v := (.bool false)) rfl rfl) ?_
  refine WL.q (Wn.no rfl) rfl rfl (R.move (v := (.bool false)) rfl) ?_
  refine WL.want rfl rfl ?_
  refine WL.q (Wn.no rfl) rfl rfl (R.move (v := (.slice a n cap)) rfl) ?_
  refine WL.want rfl rfl ?_
  refine WL.q (Wn.no rfl) rfl rfl (R.move (v := (.slice a2 n2 cap2)) rfl) ?_
  refine WL.want rfl rfl ?_
  refine WL.call (al := [(.slice a n cap), (.slice a2 n2 cap2)]) Try.call48 rfl rfl (c_wSame a n cap bs hl a2 n2 cap2 bs2 hl2 _ (viewV (h_27.ok _ (.tail _ (.tail _ (.tail _ (.head _)))))) (viewV (h_27.ok _ (.tail _ (.tail _ (.head _)))))) rfl ?_
  rintro _ w_29 ⟨rfl, hc_28⟩
  have h_30 := h_27.same hc_28
  refine WL.want rfl rfl ?_
  refine WL.q (Wn.no rfl) rfl rfl (R.move (v := (.slice a n cap)) rfl) ?_
  refine WL.want rfl rfl ?_
  refine WL.q (Wn.no rfl) rfl rfl (R.move (v := (.slice a2 n2 cap2)) rfl) ?_
  refine WL.want rfl rfl ?_
  refine WL.call (al := [(.slice a n cap), (.slice a2 n2 cap2)]) Try.call19 rfl rfl (c_SameR a n cap bs hl a2 n2 cap2 bs2 hl2 _ (viewV (h_30.ok _ (.tail _ (.tail _ (.tail _ (.head _)))))) (viewV (h_30.ok _ (.tail _ (.tail _ (.head _)))))) rfl ?_
  rintro _ w_32 ⟨rfl, hc_31⟩
  have h_33 := h_30.same hc_31
  refine WL.want rfl rfl ?_
  refine WL.q (Wn.no rfl) rfl rfl (R.neB (a := decide (bs = bs2)) (b := decide (bs = bs2)) (c := false) rfl rfl Try.underlying4 (by simp)) ?_
  refine WL.q (Wn.no rfl) rfl rfl (R.pickF (v := (.bool false)) rfl rfl) ?_
  refine WL.nil ?_
  refine thn_n ?_
  refine WP.condF rfl ?_
  refine WP.skip ?_
  refine thn_n ?_
  refine WP.seq ?_
  refine WP.seq ?_
  refine WP.reg ?_
  refine WL.q (Wn.no rfl) rfl rfl (R.assign (v := (vi 0)) rfl) ?_
  refine WL.nil ?_
  refine thn_n ?_
  refine WP.block ?_
  refine WP.loopG (G := Nat × List UInt8) [9, 53, 54, 55, 56, 57, 58, 59, 60, 61] (fun (k, l) => [(9, (vi ((k : Nat) : Int)))]) (fun (k, l) m w1 => HP w w1 [.row a_7 n cap_8 5 1 (bs.reverse.map vu8), .row a_1 n cap_2 5 1 (l.map vu8), .view a2 (bs2.map vu8), .view a (bs.map vu8)] ∧ (k ≤ n) ∧ (l.length = n) ∧ m = n - k) ⟨(0, bs.reverse), _, ⟨rfl, trivial⟩, h_33, (by omega), ((List.length_reverse ..).trans hl), rfl⟩ ?_
  rintro ⟨k, l⟩ m_36 J_37 w_34 ⟨h_35, hk, hll, rfl⟩
  refine WP.seq ?_
  refine WP.seq ?_
  refine WP.reg ?_
  refine WL.q (Wn.no rfl) rfl rfl (R.move (v := (vi ((k : Nat) : Int))) rfl) ?_
  refine WL.q (Wn.no rfl) rfl rfl (R.move (v := (.slice a_1 n cap_2)) rfl) ?_
  refine WL.q (Wn.no rfl) rfl rfl (R.lenS (a := a_1) (m := n) rfl rfl Try.underlying23) ?_
  refine WL.q (Wn.no rfl) rfl rfl (R.bin (v := (.bool (decide ((((k : Nat) : Int) : Int) < ((n : Nat) : Int))))) rfl rfl (bi_lss (r := decide ((((k : Nat) : Int) : Int) < ((n : Nat) : Int))) rfl)) ?_
  refine WL.nil ?_
  refine thn_n ?_
  refine WP.cond (b := decide ((((k : Nat) : Int) : Int) < ((n : Nat) : Int))) rfl (fun c_38 => ?_) (fun c_38 => ?_)
  · have p_39 := of_decide_eq_true c_38
    refine WP.skip ?_
    refine thn_n ?_
    refine WP.seq ?_
    refine WP.block ?_
    refine WP.reg ?_
    refine WL.q (Wn.no rfl) rfl rfl (R.move (v := (.slice a_1 n cap_2)) rfl) ?_
    refine WL.q (Wn.no rfl) rfl rfl (R.move (v := (vi ((k : Nat) : Int))) rfl) ?_
    refine WL.q (Wn.no rfl) rfl rfl (R.indexS (a := a_1) (i := k) (off := k) (xs := l.map vu8) rfl rfl rfl (by omega) (ownView (h_35.ok _ (.tail _ (.head _)))) (lt_len (K := n) (len_map hll) (by omega)) Try.underlying23 Try.sizeOf5 (Nat.mul_one _).symm) ?_
    refine WL.storeR (a := a_1) (i := k) (v := (vu8 1)) (xs' := (l.set k 1).map vu8) h_35 rfl rfl Try.sizeOf5 rfl (At.t At.h) (lt_len (K := n) (len_map hll) (by omega)) (set_u8 _ _ _) (fun w_40 h_41 => ?_)
    refine WL.nil ?_
    refine inb_n ?_
    refine thn_n ?_
    refine WP.reg ?_
    refine WL.q (Wn.no rfl) rfl rfl (R.move (v := (vi ((k : Nat) : Int))) rfl) ?_
    refine WL.q (Wn.no rfl) rfl rfl (R.bin (v := (vi ((k + 1 : Nat) : Int))) rfl rfl (bi_add (c := ((k + 1 : Nat) : Int)) (by omega) (by omega))) ?_
    refine WL.q (Wn.no rfl) rfl rfl (R.assign (v := (vi ((k + 1 : Nat) : Int))) rfl) ?_
    refine WL.nil ?_
    refine thn_n ?_
    exact ⟨(k + 1, l.set k 1), _, (by omega), (Ag.upd rfl (Ag.upd rfl (Ag.upd rfl (Ag.upd rfl (Ag.upd rfl (Ag.upd rfl (Ag.upd rfl (Ag.upd rfl (Ag.upd rfl (Ag.upd rfl (Ag.updL rfl (Ag.mix _ _ _)))))))))))), ⟨rfl, trivial⟩, h_41, (by omega), (len_set hll _ _), rfl⟩
  · have p_42 := of_decide_eq_false c_38
    refine WP.exit ?_
    refine thn_x ?_
    refine thn_x ?_
    refine inb_hit ?_
    refine thn_n ?_
    refine WP.seq ?_
    refine WP.reg ?_
    refine WL.q (Wn.no rfl) rfl rfl (R.move (v := (.slice a n cap)) rfl) ?_
    refine WL.q (Wn.no rfl) rfl rfl (R.toStr (bs := bs) rfl Try.underlying23 Try.underlying5 Try.underlying9 (viewV (h_35.ok _ (.tail _ (.tail _ (.tail _ (.head _)))))) hl) ?_
    refine WL.q (Wn.no rfl) rfl rfl (R.move (v := (.string (bstr bs))) rfl) ?_
    refine WL.q (Wn.no rfl) rfl rfl (R.eqStr (a := bs) (b := bs) (r := true) rfl rfl (by simp)) ?_
    refine WL.q (Wn.no rfl) rfl rfl (R.move (v := (.bool true)) rfl) ?_
    refine WL.want rfl rfl ?_
    refine WL.call (al := []) Try.call22 rfl rfl (c_known1  _ ) rfl ?_
    rintro _ w_44 ⟨rfl, hc_43⟩
    have h_45 := h_35.same hc_43
    refine WL.q (Wn.no rfl) rfl rfl (R.pickT (v := (.bool true)) rfl rfl) ?_
    refine WL.q (Wn.no rfl) rfl rfl (R.assign (v := (.bool true)) rfl) ?_
    refine WL.nil ?_
    refine thn_n ?_
    refine WP.ret ?_
    refine ret_of Try.results9 (RV.tmp (v := (.bool true)) rfl RV.nil) ?_
    exact ⟨rfl, h_45.chgS⟩

theorem w_Bytes_m (a : Option Addr) (n cap : Nat) (bs : List UInt8) (hl : bs.length = n) (a2 : Option Addr) (n2 cap2 : Nat) (bs2 : List UInt8) (hl2 : bs2.length = n2) (i : Int) (hi : i < 0) (h : ¬ 9000 < n) (h2 : ¬ 9000 < n2) (w : World) (hv : View w a (bs.map vu8)) (hv2 : View w a2 (bs2.map vu8)) (hcap : n ≤ cap) :
    Cs Try.prog 9 [(.slice a n cap), (.slice a2 n2 cap2), (vi i)].toArray w (fun v w1 => v = .bool true ∧ Chg w w1 []) := by
  refine Cs.of (n := 69) (args := [(.slice a n cap), (.slice a2 n2 cap2), (vi i)]) Try.func9 rfl rfl rfl ?_
  have h_0 := HP.init w
  have h_01 := h_0.old (View.arg hv) (fun f hf => by cases hf)
  have h_00 := h_01.old (View.arg hv2) (fun f hf => by rw [List.mem_singleton] at hf; subst hf; intro hm; simp [Ent.mut] at hm)
  refine WP.seq ?_
  refine WP.reg ?_
  refine WL.q (Wn.no rfl) rfl rfl (R.assign (v := (.bool false)) rfl) ?_
  refine WL.nil ?_
  refine thn_n ?_
  refine WP.seq ?_
  refine WP.seq ?_
  refine WP.reg ?_
  refine WL.q (Wn.no rfl) rfl rfl (R.move (v := (.slice a n cap)) rfl) ?_
  refine WL.q (Wn.no rfl) rfl rfl (R.lenS (a := a) (m := n) rfl rfl Try.underlying23) ?_
  refine WL.q (Wn.no rfl) rfl rfl (R.bin (v := (.bool (decide ((((n : Nat) : Int) : Int) > 9000)))) rfl rfl (bi_gtr (r := decide ((((n : Nat) : Int) : Int) > 9000)) rfl)) ?_
  refine WL.q (Wn.no rfl) rfl rfl (R.move (v := (.bool (decide ((((n : Nat) : Int) : Int) > 9000)))) rfl) ?_
  refine WL.want rfl (congrArg Value.bool (decide_eq_false (by omega))) ?_
  refine WL.q (Wn.no rfl) rfl rfl (R.move (v := (.slice a2 n2 cap2)) rfl) ?_
  refine WL.want rfl (congrArg Value.bool (decide_eq_false (by omega))) ?_
  refine WL.q (Wn.no rfl) rfl rfl (R.lenS (a := a2) (m := n2) rfl rfl Try.underlying23) ?_
  refine WL.want rfl (congrArg Value.bool (decide_eq_false (by omega))) ?_
  refine WL.q (Wn.no rfl) rfl rfl (R.bin (v := (.bool (decide ((((n2 : Nat) : Int) : Int) > 9000)))) rfl rfl (bi_gtr (r := decide ((((n2 : Nat) : Int) : Int) > 9000)) rfl)) ?_
  refine WL.q (Wn.no rfl) rfl rfl (R.pickF (v := (.bool (decide ((((n2 : Nat) : Int) : Int) > 9000)))) (congrArg Value.bool (decide_eq_false (by omega))) rfl) ?_
  refine WL.nil ?_
  refine thn_n ?_
  refine WP.condF (congrArg Value.bool (decide_eq_false (by omega))) ?_
  refine WP.skip ?_
  refine thn_n ?_
  refine WP.seq ?_
  refine WP.reg ?_
  refine WL.q (Wn.no rfl) rfl rfl (R.move (v := (.slice a n cap)) rfl) ?_
  refine WL.q (Wn.no rfl) rfl rfl (R.toStr (bs := bs) rfl Try.underlying23 Try.underlying5 Try.underlying9 (viewV (h_00.ok _ (.tail _ (.head _)))) hl) ?_
  refine WL.q (Wn.no rfl) rfl rfl (R.assign (v := (.string (bstr bs))) rfl) ?_
  refine WL.nil ?_
  refine thn_n ?_
  refine WP.seq ?_
  refine WP.reg ?_
  refine WL.q (Wn.no rfl) rfl rfl (R.move (v := (.slice a n cap)) rfl) ?_
  refine WL.call (al := [(.slice a n cap)]) Try.call34 rfl rfl (c_Turned a n cap bs hl (by omega) _ (viewV (h_00.ok _ (.tail _ (.head _))))) rfl ?_
  rintro _ w_3 ⟨a_1, cap_2, rfl, hc_4, ho_5⟩
  have h_6 := h_00.gotRow hc_4 ho_5
  refine WL.q (Wn.no rfl) rfl rfl (R.assign (v := (.slice a_1 n cap_2)) rfl) ?_
  refine WL.nil ?_
  refine thn_n ?_
  refine WP.seq ?_
  refine WP.seq ?_
  refine WP.reg ?_
  refine WL.q (Wn.no rfl) rfl rfl (R.move (v := (.slice a_1 n cap_2)) rfl) ?_
  refine WL.q (Wn.no rfl) rfl rfl (R.move (v := (.slice a n cap)) rfl) ?_
  refine WL.call (al := [(.slice a n cap)]) Try.call44 rfl rfl (c_TurnedR a n cap bs hl (by omega) _ (viewV (h_6.ok _ (.tail _ (.tail _ (.head _)))))) rfl ?_
  rintro _ w_9 ⟨a_7, cap_8, rfl, hc_10, ho_11⟩
  have h_12 := h_6.gotRow hc_10 ho_11
  refine WL.call (al := [(.slice a_1 n cap_2), (.slice a_7 n cap_8)]) Try.call19 rfl rfl (c_SameR a_1 n cap_2 bs.reverse ((List.length_reverse ..).trans hl) a_7 n cap_8 bs.reverse ((List.length_reverse ..).trans hl) _ (ownView (h_12.ok _ (.tail _ (.head _)))) (ownView (h_12.ok _ (.head _)))) rfl ?_
  rintro _ w_14 ⟨rfl, hc_13⟩
  have h_15 := h_12.same hc_13
  refine WL.q (Wn.no rfl) rfl rfl (R.not (b := true) (congrArg Value.bool (decide_eq_true rfl))) ?_
  refine WL.q (Wn.no rfl) rfl rfl (R.move (v := (.bool false)) rfl) ?_
  refine WL.want rfl rfl ?_
  refine WL.q (Wn.no rfl) rfl rfl (R.move (v := (.slice a n cap)) rfl) ?_
  refine WL.want rfl rfl ?_
  refine WL.q (Wn.no rfl) rfl rfl (R.move (v := (vi i)) rfl) ?_
  refine WL.want rfl rfl ?_
  refine WL.call (al := [(.slice a n cap), (vi i)]) Try.call45 rfl rfl (c_Word_neg a n cap bs hl i (by omega) _ (viewV (h_15.ok _ (.tail _ (.tail _ (.tail _ (.head _))))))) rfl ?_
  rintro _ w_17 ⟨rfl, hc_16⟩
  have h_18 := h_15.same hc_16
  refine WL.want rfl rfl ?_
  refine WL.q (Wn.no rfl) rfl rfl (R.move (v := (.slice a n cap)) rfl) ?_
  refine WL.want rfl rfl ?_
  refine WL.q (Wn.no rfl) rfl rfl (R.move (v := (vi i)) rfl) ?_
  refine WL.want rfl rfl ?_
  refine WL.call (al := [(.slice a n cap), (vi i)]) Try.call46 rfl rfl (c_WordR_neg a n cap bs hl i (by omega) _ (viewV (h_18.ok _ (.tail _ (.tail _ (.tail _ (.head _))))))) rfl ?_
  rintro _ w_20 ⟨rfl, hc_19⟩
  have h_21 := h_18.same hc_19
  refine WL.want rfl rfl ?_
  refine WL.q (Wn.no rfl) rfl rfl (R.bin (v := (.bool false)) rfl rfl (b64_neq 0 0 (r := false) rfl)) ?_
  refine WL.q (Wn.no rfl) rfl rfl (R.pickF (v := (.bool false)) rfl rfl) ?_
  refine WL.q (Wn.no rfl) rfl rfl (R.move (v := (.bool false)) rfl) ?_
  refine WL.want rfl rfl ?_
  refine WL.q (Wn.no rfl) rfl rfl (R.move (v := (.slice a n cap)) rfl) ?_
  refine WL.want rfl rfl ?_
  refine WL.call (al := [(.slice a n cap)]) Try.call33 rfl rfl (c_Hex a n cap bs hl (by omega) _ (viewV (h_21.ok _ (.tail _ (.tail _ (.tail _ (.head _))))))) rfl ?_
  rintro _ w_23 ⟨rfl, hc_22⟩
  have h_24 := h_21.same hc_22
  refine WL.want rfl rfl ?_
  refine WL.q (Wn.no rfl) rfl rfl (R.move (v := (.slice a n cap)) rfl) ?_
  refine WL.want rfl rfl ?_
  refine WL.call (al := [(.slice a n cap)]) Try.call47 rfl rfl (c_HexR a n cap bs hl (by omega) _ (viewV (h_24.ok _ (.tail _ (.tail _ (.tail _ (.head _))))))) rfl ?_
  rintro _ w_26 ⟨rfl, hc_25⟩
  have h_27 := h_24.same hc_25
  refine WL.want rfl rfl ?_
  refine WL.q (Wn.no rfl) rfl rfl (R.neStr (a := Go.Wr.hexL bs) (b := Go.Wr.hexL bs) (r := false) rfl rfl (by simp)) ?_
  refine WL.q (Wn.no rfl) rfl rfl (R.pickF (v := (.bool false)) rfl rfl) ?_
  refine WL.q (Wn.no rfl) rfl rfl (R.move (v := (.bool false)) rfl) ?_
  refine WL.want rfl rfl ?_
  refine WL.q (Wn.no rfl) rfl rfl (R.move (v := (.slice a n cap)) rfl) ?_
  refine WL.want rfl rfl ?_
  refine WL.q (Wn.no rfl) rfl rfl (R.move (v := (.slice a2 n2 cap2)) rfl) ?_
  refine WL.want rfl rfl ?_
  refine WL.call (al := [(.slice a n cap), (.slice a2 n2 cap2)]) Try.call48 rfl rfl (c_wSame a n cap bs hl a2 n2 cap2 bs2 hl2 _ (viewV (h_27.ok _ (.tail _ (.tail _ (.tail _ (.head _)))))) (viewV (h_27.ok _ (.tail _ (.tail _ (.head _)))))) rfl ?_
  rintro _ w_29 ⟨rfl, hc_28⟩
  have h_30 := h_27.same hc_28
  refine WL.want rfl rfl ?_
  refine WL.q (Wn.no rfl) rfl rfl (R.move (v := (.slice a n cap)) rfl) ?_
  refine WL.want rfl rfl ?_
  refine WL.q (Wn.no rfl) rfl rfl (R.move (v := (.slice a2 n2 cap2)) rfl) ?_
  refine WL.want rfl rfl ?_
  refine WL.call (al := [(.slice a n cap), (.slice a2 n2 cap2)]) Try.call19 rfl rfl (c_SameR a n cap bs hl a2 n2 cap2 bs2 hl2 _ (viewV (h_30.ok _ (.tail _ (.tail _ (.tail _ (.head _)))))) (viewV (h_30.ok _ (.tail _ (.tail _ (.head _)))))) rfl ?_
  rintro _ w_32 ⟨rfl, hc_31⟩
  have h_33 := h_30.same hc_31
  refine WL.want rfl rfl ?_
  refine WL.q (Wn.no rfl) rfl rfl (R.neB (a := decide (bs = bs2)) (b := decide (bs = bs2)) (c := false) rfl rfl Try.underlying4 (by simp)) ?_
  refine WL.q (Wn.no rfl) rfl rfl (R.pickF (v := (.bool false)) rfl rfl) ?_
  refine WL.nil ?_
  refine thn_n ?_
  refine WP.condF rfl ?_
  refine WP.skip ?_
  refine thn_n ?_
  refine WP.seq ?_
  refine WP.seq ?_
  refine WP.reg ?_
  refine WL.q (Wn.no rfl) rfl rfl (R.assign (v := (vi 0)) rfl) ?_
  refine WL.nil ?_
  refine thn_n ?_
  refine WP.block ?_
  refine WP.loopG (G := Nat × List UInt8) [9, 53, 54, 55, 56, 57, 58, 59, 60, 61] (fun (k, l) => [(9, (vi ((k : Nat) : Int)))]) (fun (k, l) m w1 => HP w w1 [.row a_7 n cap_8 5 1 (bs.reverse.map vu8), .row a_1 n cap_2 5 1 (l.map vu8), .view a2 (bs2.map vu8), .view a (bs.map vu8)] ∧ (k ≤ n) ∧ (l.length = n) ∧ m = n - k) ⟨(0, bs.reverse), _, ⟨rfl, trivial⟩, h_33, (by omega), ((List.length_reverse ..).trans hl), rfl⟩ ?_
  rintro ⟨k, l⟩ m_36 J_37 w_34 ⟨h_35, hk, hll, rfl⟩
  refine WP.seq ?_
  refine WP.seq ?_
  refine WP.reg ?_
  refine WL.q (Wn.no rfl) rfl rfl (R.move (v := (vi ((k : Nat) : Int))) rfl) ?_
  refine WL.q (Wn.no rfl) rfl rfl (R.move (v := (.slice a_1 n cap_2)) rfl) ?_
  refine WL.q (Wn.no rfl) rfl rfl (R.lenS (a := a_1) (m := n) rfl rfl Try.underlying23) ?_
  refine WL.q (Wn.no rfl) rfl rfl (R.bin (v := (.bool (decide ((((k : Nat) : Int) : Int) < ((n : Nat) : Int))))) rfl rfl (bi_lss (r := decide ((((k : Nat) : Int) : Int) < ((n : Nat) : Int))) rfl)) ?_
  refine WL.nil ?_
  refine thn_n ?_
  refine WP.cond (b := decide ((((k : Nat) : Int) : Int) < ((n : Nat) : Int))) rfl (fun c_38 => ?_) (fun c_38 => ?_)
  · have p_39 := of_decide_eq_true c_38
    refine WP.skip ?_
    refine thn_n ?_
    refine WP.seq ?_
    refine WP.block ?_
    refine WP.reg ?_
    refine WL.q (Wn.no rfl) rfl rfl (R.move (v := (.slice a_1 n cap_2)) rfl) ?_
    refine WL.q (Wn.no rfl) rfl rfl (R.move (v := (vi ((k : Nat) : Int))) rfl) ?_
    refine WL.q (Wn.no rfl) rfl rfl (R.indexS (a := a_1) (i := k) (off := k) (xs := l.map vu8) rfl rfl rfl (by omega) (ownView (h_35.ok _ (.tail _ (.head _)))) (lt_len (K := n) (len_map hll) (by omega)) Try.underlying23 Try.sizeOf5 (Nat.mul_one _).symm) ?_
    refine WL.storeR (a := a_1) (i := k) (v := (vu8 1)) (xs' := (l.set k 1).map vu8) h_35 rfl rfl Try.sizeOf5 rfl (At.t At.h) (lt_len (K := n) (len_map hll) (by omega)) (set_u8 _ _ _) (fun w_40 h_41 => ?_)
    refine WL.nil ?_
    refine inb_n ?_
    refine thn_n ?_
    refine WP.reg ?_
    refine WL.q (Wn.no rfl) rfl rfl (R.move (v := (vi ((k : Nat) : Int))) rfl) ?_
    refine WL.q (Wn.no rfl) rfl rfl (R.bin (v := (vi ((k + 1 : Nat) : Int))) rfl rfl (bi_add (c := ((k + 1 : Nat) : Int)) (by omega) (by omega))) ?_
    refine WL.q (Wn.no rfl) rfl rfl (R.assign (v := (vi ((k + 1 : Nat) : Int))) rfl) ?_
    refine WL.nil ?_
    refine thn_n ?_
    exact ⟨(k + 1, l.set k 1), _, (by omega), (Ag.upd rfl (Ag.upd rfl (Ag.upd rfl (Ag.upd rfl (Ag.upd rfl (Ag.upd rfl (Ag.upd rfl (Ag.upd rfl (Ag.upd rfl (Ag.upd rfl (Ag.updL rfl (Ag.mix _ _ _)))))))))))), ⟨rfl, trivial⟩, h_41, (by omega), (len_set hll _ _), rfl⟩
  · have p_42 := of_decide_eq_false c_38
    refine WP.exit ?_
    refine thn_x ?_
    refine thn_x ?_
    refine inb_hit ?_
    refine thn_n ?_
    refine WP.seq ?_
    refine WP.reg ?_
    refine WL.q (Wn.no rfl) rfl rfl (R.move (v := (.slice a n cap)) rfl) ?_
    refine WL.q (Wn.no rfl) rfl rfl (R.toStr (bs := bs) rfl Try.underlying23 Try.underlying5 Try.underlying9 (viewV (h_35.ok _ (.tail _ (.tail _ (.tail _ (.head _)))))) hl) ?_
    refine WL.q (Wn.no rfl) rfl rfl (R.move (v := (.string (bstr bs))) rfl) ?_
    refine WL.q (Wn.no rfl) rfl rfl (R.eqStr (a := bs) (b := bs) (r := true) rfl rfl (by simp)) ?_
    refine WL.q (Wn.no rfl) rfl rfl (R.move (v := (.bool true)) rfl) ?_
    refine WL.want rfl rfl ?_
    refine WL.call (al := []) Try.call22 rfl rfl (c_known1  _ ) rfl ?_
    rintro _ w_44 ⟨rfl, hc_43⟩
    have h_45 := h_35.same hc_43
    refine WL.q (Wn.no rfl) rfl rfl (R.pickT (v := (.bool true)) rfl rfl) ?_
    refine WL.q (Wn.no rfl) rfl rfl (R.assign (v := (.bool true)) rfl) ?_
    refine WL.nil ?_
    refine thn_n ?_
    refine WP.ret ?_
    refine ret_of Try.results9 (RV.tmp (v := (.bool true)) rfl RV.nil) ?_
    exact ⟨rfl, h_45.chgS⟩

theorem w_WireBytes (a : Option Addr) (n cap : Nat) (bs : List UInt8) (hl : bs.length = n) (a2 : Option Addr) (n2 cap2 : Nat) (bs2 : List UInt8) (hl2 : bs2.length = n2) (i : Int) (w : World) (hv : View w a (bs.map vu8)) (hv2 : View w a2 (bs2.map vu8)) (hcap : n ≤ cap) : Cs Try.prog 9 [.slice a n cap, .slice a2 n2 cap2, vi i].toArray w (fun v w1 => v = .bool true ∧ Chg w w1 []) := by
  by_cases h : 9000 < n
  · exact w_Bytes_a a n cap bs hl a2 n2 cap2 bs2 hl2 i h w hv hv2
  by_cases h2 : 9000 < n2
  · exact w_Bytes_b a n cap bs hl a2 n2 cap2 bs2 hl2 i h h2 w hv hv2
  by_cases hi : i < 0
  · exact w_Bytes_m a n cap bs hl a2 n2 cap2 bs2 hl2 i hi h h2 w hv hv2 hcap
  obtain ⟨q, rfl⟩ : ∃ q : Nat, i = (q : Int) := ⟨i.toNat, by omega⟩
  exact w_Bytes_n a n cap bs hl a2 n2 cap2 bs2 hl2 q h h2 w hv hv2 hcap
namespace wireBytesDone
open Go.ChangeShapes Go.WideShapes Go.ChangeAt
theorem own : ownKnob Try.prog.godebug = none := by kernel_rfl
theorem laidOut : laidOutB Try.prog = true := by kernel_rfl
set_option maxRecDepth 100000 in
theorem lifted (os : Os) (started : os.Started) (H : Type) (enc : TypeId × Value → H) :
    ReturnsInHanded {} Try.checked os 9 .any (Rows.wireBytesSpec.pre6 enc Try.prog Try.f9 Rows.wireBytesRow.domain false) (Rows.wireBytesSpec.post enc Try.prog Try.f9 false true false false) := by
  refine returnsInHanded_of_change (C := Try.checked) own started (by kernel_rfl) Try.func9
    (ChangeSpec.witness6 (enc := enc) (C := Try.checked) false ⟨#[], #[.slice none 0 0, .slice none 0 0, .int .i64 0], []⟩ 8 (by kernel_rfl) (by kernel_rfl) (by kernel_rfl) (by kernel_rfl)) ?_
  intro W base args ds gs before hval0 hW hcnd _
  have hval : ∀ (j : Nat) t v, Try.f9.params[j]? = some t → args[j]? = some v → Value.okWide Try.prog W .any base t v := hval0
  have hW' := hW
  obtain ⟨p, q, hA0, hV, rfl, hfz, hnd⟩ := hW
  have hA : DataW.TrodAll enc Try.prog W 0 (fun _ => true) true Try.f9.params.toList args.toList ds p := hA0
  rw [Try.params9] at hA hval
  obtain ⟨v0, vs0, d0, ds0, p0, q0, hargs, rfl, rfl, h0, r0⟩ := trodAll_cons hA
  obtain ⟨v1, vs1, d1, ds1, p1, q1, rfl, rfl, rfl, h1, r1⟩ := trodAll_cons r0
  obtain ⟨v2, vs2, d2, ds2, p2, q2, rfl, rfl, rfl, h2, r2⟩ := trodAll_cons r1
  obtain ⟨rfl, rfl, rfl⟩ := trodAll_nil r2
  obtain rfl : args = #[v0, v1, v2] := by cases args; simp_all
  obtain ⟨rfl, rfl⟩ := trodVars_none hV
  have lt0 : ∀ x ∈ p0, x.block < W.heap.size := by obtain ⟨m, hm⟩ := h0; exact DataW.trod_lt m _ _ _ hm
  obtain ⟨a0, n0, c0, rfl⟩ := okWide_slice Try.underlying23 (hval 0 23 v0 rfl rfl)
  obtain ⟨a0, n0, c0, x0, e0, l_x0, hc0, hm0, hv0, hn0⟩ := Tr.sl8 Try.underlying23 ce5 Try.underlying5 (Tr.of h0 rfl)
  cases e0
  have lt1 : ∀ x ∈ p1, x.block < W.heap.size := by obtain ⟨m, hm⟩ := h1; exact DataW.trod_lt m _ _ _ hm
  obtain ⟨a1, n1, c1, rfl⟩ := okWide_slice Try.underlying23 (hval 1 23 v1 rfl rfl)
  obtain ⟨a1, n1, c1, x1, e1, l_x1, hc1, hm1, hv1, hn1⟩ := Tr.sl8 Try.underlying23 ce5 Try.underlying5 (Tr.of h1 rfl)
  cases e1
  have lt2 : ∀ x ∈ p2, x.block < W.heap.size := by obtain ⟨m, hm⟩ := h2; exact DataW.trod_lt m _ _ _ hm
  obtain ⟨x2, rfl⟩ := okWide_int Try.underlying3 (hval 2 3 v2 rfl rfl)
  have b_x2 := Tr.i64' Try.underlying3 (Tr.of h2 rfl)
  clear hA0 hval0
  have hw : Cs Try.prog 9 [(.slice a0 n0 c0), (.slice a1 n1 c1), (vi x2)].toArray W (fun v w1 => v = .bool true ∧ Chg W w1 []) := w_WireBytes a0 n0 c0 x0 l_x0 a1 n1 c1 x1 l_x1 x2 W hv0.1 hv1.1 hc0
  have ea : ([(.slice a0 n0 c0), (.slice a1 n1 c1), (vi x2)] : List Value).toArray = (#[(.slice a0 n0 c0), (.slice a1 n1 c1), (vi x2)] : Array Value) := by simp [flat]
  rw [ea] at hw
  refine Calls.mono (Cs.below hw) fun e W' ⟨he, bel⟩ => ?_
  subst he
  exact ⟨_, rfl, _, _, _, [], _, [], hW', trodAll_mk1 (shut_bool Try.underlying4 _), (trodAll_cons_mk (Below.trod laidOut (by kernel_rfl) (of_decide_eq_true (by kernel_rfl)) h0 bel lt0) (trodAll_cons_mk (Below.trod laidOut (by kernel_rfl) (of_decide_eq_true (by kernel_rfl)) h1 bel lt1) (trodAll_cons_mk (Below.trod laidOut (by kernel_rfl) (of_decide_eq_true (by kernel_rfl)) h2 bel lt2) trodAll_mk0))), rfl, bel.frame _, fun h => by cases h⟩
theorem over : Rows.wireBytesRow.holds Try.pinned (OpenSpec.ofChange Rows.wireBytesSpec) :=
  OpenClaim.holds_of_wide 9 Try.f9 rfl rfl rfl rfl rfl rfl rfl ⟨rfl, rfl, rfl, rfl, rfl⟩ rfl rfl rfl rfl rfl (by kernel_rfl) Try.func9 (by kernel_rfl)
    (of_decide_eq_true (by kernel_rfl)) (by unfold Func.isWrapper; first | (rw [if_pos (by decide +kernel)]; kernel_rfl) | (rw [if_neg (by decide +kernel)]; exact ⟨rfl, rfl⟩))
    (fun os started H enc _ => lifted os started H enc)
theorem proved : Rows.WireBytesSaid := over
end wireBytesDone
end Go.Proofs.Ytcmgadjnammahaa
