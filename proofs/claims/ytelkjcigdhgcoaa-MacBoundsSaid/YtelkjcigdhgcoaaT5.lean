/- Lists of bytes: contracts. Conditions: those that each theorem states. -/
import Derived.Test.YtelkjcigdhgcoaaT4
namespace Go.Proofs.Ytelkjcigdhgcoaa
open Go.Vc Go.RowKit
set_option linter.unusedVariables false
set_option linter.unusedSimpArgs false
set_option maxRecDepth 20000

theorem c_PackR (a : Option Addr) (n cap : Nat) (xs : List Value) (ls : List (List UInt8)) (hln : ls.length = n) (hm : Go.Wr.mayPack ls = true) (w : World) (hv : View w a xs) (hs : Sls w xs ls) :
    Cs Try.prog 66 [(.slice a n cap)].toArray w (fun v w1 => ∃ a cap, v = .slice a (Go.Wr.packL ls).length cap ∧ Chg w w1 [] ∧ Own w.heap.size w1 5 1 a (Go.Wr.packL ls).length cap ((Go.Wr.packL ls).map vu8)) := by
  refine Cs.of (n := 26) (args := [(.slice a n cap)]) Try.func66 rfl rfl rfl ?_
  have h_0 := HP.init w
  have h_01 := h_0.old (View.arg hv) (fun f hf => by cases hf)
  have h_00 := h_01.old hs.pin (fun f hf => by rw [List.mem_singleton] at hf; subst hf; intro hm; simp [Ent.mut] at hm)
  have hxl : xs.length = n := hs.len.trans hln
  have ha := (mp_all hm).1
  have h64 := (mp_all hm).2
  refine WP.seq ?_
  refine WP.reg ?_
  refine WL.q (Wn.no rfl) rfl rfl (R.assign (v := (.slice none 0 0)) rfl) ?_
  refine WL.nil ?_
  refine thn_n ?_
  refine WP.seq ?_
  refine WP.reg ?_
  refine WL.q (Wn.no rfl) rfl rfl (R.assign (v := (.slice none 0 0)) rfl) ?_
  refine WL.nil ?_
  refine thn_n ?_
  refine WP.seq ?_
  refine WP.seq ?_
  refine WP.reg ?_
  refine WL.q (Wn.no rfl) rfl rfl (R.assign (v := (vi 0)) rfl) ?_
  refine WL.nil ?_
  refine thn_n ?_
  refine WP.block ?_
  have h_1 := h_00.rowNil 5 1
  refine WP.loopG (G := Nat × Option Addr × Nat) [3, 4, 5, 6, 7, 8, 9, 10, 11, 12, 13, 14, 15, 16, 17, 18, 19, 20, 21, 22, 23, 24] (fun (k, ra, rc) => [(3, (.slice ra ((Go.Wr.packL (ls.take k)).length) rc)), (4, (vi ((k : Nat) : Int)))]) (fun (k, ra, rc) m w1 => HP w w1 [.row ra ((Go.Wr.packL (ls.take k)).length) rc 5 1 ((Go.Wr.packL (ls.take k)).map vu8), .pin (sblks xs) (fun w => Sls w xs ls), .view a xs] ∧ (k ≤ n) ∧ m = n - k) ⟨(0, none, 0), _, ⟨rfl, rfl, trivial⟩, h_1, (by omega), rfl⟩ ?_
  rintro ⟨k, ra, rc⟩ m_4 J_5 w_2 ⟨h_3, hk, rfl⟩
  have hbd := pk_bound ha k (by omega)
  have hsm : k < n → (ls.getD k []).length ≤ 65536 := fun h => all_get ha (by omega)
  refine WP.seq ?_
  refine WP.seq ?_
  refine WP.reg ?_
  refine WL.q (Wn.no rfl) rfl rfl (R.move (v := (vi ((k : Nat) : Int))) rfl) ?_
  refine WL.q (Wn.no rfl) rfl rfl (R.move (v := (.slice a n cap)) rfl) ?_
  refine WL.q (Wn.no rfl) rfl rfl (R.lenS (a := a) (m := n) rfl rfl Try.underlying40) ?_
  refine WL.q (Wn.no rfl) rfl rfl (R.bin (v := (.bool (decide ((((k : Nat) : Int) : Int) < ((n : Nat) : Int))))) rfl rfl (bi_lss (r := decide ((((k : Nat) : Int) : Int) < ((n : Nat) : Int))) rfl)) ?_
  refine WL.nil ?_
  refine thn_n ?_
  refine WP.cond (b := decide ((((k : Nat) : Int) : Int) < ((n : Nat) : Int))) rfl (fun c_6 => ?_) (fun c_6 => ?_)
  · have p_7 := of_decide_eq_true c_6
    refine WP.skip ?_
    refine thn_n ?_
    refine WP.seq ?_
    refine WP.block ?_
    refine WP.drawT (SL w.heap.size [.pin (sblks xs) (fun w => Sls w xs ls), .view a xs]) (.q 0 (.q 1 (.q 2 (.q 3 (.q 4 (.q 5 (.q 6 (.q 9 (.q 10 (.q 11 (.q 12 (.s 7 (.s 8 (.s 13 (.q 14 .nil))))))))))))))) (by kernel_rfl) (by kernel_rfl) rfl (by kernel_rfl) (fun w_8 hc_10 => (SL.cons ((h_3.same hc_10).ok _ (.tail _ (.head _))) (SL.cons ((h_3.same hc_10).ok _ (.tail _ (.tail _ (.head _)))) (SL.nil _ _)))) (fun w_8 hc_10 => ?_)
    have h_9 := h_3.same hc_10
    refine WT.q rfl (Wn.no rfl) rfl rfl (fun wq hS => R.move (v := (.slice ra ((Go.Wr.packL (ls.take k)).length) rc)) rfl) ?_
    refine WT.q rfl (Wn.no rfl) rfl rfl (fun wq hS => R.move (v := (.slice a n cap)) rfl) ?_
    refine WT.q rfl (Wn.no rfl) rfl rfl (fun wq hS => R.move (v := (vi ((k : Nat) : Int))) rfl) ?_
    refine WT.q rfl (Wn.no rfl) rfl rfl (fun wq hS => R.indexS (a := a) (i := k) (off := k) (xs := xs) rfl rfl rfl (by omega) (viewV (hS _ (.tail _ (.head _)))) (by omega) Try.underlying40 Try.sizeOf26 (Nat.mul_one _).symm) ?_
    obtain ⟨a_11, n_12, c_13, hx_14, hl_15, hn_16, hv_17, hb_18⟩ := Sls.get (i := k) (h_9.ok _ (.tail _ (.head _))).1 (by rw [hln]; omega)
    have h_19 := h_9.within (e' := .view a_11 ((ls.getD k []).map vu8)) (.tail _ (.head _)) rfl (View.arg hv_17) rfl rfl (fun b hb_ => hb_18 _ (view_sblk hl_15 b hb_))
    refine WT.q rfl (Wn.no rfl) rfl rfl (fun wq hS => R.loadG (a := a) (i := k) (xs := xs) (v := (.slice a_11 n_12 c_13)) rfl (viewV (hS _ (.tail _ (.head _)))) Try.isAgg26 hx_14) ?_
    refine WT.q rfl (Wn.no rfl) rfl rfl (fun wq hS => R.lenS (a := a_11) (m := n_12) rfl rfl Try.underlying26) ?_
    refine WT.q rfl (Wn.no rfl) rfl rfl (fun wq hS => R.conv (b := ((UInt64.ofNat n_12) : UInt64).toNat) rfl Try.underlying3 Try.underlying58 (w64_nat n_12)) ?_
    refine WT.q rfl (Wn.no rfl) rfl rfl (fun wq hS => R.move (v := (.slice a n cap)) rfl) ?_
    refine WT.q rfl (Wn.no rfl) rfl rfl (fun wq hS => R.move (v := (vi ((k : Nat) : Int))) rfl) ?_
    refine WT.q rfl (Wn.no rfl) rfl rfl (fun wq hS => R.indexS (a := a) (i := k) (off := k) (xs := xs) rfl rfl rfl (by omega) (viewV (hS _ (.tail _ (.head _)))) (by omega) Try.underlying40 Try.sizeOf26 (Nat.mul_one _).symm) ?_
    obtain ⟨a_20, n_21, c_22, hx_23, hl_24, hn_25, hv_26, hb_27⟩ := Sls.get (i := k) (h_19.ok _ (.tail _ (.tail _ (.head _)))).1 (by rw [hln]; omega)
    have h_28 := h_19.within (e' := .view a_20 ((ls.getD k []).map vu8)) (.tail _ (.tail _ (.head _))) rfl (View.arg hv_26) rfl rfl (fun b hb_ => hb_27 _ (view_sblk hl_24 b hb_))
    refine WT.q rfl (Wn.no rfl) rfl rfl (fun wq hS => R.loadG (a := a) (i := k) (xs := xs) (v := (.slice a_20 n_21 c_22)) rfl (viewV (hS _ (.tail _ (.head _)))) Try.isAgg26 hx_23) ?_
    refine WT.s ?_
    refine Op1.one rfl (Wn.no rfl) ?_
    refine WL.call (al := [(vu64 (UInt64.ofNat n_12)), (vi 4)]) Try.call67 rfl rfl (c_PutR (UInt64.ofNat n_12) 4 (by omega) _) rfl ?_
    rintro _ w_31 ⟨a_29, cap_30, rfl, hc_32, ho_33⟩
    have h_34 := h_28.gotRow hc_32 ho_33
    refine WL.nil ?_
    refine ⟨(SL.cons (h_34.ok _ (.tail _ (.tail _ (.tail _ (.tail _ (.head _)))))) (SL.cons (h_34.ok _ (.tail _ (.tail _ (.tail _ (.tail _ (.tail _ (.head _))))))) (SL.nil _ _))), ?_⟩
    refine WT.s ?_
    refine Op1.one rfl (Wn.no rfl) ?_
    refine WL.append (km := (Go.Wr.packL (ls.take k)).length + 4) (xs := (Go.Wr.packL (ls.take k)).map vu8) (ys := (leN 4 (UInt64.ofNat n_12).toNat).map vu8) (zs := ((Go.Wr.packL (ls.take k)) ++ (leN 4 (UInt64.ofNat n_12).toNat)).map vu8) h_34 rfl rfl el26 (ownView (h_34.ok _ (.head _))) ((len_map (leN_len ..)).trans (Nat.mul_one _).symm) (one_u8 _) (by simp only [List.map_append, List.map_nil]) (by omega) (by omega) (by omega) (fun _ _ => (At.t (At.t (At.t At.h)))) rfl (fun a_35 c_36 w_37 h_38 => ?_)
    refine WL.nil ?_
    refine ⟨(SL.cons (h_38.ok _ (.tail _ (.tail _ (.tail _ (.tail _ (.head _)))))) (SL.cons (h_38.ok _ (.tail _ (.tail _ (.tail _ (.tail _ (.tail _ (.head _))))))) (SL.nil _ _))), ?_⟩
    refine WT.s ?_
    refine Op1.one rfl (Wn.no rfl) ?_
    refine WL.append (km := (Go.Wr.packL (ls.take k)).length + 4 + n_21) (xs := ((Go.Wr.packL (ls.take k)) ++ (leN 4 (UInt64.ofNat n_12).toNat)).map vu8) (ys := (ls.getD k []).map vu8) (zs := (((Go.Wr.packL (ls.take k)) ++ (leN 4 (UInt64.ofNat n_12).toNat)) ++ (ls.getD k [])).map vu8) h_38 rfl rfl el26 (viewV (h_38.ok _ (.tail _ (.head _)))) ((len_map hl_24).trans (Nat.mul_one _).symm) (one_u8 _) (by simp only [List.map_append, List.map_nil]) (by omega) (by omega) (by omega) (fun _ _ => (At.t (At.t (At.t At.h)))) rfl (fun a_39 c_40 w_41 h_42 => ?_)
    refine WL.nil ?_
    refine ⟨(SL.cons (h_42.ok _ (.tail _ (.tail _ (.tail _ (.tail _ (.head _)))))) (SL.cons (h_42.ok _ (.tail _ (.tail _ (.tail _ (.tail _ (.tail _ (.head _))))))) (SL.nil _ _))), ?_⟩
    refine WT.q rfl (Wn.no rfl) rfl rfl (fun wq hS => R.assign (v := (.slice a_39 ((Go.Wr.packL (ls.take k)).length + 4 + n_21) c_40)) rfl) ?_
    refine WT.nil ?_
    refine inb_n ?_
    refine thn_n ?_
    refine WP.reg ?_
    refine WL.q (Wn.no rfl) rfl rfl (R.move (v := (vi ((k : Nat) : Int))) rfl) ?_
    refine WL.q (Wn.no rfl) rfl rfl (R.bin (v := (vi ((k + 1 : Nat) : Int))) rfl rfl (bi_add (c := ((k + 1 : Nat) : Int)) (by omega) (by omega))) ?_
    refine WL.q (Wn.no rfl) rfl rfl (R.assign (v := (vi ((k + 1 : Nat) : Int))) rfl) ?_
    refine WL.nil ?_
    refine thn_n ?_
    have h_43 := h_42.drop rfl
    have h_44 := h_43.drop rfl
    have h_45 := h_44.drop rfl
    have es := pk_snoc (ls := ls) (k := k) (by omega) hl_15 (by omega)
    have el := congrArg List.length es
    simp only [List.length_append, leN_len] at el
    rw [es, show (Go.Wr.packL (ls.take k)).length + 4 + n_21 = (Go.Wr.packL (ls.take (k + 1))).length by omega] at h_45
    exact ⟨(k + 1, a_39, c_40), _, (by omega), (Ag.upd rfl (Ag.upd rfl (Ag.upd rfl (Ag.upd rfl (Ag.upd rfl (Ag.upd rfl (Ag.upd rfl (Ag.upd rfl (Ag.upd rfl (Ag.upd rfl (Ag.upd rfl (Ag.upd rfl (Ag.upd rfl (Ag.upd rfl (Ag.upd rfl (Ag.upd rfl (Ag.upd rfl (Ag.upd rfl (Ag.upd rfl (Ag.upd rfl (Ag.upd rfl (Ag.upd rfl (Ag.updL rfl (Ag.mix _ _ _)))))))))))))))))))))))), ⟨by rw [show (Go.Wr.packL (ls.take k)).length + 4 + n_21 = (Go.Wr.packL (ls.take (k + 1))).length by omega]; rfl, rfl, trivial⟩, h_45, (by omega), rfl⟩
  · have p_46 := of_decide_eq_false c_6
    refine WP.exit ?_
    refine thn_x ?_
    refine thn_x ?_
    refine inb_hit ?_
    refine thn_n ?_
    refine WP.seq ?_
    refine WP.reg ?_
    refine WL.q (Wn.no rfl) rfl rfl (R.move (v := (.slice ra ((Go.Wr.packL (ls.take k)).length) rc)) rfl) ?_
    refine WL.q (Wn.no rfl) rfl rfl (R.assign (v := (.slice ra ((Go.Wr.packL (ls.take k)).length) rc)) rfl) ?_
    refine WL.nil ?_
    refine thn_n ?_
    refine WP.ret ?_
    refine ret_of Try.results66 (RV.tmp (v := (.slice ra ((Go.Wr.packL (ls.take k)).length) rc)) rfl RV.nil) ?_
    have hkn : k = n := by omega
    rw [hkn, List.take_of_length_le (by omega)] at h_3
    refine ⟨_, _, ?_, h_3.chgS, h_3.ok _ (.head _)⟩
    rw [hkn, List.take_of_length_le (by omega)]; rfl

theorem c_Much (a : Option Addr) (n cap : Nat) (xs : List Value) (ls : List (List UInt8)) (hln : ls.length = n) (mo : Nat) (hmo : mo ≤ 1099511627776) (w : World) (hv : View w a xs) (hs : Sls w xs ls) :
    Cs Try.prog 27 [(.slice a n cap), (vi ((mo : Nat) : Int))].toArray w (fun v w1 => v = (.bool (decide (mo < Go.Wr.total ls))) ∧ Chg w w1 []) := by
  refine Cs.of (n := 33) (args := [(.slice a n cap), (vi ((mo : Nat) : Int))]) Try.func27 rfl rfl rfl ?_
  have h_0 := HP.init w
  have h_01 := h_0.old (View.arg hv) (fun f hf => by cases hf)
  have h_00 := h_01.old hs.pin (fun f hf => by rw [List.mem_singleton] at hf; subst hf; intro hm; simp [Ent.mut] at hm)
  have hxl : xs.length = n := hs.len.trans hln
  refine WP.seq ?_
  refine WP.reg ?_
  refine WL.q (Wn.no rfl) rfl rfl (R.assign (v := (.bool false)) rfl) ?_
  refine WL.nil ?_
  refine thn_n ?_
  refine WP.seq ?_
  refine WP.reg ?_
  refine WL.q (Wn.no rfl) rfl rfl (R.move (v := (.slice a n cap)) rfl) ?_
  refine WL.q (Wn.no rfl) rfl rfl (R.lenS (a := a) (m := n) rfl rfl Try.underlying40) ?_
  refine WL.q (Wn.no rfl) rfl rfl (R.assign (v := (vi ((n : Nat) : Int))) rfl) ?_
  refine WL.nil ?_
  refine thn_n ?_
  refine WP.seq ?_
  refine WP.seq ?_
  refine WP.reg ?_
  refine WL.q (Wn.no rfl) rfl rfl (R.assign (v := (vi 0)) rfl) ?_
  refine WL.nil ?_
  refine thn_n ?_
  refine WP.block ?_
  refine WP.loopG (G := Nat × Nat) [5, 6, 9, 10, 11, 12, 13, 14, 15, 16, 17, 18, 19, 20, 21, 22, 23, 24, 25, 26, 27, 28, 29] (fun (i, v) => [(5, (vi ((v : Nat) : Int))), (6, (vi ((i : Nat) : Int)))]) (fun (i, v) m w1 => HP w w1 [.pin (sblks xs) (fun w => Sls w xs ls), .view a xs] ∧ (i ≤ n) ∧ (v ≤ mo → v = n + ((ls.take i).flatten).length) ∧ (mo < v → mo < n + ((ls.take i).flatten).length) ∧ (v ≤ n + 2 * mo + 1) ∧ (n ≤ v) ∧ m = n - i) ⟨(0, n), _, ⟨rfl, rfl, trivial⟩, h_00, (by omega), (fun _ => rfl), (fun h => h), (by omega), Nat.le_refl n, rfl⟩ ?_
  rintro ⟨i, v⟩ m_3 J_4 w_1 ⟨h_2, hi, hv1, hv2, hv3, hv4, rfl⟩
  refine WP.seq ?_
  refine WP.seq ?_
  refine WP.reg ?_
  refine WL.q (Wn.no rfl) rfl rfl (R.move (v := (vi ((i : Nat) : Int))) rfl) ?_
  refine WL.q (Wn.no rfl) rfl rfl (R.move (v := (.slice a n cap)) rfl) ?_
  refine WL.q (Wn.no rfl) rfl rfl (R.lenS (a := a) (m := n) rfl rfl Try.underlying40) ?_
  refine WL.q (Wn.no rfl) rfl rfl (R.bin (v := (.bool (decide ((((i : Nat) : Int) : Int) < ((n : Nat) : Int))))) rfl rfl (bi_lss (r := decide ((((i : Nat) : Int) : Int) < ((n : Nat) : Int))) rfl)) ?_
  refine WL.q (Wn.no rfl) rfl rfl (R.move (v := (.bool (decide ((((i : Nat) : Int) : Int) < ((n : Nat) : Int))))) rfl) ?_
  rcases Bool.eq_false_or_eq_true (decide ((((i : Nat) : Int) : Int) < ((n : Nat) : Int))) with c_5 | c_5
  · have p_6 := of_decide_eq_true c_5
    refine WL.want rfl (congrArg Value.bool c_5) ?_
    refine WL.q (Wn.no rfl) rfl rfl (R.move (v := (vi ((v : Nat) : Int))) rfl) ?_
    refine WL.want rfl (congrArg Value.bool c_5) ?_
    refine WL.q (Wn.no rfl) rfl rfl (R.move (v := (vi ((mo : Nat) : Int))) rfl) ?_
    refine WL.want rfl (congrArg Value.bool c_5) ?_
    refine WL.q (Wn.no rfl) rfl rfl (R.bin (v := (.bool (decide ((((v : Nat) : Int) : Int) ≤ ((mo : Nat) : Int))))) rfl rfl (bi_leq (r := decide ((((v : Nat) : Int) : Int) ≤ ((mo : Nat) : Int))) rfl)) ?_
    refine WL.q (Wn.no rfl) rfl rfl (R.pickT (v := (.bool (decide ((((v : Nat) : Int) : Int) ≤ ((mo : Nat) : Int))))) (congrArg Value.bool c_5) rfl) ?_
    refine WL.nil ?_
    refine thn_n ?_
    refine WP.cond (b := decide ((((v : Nat) : Int) : Int) ≤ ((mo : Nat) : Int))) rfl (fun c_7 => ?_) (fun c_7 => ?_)
    · have p_8 := of_decide_eq_true c_7
      refine WP.skip ?_
      refine thn_n ?_
      refine WP.seq ?_
      refine WP.block ?_
      refine WP.reg ?_
      refine WL.q (Wn.no rfl) rfl rfl (R.move (v := (vi ((v : Nat) : Int))) rfl) ?_
      refine WL.q (Wn.no rfl) rfl rfl (R.move (v := (.slice a n cap)) rfl) ?_
      refine WL.q (Wn.no rfl) rfl rfl (R.move (v := (vi ((i : Nat) : Int))) rfl) ?_
      refine WL.q (Wn.no rfl) rfl rfl (R.indexS (a := a) (i := i) (off := i) (xs := xs) rfl rfl rfl (by omega) (viewV (h_2.ok _ (.tail _ (.head _)))) (by omega) Try.underlying40 Try.sizeOf26 (Nat.mul_one _).symm) ?_
      obtain ⟨a_9, n_10, c_11, hx_12, hl_13, hn_14, hv_15, hb_16⟩ := Sls.get (i := i) (h_2.ok _ (.head _)).1 (by rw [hln]; omega)
      have h_17 := h_2.within (e' := .view a_9 ((ls.getD i []).map vu8)) (.head _) rfl (View.arg hv_15) rfl rfl (fun b hb_ => hb_16 _ (view_sblk hl_13 b hb_))
      refine WL.q (Wn.no rfl) rfl rfl (R.loadG (a := a) (i := i) (xs := xs) (v := (.slice a_9 n_10 c_11)) rfl (viewV (h_17.ok _ (.tail _ (.tail _ (.head _))))) Try.isAgg26 hx_12) ?_
      refine WL.q (Wn.no rfl) rfl rfl (R.lenS (a := a_9) (m := n_10) rfl rfl Try.underlying26) ?_
      refine WL.q (Wn.no rfl) rfl rfl (R.move (v := (vi ((mo : Nat) : Int))) rfl) ?_
      refine WL.q (Wn.no rfl) rfl rfl (R.bin (v := (vi ((mo + 1 : Nat) : Int))) rfl rfl (bi_add (c := ((mo + 1 : Nat) : Int)) (by omega) (by omega))) ?_
      refine WL.q (Wn.no rfl) rfl rfl (R.minI (c := ((min n_10 (mo + 1) : Nat) : Int)) rfl rfl (by split <;> omega)) ?_
      refine WL.q (Wn.no rfl) rfl rfl (R.bin (v := (vi ((v + (min n_10 (mo + 1)) : Nat) : Int))) rfl rfl (bi_add (c := ((v + (min n_10 (mo + 1)) : Nat) : Int)) (by omega) (by omega))) ?_
      refine WL.q (Wn.no rfl) rfl rfl (R.assign (v := (vi ((v + (min n_10 (mo + 1)) : Nat) : Int))) rfl) ?_
      refine WL.nil ?_
      refine inb_n ?_
      refine thn_n ?_
      refine WP.reg ?_
      refine WL.q (Wn.no rfl) rfl rfl (R.move (v := (vi ((i : Nat) : Int))) rfl) ?_
      refine WL.q (Wn.no rfl) rfl rfl (R.bin (v := (vi ((i + 1 : Nat) : Int))) rfl rfl (bi_add (c := ((i + 1 : Nat) : Int)) (by omega) (by omega))) ?_
      refine WL.q (Wn.no rfl) rfl rfl (R.assign (v := (vi ((i + 1 : Nat) : Int))) rfl) ?_
      refine WL.nil ?_
      refine thn_n ?_
      have h_18 := h_17.drop rfl
      have e := congrArg List.length (Go.Wr.flat_take (ls := ls) (k := i) (by omega))
      rw [List.length_append] at e
      exact ⟨(i + 1, v + (min n_10 (mo + 1))), _, (by omega), (Ag.upd rfl (Ag.upd rfl (Ag.upd rfl (Ag.upd rfl (Ag.upd rfl (Ag.upd rfl (Ag.upd rfl (Ag.upd rfl (Ag.upd rfl (Ag.upd rfl (Ag.upd rfl (Ag.upd rfl (Ag.upd rfl (Ag.upd rfl (Ag.upd rfl (Ag.upd rfl (Ag.upd rfl (Ag.upd rfl (Ag.upd rfl (Ag.upd rfl (Ag.upd rfl (Ag.upd rfl (Ag.upd rfl (Ag.updL rfl (Ag.mix _ _ _))))))))))))))))))))))))), ⟨rfl, rfl, trivial⟩, h_18, (by omega), (fun h => by omega), (fun h => by omega), (by omega), (by omega), rfl⟩
    · have p_19 := of_decide_eq_false c_7
      refine WP.exit ?_
      refine thn_x ?_
      refine thn_x ?_
      refine inb_hit ?_
      refine thn_n ?_
      refine WP.seq ?_
      refine WP.reg ?_
      refine WL.q (Wn.no rfl) rfl rfl (R.move (v := (vi ((v : Nat) : Int))) rfl) ?_
      refine WL.q (Wn.no rfl) rfl rfl (R.move (v := (vi ((mo : Nat) : Int))) rfl) ?_
      refine WL.q (Wn.no rfl) rfl rfl (R.bin (v := (.bool (decide ((((v : Nat) : Int) : Int) > ((mo : Nat) : Int))))) rfl rfl (bi_gtr (r := decide ((((v : Nat) : Int) : Int) > ((mo : Nat) : Int))) rfl)) ?_
      refine WL.q (Wn.no rfl) rfl rfl (R.assign (v := (.bool (decide ((((v : Nat) : Int) : Int) > ((mo : Nat) : Int))))) rfl) ?_
      refine WL.nil ?_
      refine thn_n ?_
      refine WP.ret ?_
      refine ret_of Try.results27 (RV.tmp (v := (.bool (decide ((((v : Nat) : Int) : Int) > ((mo : Nat) : Int))))) rfl RV.nil) ?_
      have hfl := Go.Wr.flat_take_le ls i
      have hfe : i = n → (ls.take i).flatten.length = ls.flatten.length := fun h => by rw [h, ← hln, List.take_length]
      have hp_20 := p_6
      have hp_21 := p_19
      exact ⟨congrArg Value.bool (decide_eq_decide.2 (by unfold Go.Wr.total; omega)), h_2.chgS⟩
  · have p_22 := of_decide_eq_false c_5
    refine WL.skip rfl (congrArg Value.bool c_5) rfl ?_
    refine WL.skip rfl (congrArg Value.bool c_5) rfl ?_
    refine WL.skip rfl (congrArg Value.bool c_5) rfl ?_
    refine WL.q (Wn.no rfl) rfl rfl (R.pickF (v := (.bool false)) (congrArg Value.bool c_5) rfl) ?_
    refine WL.nil ?_
    refine thn_n ?_
    refine WP.condF rfl ?_
    refine WP.exit ?_
    refine thn_x ?_
    refine thn_x ?_
    refine inb_hit ?_
    refine thn_n ?_
    refine WP.seq ?_
    refine WP.reg ?_
    refine WL.q (Wn.no rfl) rfl rfl (R.move (v := (vi ((v : Nat) : Int))) rfl) ?_
    refine WL.q (Wn.no rfl) rfl rfl (R.move (v := (vi ((mo : Nat) : Int))) rfl) ?_
    refine WL.q (Wn.no rfl) rfl rfl (R.bin (v := (.bool (decide ((((v : Nat) : Int) : Int) > ((mo : Nat) : Int))))) rfl rfl (bi_gtr (r := decide ((((v : Nat) : Int) : Int) > ((mo : Nat) : Int))) rfl)) ?_
    refine WL.q (Wn.no rfl) rfl rfl (R.assign (v := (.bool (decide ((((v : Nat) : Int) : Int) > ((mo : Nat) : Int))))) rfl) ?_
    refine WL.nil ?_
    refine thn_n ?_
    refine WP.ret ?_
    refine ret_of Try.results27 (RV.tmp (v := (.bool (decide ((((v : Nat) : Int) : Int) > ((mo : Nat) : Int))))) rfl RV.nil) ?_
    have hfl := Go.Wr.flat_take_le ls i
    have hfe : i = n → (ls.take i).flatten.length = ls.flatten.length := fun h => by rw [h, ← hln, List.take_length]
    have hp_23 := p_22
    exact ⟨congrArg Value.bool (decide_eq_decide.2 (by unfold Go.Wr.total; omega)), h_2.chgS⟩
end Go.Proofs.Ytelkjcigdhgcoaa
