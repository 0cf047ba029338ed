/- WireBack holds of every input. Conditions: none. -/
import Derived.Test.YtcmgadjnammahaaT9
namespace Go.Proofs.Ytcmgadjnammahaa
open Go.Vc Go.RowKit
set_option linter.unusedVariables false
set_option linter.unusedSimpArgs false
set_option maxRecDepth 20000
theorem ce23 : Try.prog.cellsOf 23 = 1 := by kernel_rfl
theorem sz_snoc {ls : List (List UInt8)} {k m : Nat} (hk : k < ls.length) (hm : (ls.getD k []).length = m) : (((ls.take k).map List.length).map Int.ofNat).map vi64 ++ [vi ((m : Nat) : Int)] = (((ls.take (k + 1)).map List.length).map Int.ofNat).map vi64 := by
  rw [take_snoc ls k [] hk, List.map_append, List.map_append, List.map_append, ← hm]; rfl
theorem hex_back2 {bs : List UInt8} {n : Nat} (h : bs.length = n) : Go.Wr.unhexL (Go.Wr.hexL bs) (2 * n / 2) = bs := by
  have := Go.Wr.hex_back bs
  rwa [Go.Wr.hexL_len, h] at this
theorem w_Back_m (a : Option Addr) (n cap : Nat) (xs : List Value) (ls : List (List UInt8)) (hln : ls.length = n) (a2 : Option Addr) (n2 cap2 : Nat) (ys : List Value) (ms : List (List UInt8)) (hln2 : ms.length = n2) (x : UInt64) (a3 : Option Addr) (n3 cap3 : Nat) (bs : List UInt8) (hl3 : bs.length = n3) (hM : 70000 < Go.Wr.total ls) (w : World) (hv : View w a xs) (hs : Sls w xs ls) (hv2 : View w a2 ys) (hs2 : Sls w ys ms) (hv3 : View w a3 (bs.map vu8)) :
    Cs Try.prog 6 [(.slice a n cap), (.slice a2 n2 cap2), (vu64 x), (.slice a3 n3 cap3)].toArray w (fun v w1 => v = .bool true ∧ Chg w w1 []) := by
  refine Cs.of (n := 118) (args := [(.slice a n cap), (.slice a2 n2 cap2), (vu64 x), (.slice a3 n3 cap3)]) Try.func6 rfl rfl rfl ?_
  have h_0 := HP.init w
  have h_01 := h_0.oldV (View.arg hv) rfl (by simp [Ent.mut])
  have h_02 := h_01.oldV hs.pin rfl (by simp [Ent.mut])
  have h_03 := h_02.oldV (View.arg hv2) rfl (by simp [Ent.mut])
  have h_04 := h_03.oldV hs2.pin rfl (by simp [Ent.mut])
  have h_00 := h_04.oldV (View.arg hv3) rfl (by simp [Ent.mut])
  have hxl : xs.length = n := hs.len.trans hln
  have hyl : ys.length = n2 := hs2.len.trans hln2
  refine WP.seq ?_
  refine WP.reg ?_
  refine WL.q (Wn.no rfl) rfl rfl (R.assign (v := (.bool false)) rfl) ?_
  refine WL.nil ?_
  refine thn_n ?_
  refine WP.seq ?_
  refine WP.seq ?_
  refine WP.reg ?_
  refine WL.call (al := []) Try.call22 rfl rfl (c_known1  _ ) rfl ?_
  rintro _ w_2 ⟨rfl, hc_1⟩
  have h_3 := h_00.same hc_1
  refine WL.q (Wn.no rfl) rfl rfl (R.not (b := true) rfl) ?_
  refine WL.nil ?_
  refine thn_n ?_
  refine WP.condF rfl ?_
  refine WP.skip ?_
  refine thn_n ?_
  refine WP.seq ?_
  refine WP.seq ?_
  refine WP.reg ?_
  refine WL.q (Wn.no rfl) rfl rfl (R.move (v := (.slice a n cap)) rfl) ?_
  refine WL.call (al := [(.slice a n cap), (vi 70000)]) Try.call26 rfl rfl (c_Much a n cap xs ls hln 70000 (by omega) _ (viewV (h_3.ok _ (.tail _ (.tail _ (.tail _ (.tail _ (.head _))))))) (h_3.ok _ (.tail _ (.tail _ (.tail _ (.head _))))).1) rfl ?_
  rintro _ w_5 ⟨rfl, hc_4⟩
  have h_6 := h_3.same hc_4
  refine WL.q (Wn.no rfl) rfl rfl (R.move (v := (.bool true)) (congrArg Value.bool (decide_eq_true hM))) ?_
  refine WL.skip rfl rfl rfl ?_
  refine WL.skip rfl rfl rfl ?_
  refine WL.q (Wn.no rfl) rfl rfl (R.pickT (v := (.bool true)) rfl rfl) ?_
  refine WL.q (Wn.no rfl) rfl rfl (R.move (v := (.bool true)) rfl) ?_
  refine WL.skip rfl rfl rfl ?_
  refine WL.skip rfl rfl rfl ?_
  refine WL.skip rfl rfl rfl ?_
  refine WL.q (Wn.no rfl) rfl rfl (R.pickT (v := (.bool true)) rfl rfl) ?_
  refine WL.nil ?_
  refine thn_n ?_
  refine WP.condT rfl ?_
  refine WP.seq ?_
  refine WP.reg ?_
  refine WL.q (Wn.no rfl) rfl rfl (R.assign (v := (.bool true)) rfl) ?_
  refine WL.nil ?_
  refine thn_n ?_
  refine WP.ret ?_
  refine thn_r ?_
  refine ret_of Try.results6 (RV.tmp (v := (.bool true)) rfl RV.nil) ?_
  exact ⟨rfl, h_6.chgS⟩

theorem w_Back_n (a : Option Addr) (n cap : Nat) (xs : List Value) (ls : List (List UInt8)) (hln : ls.length = n) (a2 : Option Addr) (n2 cap2 : Nat) (ys : List Value) (ms : List (List UInt8)) (hln2 : ms.length = n2) (x : UInt64) (a3 : Option Addr) (n3 cap3 : Nat) (bs : List UInt8) (hl3 : bs.length = n3) (hM : ¬ 70000 < Go.Wr.total ls) (hM2 : 70000 < Go.Wr.total ms) (w : World) (hv : View w a xs) (hs : Sls w xs ls) (hv2 : View w a2 ys) (hs2 : Sls w ys ms) (hv3 : View w a3 (bs.map vu8)) :
    Cs Try.prog 6 [(.slice a n cap), (.slice a2 n2 cap2), (vu64 x), (.slice a3 n3 cap3)].toArray w (fun v w1 => v = .bool true ∧ Chg w w1 []) := by
  refine Cs.of (n := 118) (args := [(.slice a n cap), (.slice a2 n2 cap2), (vu64 x), (.slice a3 n3 cap3)]) Try.func6 rfl rfl rfl ?_
  have h_0 := HP.init w
  have ht_ls : ls.length + ls.flatten.length ≤ 70000 := Nat.not_lt.1 hM
  have hpl := Go.Wr.packL_len ls
  have h_01 := h_0.oldV (View.arg hv) rfl (by simp [Ent.mut])
  have h_02 := h_01.oldV hs.pin rfl (by simp [Ent.mut])
  have h_03 := h_02.oldV (View.arg hv2) rfl (by simp [Ent.mut])
  have h_04 := h_03.oldV hs2.pin rfl (by simp [Ent.mut])
  have h_00 := h_04.oldV (View.arg hv3) rfl (by simp [Ent.mut])
  have hxl : xs.length = n := hs.len.trans hln
  have hyl : ys.length = n2 := hs2.len.trans hln2
  refine WP.seq ?_
  refine WP.reg ?_
  refine WL.q (Wn.no rfl) rfl rfl (R.assign (v := (.bool false)) rfl) ?_
  refine WL.nil ?_
  refine thn_n ?_
  refine WP.seq ?_
  refine WP.seq ?_
  refine WP.reg ?_
  refine WL.call (al := []) Try.call22 rfl rfl (c_known1  _ ) rfl ?_
  rintro _ w_2 ⟨rfl, hc_1⟩
  have h_3 := h_00.same hc_1
  refine WL.q (Wn.no rfl) rfl rfl (R.not (b := true) rfl) ?_
  refine WL.nil ?_
  refine thn_n ?_
  refine WP.condF rfl ?_
  refine WP.skip ?_
  refine thn_n ?_
  refine WP.seq ?_
  refine WP.seq ?_
  refine WP.reg ?_
  refine WL.q (Wn.no rfl) rfl rfl (R.move (v := (.slice a n cap)) rfl) ?_
  refine WL.call (al := [(.slice a n cap), (vi 70000)]) Try.call26 rfl rfl (c_Much a n cap xs ls hln 70000 (by omega) _ (viewV (h_3.ok _ (.tail _ (.tail _ (.tail _ (.tail _ (.head _))))))) (h_3.ok _ (.tail _ (.tail _ (.tail _ (.head _))))).1) rfl ?_
  rintro _ w_5 ⟨rfl, hc_4⟩
  have h_6 := h_3.same hc_4
  refine WL.q (Wn.no rfl) rfl rfl (R.move (v := (.bool false)) (congrArg Value.bool (decide_eq_false hM))) ?_
  refine WL.want rfl rfl ?_
  refine WL.q (Wn.no rfl) rfl rfl (R.move (v := (.slice a2 n2 cap2)) rfl) ?_
  refine WL.want rfl rfl ?_
  refine WL.call (al := [(.slice a2 n2 cap2), (vi 70000)]) Try.call26 rfl rfl (c_Much a2 n2 cap2 ys ms hln2 70000 (by omega) _ (viewV (h_6.ok _ (.tail _ (.tail _ (.head _))))) (h_6.ok _ (.tail _ (.head _))).1) rfl ?_
  rintro _ w_8 ⟨rfl, hc_7⟩
  have h_9 := h_6.same hc_7
  refine WL.q (Wn.no rfl) rfl rfl (R.pickF (v := (.bool true)) rfl (congrArg Value.bool (decide_eq_true hM2))) ?_
  refine WL.q (Wn.no rfl) rfl rfl (R.move (v := (.bool true)) rfl) ?_
  refine WL.skip rfl rfl rfl ?_
  refine WL.skip rfl rfl rfl ?_
  refine WL.skip rfl rfl rfl ?_
  refine WL.q (Wn.no rfl) rfl rfl (R.pickT (v := (.bool true)) rfl rfl) ?_
  refine WL.nil ?_
  refine thn_n ?_
  refine WP.condT rfl ?_
  refine WP.seq ?_
  refine WP.reg ?_
  refine WL.q (Wn.no rfl) rfl rfl (R.assign (v := (.bool true)) rfl) ?_
  refine WL.nil ?_
  refine thn_n ?_
  refine WP.ret ?_
  refine thn_r ?_
  refine ret_of Try.results6 (RV.tmp (v := (.bool true)) rfl RV.nil) ?_
  exact ⟨rfl, h_9.chgS⟩

theorem w_Back_b (a : Option Addr) (n cap : Nat) (xs : List Value) (ls : List (List UInt8)) (hln : ls.length = n) (a2 : Option Addr) (n2 cap2 : Nat) (ys : List Value) (ms : List (List UInt8)) (hln2 : ms.length = n2) (x : UInt64) (a3 : Option Addr) (n3 cap3 : Nat) (bs : List UInt8) (hl3 : bs.length = n3) (hM : ¬ 70000 < Go.Wr.total ls) (hM2 : ¬ 70000 < Go.Wr.total ms) (h : 9000 < n3) (w : World) (hv : View w a xs) (hs : Sls w xs ls) (hv2 : View w a2 ys) (hs2 : Sls w ys ms) (hv3 : View w a3 (bs.map vu8)) :
    Cs Try.prog 6 [(.slice a n cap), (.slice a2 n2 cap2), (vu64 x), (.slice a3 n3 cap3)].toArray w (fun v w1 => v = .bool true ∧ Chg w w1 []) := by
  refine Cs.of (n := 118) (args := [(.slice a n cap), (.slice a2 n2 cap2), (vu64 x), (.slice a3 n3 cap3)]) Try.func6 rfl rfl rfl ?_
  have h_0 := HP.init w
  have ht_ls : ls.length + ls.flatten.length ≤ 70000 := Nat.not_lt.1 hM
  have hpl := Go.Wr.packL_len ls
  have ht_ms : ms.length + ms.flatten.length ≤ 70000 := Nat.not_lt.1 hM2
  have h_01 := h_0.oldV (View.arg hv) rfl (by simp [Ent.mut])
  have h_02 := h_01.oldV hs.pin rfl (by simp [Ent.mut])
  have h_03 := h_02.oldV (View.arg hv2) rfl (by simp [Ent.mut])
  have h_04 := h_03.oldV hs2.pin rfl (by simp [Ent.mut])
  have h_00 := h_04.oldV (View.arg hv3) rfl (by simp [Ent.mut])
  have hxl : xs.length = n := hs.len.trans hln
  have hyl : ys.length = n2 := hs2.len.trans hln2
  refine WP.seq ?_
  refine WP.reg ?_
  refine WL.q (Wn.no rfl) rfl rfl (R.assign (v := (.bool false)) rfl) ?_
  refine WL.nil ?_
  refine thn_n ?_
  refine WP.seq ?_
  refine WP.seq ?_
  refine WP.reg ?_
  refine WL.call (al := []) Try.call22 rfl rfl (c_known1  _ ) rfl ?_
  rintro _ w_2 ⟨rfl, hc_1⟩
  have h_3 := h_00.same hc_1
  refine WL.q (Wn.no rfl) rfl rfl (R.not (b := true) rfl) ?_
  refine WL.nil ?_
  refine thn_n ?_
  refine WP.condF rfl ?_
  refine WP.skip ?_
  refine thn_n ?_
  refine WP.seq ?_
  refine WP.seq ?_
  refine WP.reg ?_
  refine WL.q (Wn.no rfl) rfl rfl (R.move (v := (.slice a n cap)) rfl) ?_
  refine WL.call (al := [(.slice a n cap), (vi 70000)]) Try.call26 rfl rfl (c_Much a n cap xs ls hln 70000 (by omega) _ (viewV (h_3.ok _ (.tail _ (.tail _ (.tail _ (.tail _ (.head _))))))) (h_3.ok _ (.tail _ (.tail _ (.tail _ (.head _))))).1) rfl ?_
  rintro _ w_5 ⟨rfl, hc_4⟩
  have h_6 := h_3.same hc_4
  refine WL.q (Wn.no rfl) rfl rfl (R.move (v := (.bool false)) (congrArg Value.bool (decide_eq_false hM))) ?_
  refine WL.want rfl rfl ?_
  refine WL.q (Wn.no rfl) rfl rfl (R.move (v := (.slice a2 n2 cap2)) rfl) ?_
  refine WL.want rfl rfl ?_
  refine WL.call (al := [(.slice a2 n2 cap2), (vi 70000)]) Try.call26 rfl rfl (c_Much a2 n2 cap2 ys ms hln2 70000 (by omega) _ (viewV (h_6.ok _ (.tail _ (.tail _ (.head _))))) (h_6.ok _ (.tail _ (.head _))).1) rfl ?_
  rintro _ w_8 ⟨rfl, hc_7⟩
  have h_9 := h_6.same hc_7
  refine WL.q (Wn.no rfl) rfl rfl (R.pickF (v := (.bool false)) rfl (congrArg Value.bool (decide_eq_false hM2))) ?_
  refine WL.q (Wn.no rfl) rfl rfl (R.move (v := (.bool false)) rfl) ?_
  refine WL.want rfl rfl ?_
  refine WL.q (Wn.no rfl) rfl rfl (R.move (v := (.slice a3 n3 cap3)) rfl) ?_
  refine WL.want rfl rfl ?_
  refine WL.q (Wn.no rfl) rfl rfl (R.lenS (a := a3) (m := n3) rfl rfl Try.underlying23) ?_
  refine WL.want rfl rfl ?_
  refine WL.q (Wn.no rfl) rfl rfl (R.bin (v := (.bool (decide ((((n3 : Nat) : Int) : Int) > 9000)))) rfl rfl (bi_gtr (r := decide ((((n3 : Nat) : Int) : Int) > 9000)) rfl)) ?_
  refine WL.q (Wn.no rfl) rfl rfl (R.pickF (v := (.bool (decide ((((n3 : Nat) : Int) : Int) > 9000)))) rfl rfl) ?_
  refine WL.nil ?_
  refine thn_n ?_
  refine WP.condT (congrArg Value.bool (decide_eq_true (by omega))) ?_
  refine WP.seq ?_
  refine WP.reg ?_
  refine WL.q (Wn.no rfl) rfl rfl (R.assign (v := (.bool true)) rfl) ?_
  refine WL.nil ?_
  refine thn_n ?_
  refine WP.ret ?_
  refine thn_r ?_
  refine ret_of Try.results6 (RV.tmp (v := (.bool true)) rfl RV.nil) ?_
  exact ⟨rfl, h_9.chgS⟩

theorem w_Back_tt (a : Option Addr) (n cap : Nat) (xs : List Value) (ls : List (List UInt8)) (hln : ls.length = n) (a2 : Option Addr) (n2 cap2 : Nat) (ys : List Value) (ms : List (List UInt8)) (hln2 : ms.length = n2) (x : UInt64) (a3 : Option Addr) (n3 cap3 : Nat) (bs : List UInt8) (hl3 : bs.length = n3) (hM : ¬ 70000 < Go.Wr.total ls) (hM2 : ¬ 70000 < Go.Wr.total ms) (h : ¬ 9000 < n3) (hp : Go.Wr.mayPack ls = true) (hq : Go.Wr.mayPack ms = true) (w : World) (hv : View w a xs) (hs : Sls w xs ls) (hv2 : View w a2 ys) (hs2 : Sls w ys ms) (hv3 : View w a3 (bs.map vu8)) :
    Cs Try.prog 6 [(.slice a n cap), (.slice a2 n2 cap2), (vu64 x), (.slice a3 n3 cap3)].toArray w (fun v w1 => v = .bool true ∧ Chg w w1 []) := by
  refine Cs.of (n := 118) (args := [(.slice a n cap), (.slice a2 n2 cap2), (vu64 x), (.slice a3 n3 cap3)]) Try.func6 rfl rfl rfl ?_
  have h_0 := HP.init w
  have ht_ls : ls.length + ls.flatten.length ≤ 70000 := Nat.not_lt.1 hM
  have hpl := Go.Wr.packL_len ls
  have ht_ms : ms.length + ms.flatten.length ≤ 70000 := Nat.not_lt.1 hM2
  have h_01 := h_0.oldV (View.arg hv) rfl (by simp [Ent.mut])
  have h_02 := h_01.oldV hs.pin rfl (by simp [Ent.mut])
  have h_03 := h_02.oldV (View.arg hv2) rfl (by simp [Ent.mut])
  have h_04 := h_03.oldV hs2.pin rfl (by simp [Ent.mut])
  have h_00 := h_04.oldV (View.arg hv3) rfl (by simp [Ent.mut])
  have hxl : xs.length = n := hs.len.trans hln
  have hyl : ys.length = n2 := hs2.len.trans hln2
  refine WP.seq ?_
  refine WP.reg ?_
  refine WL.q (Wn.no rfl) rfl rfl (R.assign (v := (.bool false)) rfl) ?_
  refine WL.nil ?_
  refine thn_n ?_
  refine WP.seq ?_
  refine WP.seq ?_
  refine WP.reg ?_
  refine WL.call (al := []) Try.call22 rfl rfl (c_known1  _ ) rfl ?_
  rintro _ w_2 ⟨rfl, hc_1⟩
  have h_3 := h_00.same hc_1
  refine WL.q (Wn.no rfl) rfl rfl (R.not (b := true) rfl) ?_
  refine WL.nil ?_
  refine thn_n ?_
  refine WP.condF rfl ?_
  refine WP.skip ?_
  refine thn_n ?_
  refine WP.seq ?_
  refine WP.seq ?_
  refine WP.reg ?_
  refine WL.q (Wn.no rfl) rfl rfl (R.move (v := (.slice a n cap)) rfl) ?_
  refine WL.call (al := [(.slice a n cap), (vi 70000)]) Try.call26 rfl rfl (c_Much a n cap xs ls hln 70000 (by omega) _ (viewV (h_3.ok _ (.tail _ (.tail _ (.tail _ (.tail _ (.head _))))))) (h_3.ok _ (.tail _ (.tail _ (.tail _ (.head _))))).1) rfl ?_
  rintro _ w_5 ⟨rfl, hc_4⟩
  have h_6 := h_3.same hc_4
  refine WL.q (Wn.no rfl) rfl rfl (R.move (v := (.bool false)) (congrArg Value.bool (decide_eq_false hM))) ?_
  refine WL.want rfl rfl ?_
  refine WL.q (Wn.no rfl) rfl rfl (R.move (v := (.slice a2 n2 cap2)) rfl) ?_
  refine WL.want rfl rfl ?_
  refine WL.call (al := [(.slice a2 n2 cap2), (vi 70000)]) Try.call26 rfl rfl (c_Much a2 n2 cap2 ys ms hln2 70000 (by omega) _ (viewV (h_6.ok _ (.tail _ (.tail _ (.head _))))) (h_6.ok _ (.tail _ (.head _))).1) rfl ?_
  rintro _ w_8 ⟨rfl, hc_7⟩
  have h_9 := h_6.same hc_7
  refine WL.q (Wn.no rfl) rfl rfl (R.pickF (v := (.bool false)) rfl (congrArg Value.bool (decide_eq_false hM2))) ?_
  refine WL.q (Wn.no rfl) rfl rfl (R.move (v := (.bool false)) rfl) ?_
  refine WL.want rfl rfl ?_
  refine WL.q (Wn.no rfl) rfl rfl (R.move (v := (.slice a3 n3 cap3)) rfl) ?_
  refine WL.want rfl rfl ?_
  refine WL.q (Wn.no rfl) rfl rfl (R.lenS (a := a3) (m := n3) rfl rfl Try.underlying23) ?_
  refine WL.want rfl rfl ?_
  refine WL.q (Wn.no rfl) rfl rfl (R.bin (v := (.bool (decide ((((n3 : Nat) : Int) : Int) > 9000)))) rfl rfl (bi_gtr (r := decide ((((n3 : Nat) : Int) : Int) > 9000)) rfl)) ?_
  refine WL.q (Wn.no rfl) rfl rfl (R.pickF (v := (.bool (decide ((((n3 : Nat) : Int) : Int) > 9000)))) rfl rfl) ?_
  refine WL.nil ?_
  refine thn_n ?_
  refine WP.condF (congrArg Value.bool (decide_eq_false (by omega))) ?_
  refine WP.skip ?_
  refine thn_n ?_
  refine WP.seq ?_
  refine WP.reg ?_
  refine WL.q (Wn.no rfl) rfl rfl (R.move (v := (.slice a n cap)) rfl) ?_
  refine WL.call (al := [(.slice a n cap)]) Try.call27 rfl rfl (c_Pack_t a n cap xs ls hln hp _ (viewV (h_9.ok _ (.tail _ (.tail _ (.tail _ (.tail _ (.head _))))))) (h_9.ok _ (.tail _ (.tail _ (.tail _ (.head _))))).1) rfl ?_
  rintro _ w_12 ⟨a_10, cap_11, rfl, hc_13, ho_14⟩
  have h_15 := h_9.gotRow hc_13 ho_14
  refine WL.q (Wn.no rfl) rfl rfl (R.move (v := (.tuple [(.slice a_10 ((Go.Wr.packL ls).length) cap_11), (vi 0)].toArray)) rfl) ?_
  refine WL.q (Wn.no rfl) rfl rfl (R.extract (l := [(.slice a_10 ((Go.Wr.packL ls).length) cap_11), (vi 0)]) (v := (.slice a_10 ((Go.Wr.packL ls).length) cap_11)) rfl rfl) ?_
  refine WL.q (Wn.no rfl) rfl rfl (R.extract (l := [(.slice a_10 ((Go.Wr.packL ls).length) cap_11), (vi 0)]) (v := (vi 0)) rfl rfl) ?_
  refine WL.q (Wn.no rfl) rfl rfl (R.assign (v := (.slice a_10 ((Go.Wr.packL ls).length) cap_11)) rfl) ?_
  refine WL.q (Wn.no rfl) rfl rfl (R.assign (v := (vi 0)) rfl) ?_
  refine WL.nil ?_
  refine thn_n ?_
  refine WP.seq ?_
  refine WP.reg ?_
  refine WL.q (Wn.no rfl) rfl rfl (R.move (v := (.slice a2 n2 cap2)) rfl) ?_
  refine WL.call (al := [(.slice a2 n2 cap2)]) Try.call27 rfl rfl (c_Pack_t a2 n2 cap2 ys ms hln2 hq _ (viewV (h_15.ok _ (.tail _ (.tail _ (.tail _ (.head _)))))) (h_15.ok _ (.tail _ (.tail _ (.head _)))).1) rfl ?_
  rintro _ w_18 ⟨a_16, cap_17, rfl, hc_19, ho_20⟩
  have h_21 := h_15.gotRow hc_19 ho_20
  refine WL.q (Wn.no rfl) rfl rfl (R.move (v := (.tuple [(.slice a_16 ((Go.Wr.packL ms).length) cap_17), (vi 0)].toArray)) rfl) ?_
  refine WL.q (Wn.no rfl) rfl rfl (R.extract (l := [(.slice a_16 ((Go.Wr.packL ms).length) cap_17), (vi 0)]) (v := (.slice a_16 ((Go.Wr.packL ms).length) cap_17)) rfl rfl) ?_
  refine WL.q (Wn.no rfl) rfl rfl (R.extract (l := [(.slice a_16 ((Go.Wr.packL ms).length) cap_17), (vi 0)]) (v := (vi 0)) rfl rfl) ?_
  refine WL.q (Wn.no rfl) rfl rfl (R.assign (v := (.slice a_16 ((Go.Wr.packL ms).length) cap_17)) rfl) ?_
  refine WL.q (Wn.no rfl) rfl rfl (R.assign (v := (vi 0)) rfl) ?_
  refine WL.nil ?_
  refine thn_n ?_
  refine WP.seq ?_
  refine WP.seq ?_
  refine WP.reg ?_
  refine WL.q (Wn.no rfl) rfl rfl (R.move (v := (vi 0)) rfl) ?_
  refine WL.call (al := [(vi 0)]) Try.call18 rfl rfl (c_num1 0 (by omega) _ ) rfl ?_
  rintro _ w_23 ⟨rfl, hc_22⟩
  have h_24 := h_21.same hc_22
  refine WL.q (Wn.no rfl) rfl rfl (R.bin (v := (.bool true)) rfl rfl (bi_eql (r := true) (by decide))) ?_
  refine WL.nil ?_
  refine thn_n ?_
  refine WP.condT rfl ?_
  refine WP.seq ?_
  refine WP.reg ?_
  refine WL.q (Wn.no rfl) rfl rfl (R.move (v := (.slice a_10 ((Go.Wr.packL ls).length) cap_11)) rfl) ?_
  refine WL.call (al := [(.slice a_10 ((Go.Wr.packL ls).length) cap_11)]) Try.call30 rfl rfl (c_Unpack_t a_10 ((Go.Wr.packL ls).length) cap_11 (Go.Wr.packL ls) (rfl : List.length (Go.Wr.packL ls) = (Go.Wr.packL ls).length) (by omega) ls (Go.Wr.pack_back hp) _ (ownView (h_24.ok _ (.tail _ (.head _))))) rfl ?_
  rintro _ w_28 ⟨a_25, cap_26, xs_27, rfl, hc_29, hv_30, hs_31, hb_32⟩
  have h_34 := h_24.gotSls hc_29 hv_30 hs_31 hb_32
  refine WL.q (Wn.no rfl) rfl rfl (R.move (v := (.tuple [(.slice a_25 ls.length cap_26), (vi 0)].toArray)) rfl) ?_
  refine WL.q (Wn.no rfl) rfl rfl (R.extract (l := [(.slice a_25 ls.length cap_26), (vi 0)]) (v := (.slice a_25 ls.length cap_26)) rfl rfl) ?_
  refine WL.q (Wn.no rfl) rfl rfl (R.extract (l := [(.slice a_25 ls.length cap_26), (vi 0)]) (v := (vi 0)) rfl rfl) ?_
  refine WL.q (Wn.no rfl) rfl rfl (R.assign (v := (.slice a_25 ls.length cap_26)) rfl) ?_
  refine WL.q (Wn.no rfl) rfl rfl (R.assign (v := (vi 0)) rfl) ?_
  refine WL.nil ?_
  refine thn_n ?_
  refine WP.seq ?_
  refine WP.reg ?_
  refine WL.q (Wn.no rfl) rfl rfl (R.move (v := (vi 0)) rfl) ?_
  refine WL.call (al := [(vi 0)]) Try.call18 rfl rfl (c_num1 0 (by omega) _ ) rfl ?_
  rintro _ w_36 ⟨rfl, hc_35⟩
  have h_37 := h_34.same hc_35
  refine WL.q (Wn.no rfl) rfl rfl (R.bin (v := (.bool false)) rfl rfl (bi_neq (r := false) (by decide))) ?_
  refine WL.q (Wn.no rfl) rfl rfl (R.move (v := (.bool false)) rfl) ?_
  refine WL.want rfl rfl ?_
  refine WL.q (Wn.no rfl) rfl rfl (R.move (v := (.slice a_25 ls.length cap_26)) rfl) ?_
  refine WL.want rfl rfl ?_
  refine WL.q (Wn.no rfl) rfl rfl (R.move (v := (.slice a n cap)) rfl) ?_
  refine WL.want rfl rfl ?_
  refine WL.call (al := [(.slice a_25 ls.length cap_26), (.slice a n cap)]) Try.call32 rfl rfl (c_SameLists a_25 ls.length cap_26 xs_27 ls rfl a n cap xs ls hln (by omega) (by omega) _ (viewV (h_37.ok _ (.tail _ (.head _)))) (h_37.ok _ (.head _)).1 (viewV (h_37.ok _ (.tail _ (.tail _ (.tail _ (.tail _ (.tail _ (.tail _ (.tail _ (.tail _ (.head _))))))))))) (h_37.ok _ (.tail _ (.tail _ (.tail _ (.tail _ (.tail _ (.tail _ (.tail _ (.head _))))))))).1) rfl ?_
  rintro _ w_39 ⟨rfl, hc_38⟩
  have h_40 := h_37.same hc_38
  refine WL.want rfl rfl ?_
  refine WL.q (Wn.no rfl) rfl rfl (R.not (b := true) (congrArg Value.bool (decide_eq_true rfl))) ?_
  refine WL.q (Wn.no rfl) rfl rfl (R.pickF (v := (.bool false)) rfl rfl) ?_
  refine WL.nil ?_
  refine thn_n ?_
  refine WP.condF rfl ?_
  refine WP.skip ?_
  refine thn_n ?_
  refine WP.seq ?_
  refine WP.seq ?_
  refine WP.reg ?_
  refine WL.q (Wn.no rfl) rfl rfl (R.move (v := (vi 0)) rfl) ?_
  refine WL.call (al := [(vi 0)]) Try.call18 rfl rfl (c_num1 0 (by omega) _ ) rfl ?_
  rintro _ w_42 ⟨rfl, hc_41⟩
  have h_43 := h_40.same hc_41
  refine WL.q (Wn.no rfl) rfl rfl (R.move (v := (vi 0)) rfl) ?_
  refine WL.call (al := [(vi 0)]) Try.call18 rfl rfl (c_num1 0 (by omega) _ ) rfl ?_
  rintro _ w_45 ⟨rfl, hc_44⟩
  have h_46 := h_43.same hc_44
  refine WL.q (Wn.no rfl) rfl rfl (R.bin (v := (vi 0)) rfl rfl (bi_add (c := 0) (by omega) (by omega))) ?_
  refine WL.q (Wn.no rfl) rfl rfl (R.bin (v := (.bool true)) rfl rfl (bi_eql (r := true) (by decide))) ?_
  refine WL.q (Wn.no rfl) rfl rfl (R.move (v := (.bool true)) rfl) ?_
  refine WL.want rfl rfl ?_
  refine WL.q (Wn.no rfl) rfl rfl (R.move (v := (.slice a_10 ((Go.Wr.packL ls).length) cap_11)) rfl) ?_
  refine WL.want rfl rfl ?_
  refine WL.q (Wn.no rfl) rfl rfl (R.move (v := (.slice a_16 ((Go.Wr.packL ms).length) cap_17)) rfl) ?_
  refine WL.want rfl rfl ?_
  refine WL.call (al := [(.slice a_10 ((Go.Wr.packL ls).length) cap_11), (.slice a_16 ((Go.Wr.packL ms).length) cap_17)]) Try.call19 rfl rfl (c_SameR a_10 ((Go.Wr.packL ls).length) cap_11 (Go.Wr.packL ls) (rfl : List.length (Go.Wr.packL ls) = (Go.Wr.packL ls).length) a_16 ((Go.Wr.packL ms).length) cap_17 (Go.Wr.packL ms) (rfl : List.length (Go.Wr.packL ms) = (Go.Wr.packL ms).length) _ (ownView (h_46.ok _ (.tail _ (.tail _ (.tail _ (.head _)))))) (ownView (h_46.ok _ (.tail _ (.tail _ (.head _)))))) rfl ?_
  rintro _ w_48 ⟨rfl, hc_47⟩
  have h_49 := h_46.same hc_47
  refine WL.want rfl rfl ?_
  refine WL.q (Wn.no rfl) rfl rfl (R.move (v := (.slice a n cap)) rfl) ?_
  refine WL.want rfl rfl ?_
  refine WL.q (Wn.no rfl) rfl rfl (R.move (v := (.slice a2 n2 cap2)) rfl) ?_
  refine WL.want rfl rfl ?_
  refine WL.call (al := [(.slice a n cap), (.slice a2 n2 cap2)]) Try.call32 rfl rfl (c_SameLists a n cap xs ls hln a2 n2 cap2 ys ms hln2 (by omega) (by omega) _ (viewV (h_49.ok _ (.tail _ (.tail _ (.tail _ (.tail _ (.tail _ (.tail _ (.tail _ (.tail _ (.head _))))))))))) (h_49.ok _ (.tail _ (.tail _ (.tail _ (.tail _ (.tail _ (.tail _ (.tail _ (.head _))))))))).1 (viewV (h_49.ok _ (.tail _ (.tail _ (.tail _ (.tail _ (.tail _ (.tail _ (.head _))))))))) (h_49.ok _ (.tail _ (.tail _ (.tail _ (.tail _ (.tail _ (.head _))))))).1) rfl ?_
  rintro _ w_51 ⟨rfl, hc_50⟩
  have h_52 := h_49.same hc_50
  refine WL.want rfl rfl ?_
  refine WL.q (Wn.no rfl) rfl rfl (R.neB (a := decide (Go.Wr.packL ls = Go.Wr.packL ms)) (b := decide (ls = ms)) (c := false) rfl rfl Try.underlying4 (by simp [Go.Wr.pack_inj hp hq])) ?_
  refine WL.q (Wn.no rfl) rfl rfl (R.pickT (v := (.bool false)) rfl rfl) ?_
  refine WL.nil ?_
  refine thn_n ?_
  refine WP.condF rfl ?_
  refine WP.skip ?_
  refine thn_n ?_
  refine WP.seq ?_
  refine WP.reg ?_
  refine WL.q (Wn.no rfl) rfl rfl (R.move (v := (vu64 x)) rfl) ?_
  refine WL.call (al := [(vu64 x), (vi 8)]) Try.call16 rfl rfl (c_Put_b x 8 rfl _) rfl ?_
  rintro _ w_55 ⟨a_53, cap_54, rfl, hc_56, ho_57⟩
  have h_58 := h_52.gotRow hc_56 ho_57
  refine WL.q (Wn.no rfl) rfl rfl (R.move (v := (.tuple [(.slice a_53 8 cap_54), (vi 0)].toArray)) rfl) ?_
  refine WL.q (Wn.no rfl) rfl rfl (R.extract (l := [(.slice a_53 8 cap_54), (vi 0)]) (v := (.slice a_53 8 cap_54)) rfl rfl) ?_
  refine WL.q (Wn.no rfl) rfl rfl (R.extract (l := [(.slice a_53 8 cap_54), (vi 0)]) (v := (vi 0)) rfl rfl) ?_
  refine WL.q (Wn.no rfl) rfl rfl (R.assign (v := (.slice a_53 8 cap_54)) rfl) ?_
  refine WL.q (Wn.no rfl) rfl rfl (R.assign (v := (vi 0)) rfl) ?_
  refine WL.nil ?_
  refine thn_n ?_
  refine WP.seq ?_
  refine WP.reg ?_
  refine WL.q (Wn.no rfl) rfl rfl (R.move (v := (.slice a_53 8 cap_54)) rfl) ?_
  refine WL.call (al := [(.slice a_53 8 cap_54)]) Try.call21 rfl rfl (c_Get_ok a_53 8 cap_54 (leN 8 x.toNat) (leN_len ..) (by omega) (by omega) _ (ownView (h_58.ok _ (.head _)))) rfl ?_
  rintro _ w_60 ⟨rfl, hc_59⟩
  have h_61 := h_58.same hc_59
  refine WL.q (Wn.no rfl) rfl rfl (R.move (v := (.tuple [(vu64 (UInt64.ofNat (natLE (leN 8 x.toNat)))), (vi 0)].toArray)) rfl) ?_
  refine WL.q (Wn.no rfl) rfl rfl (R.extract (l := [(vu64 (UInt64.ofNat (natLE (leN 8 x.toNat)))), (vi 0)]) (v := (vu64 (UInt64.ofNat (natLE (leN 8 x.toNat))))) rfl rfl) ?_
  refine WL.q (Wn.no rfl) rfl rfl (R.extract (l := [(vu64 (UInt64.ofNat (natLE (leN 8 x.toNat)))), (vi 0)]) (v := (vi 0)) rfl rfl) ?_
  refine WL.q (Wn.no rfl) rfl rfl (R.assign (v := (vu64 (UInt64.ofNat (natLE (leN 8 x.toNat))))) rfl) ?_
  refine WL.q (Wn.no rfl) rfl rfl (R.assign (v := (vi 0)) rfl) ?_
  refine WL.nil ?_
  refine thn_n ?_
  refine WP.seq ?_
  refine WP.reg ?_
  refine WL.q (Wn.no rfl) rfl rfl (R.move (v := (.slice a3 n3 cap3)) rfl) ?_
  refine WL.call (al := [(.slice a3 n3 cap3)]) Try.call33 rfl rfl (c_Hex a3 n3 cap3 bs hl3 (by omega) _ (viewV (h_61.ok _ (.tail _ (.tail _ (.tail _ (.tail _ (.tail _ (.head _))))))))) rfl ?_
  rintro _ w_63 ⟨rfl, hc_62⟩
  have h_64 := h_61.same hc_62
  refine WL.call (al := [(.string (bstr (Go.Wr.hexL bs)))]) Try.call24 rfl rfl (c_Unhex_t (Go.Wr.hexL bs) (2 * n3) (by rw [Go.Wr.hexL_len, hl3]) (by omega) (Go.Wr.hex_ok bs) (by omega) _) rfl ?_
  rintro _ w_67 ⟨a_65, cap_66, rfl, hc_68, ho_69⟩
  have h_70 := h_64.gotRow hc_68 ho_69
  refine WL.q (Wn.no rfl) rfl rfl (R.move (v := (.tuple [(.slice a_65 ((2 * n3) / 2) cap_66), (vi 0)].toArray)) rfl) ?_
  refine WL.q (Wn.no rfl) rfl rfl (R.extract (l := [(.slice a_65 ((2 * n3) / 2) cap_66), (vi 0)]) (v := (.slice a_65 ((2 * n3) / 2) cap_66)) rfl rfl) ?_
  refine WL.q (Wn.no rfl) rfl rfl (R.extract (l := [(.slice a_65 ((2 * n3) / 2) cap_66), (vi 0)]) (v := (vi 0)) rfl rfl) ?_
  refine WL.q (Wn.no rfl) rfl rfl (R.assign (v := (.slice a_65 ((2 * n3) / 2) cap_66)) rfl) ?_
  refine WL.q (Wn.no rfl) rfl rfl (R.assign (v := (vi 0)) rfl) ?_
  refine WL.nil ?_
  refine thn_n ?_
  refine WP.seq ?_
  refine WP.reg ?_
  refine WL.q (Wn.no rfl) rfl rfl (R.move (v := (vi 0)) rfl) ?_
  refine WL.call (al := [(vi 0)]) Try.call18 rfl rfl (c_num1 0 (by omega) _ ) rfl ?_
  rintro _ w_72 ⟨rfl, hc_71⟩
  have h_73 := h_70.same hc_71
  refine WL.q (Wn.no rfl) rfl rfl (R.move (v := (vi 0)) rfl) ?_
  refine WL.call (al := [(vi 0)]) Try.call18 rfl rfl (c_num1 0 (by omega) _ ) rfl ?_
  rintro _ w_75 ⟨rfl, hc_74⟩
  have h_76 := h_73.same hc_74
  refine WL.q (Wn.no rfl) rfl rfl (R.bin (v := (vi 0)) rfl rfl (bi_add (c := 0) (by omega) (by omega))) ?_
  refine WL.q (Wn.no rfl) rfl rfl (R.move (v := (vi 0)) rfl) ?_
  refine WL.call (al := [(vi 0)]) Try.call18 rfl rfl (c_num1 0 (by omega) _ ) rfl ?_
  rintro _ w_78 ⟨rfl, hc_77⟩
  have h_79 := h_76.same hc_77
  refine WL.q (Wn.no rfl) rfl rfl (R.bin (v := (vi 0)) rfl rfl (bi_add (c := 0) (by omega) (by omega))) ?_
  refine WL.q (Wn.no rfl) rfl rfl (R.bin (v := (.bool true)) rfl rfl (bi_eql (r := true) (by decide))) ?_
  refine WL.q (Wn.no rfl) rfl rfl (R.move (v := (.bool true)) rfl) ?_
  refine WL.want rfl rfl ?_
  refine WL.q (Wn.no rfl) rfl rfl (R.move (v := (vu64 (UInt64.ofNat (natLE (leN 8 x.toNat))))) rfl) ?_
  refine WL.want rfl rfl ?_
  refine WL.q (Wn.no rfl) rfl rfl (R.move (v := (vu64 x)) rfl) ?_
  refine WL.want rfl rfl ?_
  refine WL.q (Wn.no rfl) rfl rfl (R.bin (v := (.bool true)) rfl rfl (b64_eql (UInt64.ofNat (natLE (leN 8 x.toNat))) x (r := true) (decide_eq_true (word_back x)))) ?_
  refine WL.q (Wn.no rfl) rfl rfl (R.pickT (v := (.bool true)) rfl rfl) ?_
  refine WL.q (Wn.no rfl) rfl rfl (R.move (v := (.bool true)) rfl) ?_
  refine WL.want rfl rfl ?_
  refine WL.q (Wn.no rfl) rfl rfl (R.move (v := (.slice a_65 ((2 * n3) / 2) cap_66)) rfl) ?_
  refine WL.want rfl rfl ?_
  refine WL.q (Wn.no rfl) rfl rfl (R.move (v := (.slice a3 n3 cap3)) rfl) ?_
  refine WL.want rfl rfl ?_
  refine WL.call (al := [(.slice a_65 ((2 * n3) / 2) cap_66), (.slice a3 n3 cap3)]) Try.call19 rfl rfl (c_SameR a_65 ((2 * n3) / 2) cap_66 (Go.Wr.unhexL (Go.Wr.hexL bs) ((2 * n3) / 2)) (Go.Wr.unhexL_len ..) a3 n3 cap3 bs hl3 _ (ownView (h_79.ok _ (.head _))) (viewV (h_79.ok _ (.tail _ (.tail _ (.tail _ (.tail _ (.tail _ (.tail _ (.head _)))))))))) rfl ?_
  rintro _ w_81 ⟨rfl, hc_80⟩
  have h_82 := h_79.same hc_80
  refine WL.q (Wn.no rfl) rfl rfl (R.pickT (v := (.bool true)) rfl (congrArg Value.bool (decide_eq_true (hex_back2 hl3)))) ?_
  refine WL.q (Wn.no rfl) rfl rfl (R.move (v := (.bool true)) rfl) ?_
  refine WL.want rfl rfl ?_
  refine WL.q (Wn.no rfl) rfl rfl (R.move (v := (.slice a3 n3 cap3)) rfl) ?_
  refine WL.want rfl rfl ?_
  refine WL.call (al := [(.slice a3 n3 cap3)]) Try.call34 rfl rfl (c_Turned a3 n3 cap3 bs hl3 (by omega) _ (viewV (h_82.ok _ (.tail _ (.tail _ (.tail _ (.tail _ (.tail _ (.tail _ (.head _)))))))))) rfl ?_
  rintro _ w_85 ⟨a_83, cap_84, rfl, hc_86, ho_87⟩
  have h_88 := h_82.gotRow hc_86 ho_87
  have hq_89 := ho_87.2.2.1
  refine WL.want rfl rfl ?_
  refine WL.call (al := [(.slice a_83 n3 cap_84)]) Try.call34 rfl rfl (c_Turned a_83 n3 cap_84 bs.reverse ((List.length_reverse ..).trans hl3) (by omega) _ (ownView (h_88.ok _ (.head _)))) rfl ?_
  rintro _ w_92 ⟨a_90, cap_91, rfl, hc_93, ho_94⟩
  have h_95 := h_88.gotRow hc_93 ho_94
  have hq_96 := ho_94.2.2.1
  refine WL.want rfl rfl ?_
  refine WL.q (Wn.no rfl) rfl rfl (R.move (v := (.slice a3 n3 cap3)) rfl) ?_
  refine WL.want rfl rfl ?_
  refine WL.call (al := [(.slice a_90 n3 cap_91), (.slice a3 n3 cap3)]) Try.call19 rfl rfl (c_SameR a_90 n3 cap_91 bs.reverse.reverse ((List.length_reverse ..).trans ((List.length_reverse ..).trans hl3)) a3 n3 cap3 bs hl3 _ (ownView (h_95.ok _ (.head _))) (viewV (h_95.ok _ (.tail _ (.tail _ (.tail _ (.tail _ (.tail _ (.tail _ (.tail _ (.tail _ (.head _)))))))))))) rfl ?_
  rintro _ w_98 ⟨rfl, hc_97⟩
  have h_99 := h_95.same hc_97
  refine WL.q (Wn.no rfl) rfl rfl (R.pickT (v := (.bool true)) rfl (congrArg Value.bool (decide_eq_true (List.reverse_reverse _)))) ?_
  refine WL.q (Wn.no rfl) rfl rfl (R.assign (v := (.bool true)) rfl) ?_
  refine WL.nil ?_
  refine thn_n ?_
  refine WP.ret ?_
  refine ret_of Try.results6 (RV.tmp (v := (.bool true)) rfl RV.nil) ?_
  exact ⟨rfl, h_99.chgS⟩

theorem w_Back_tf (a : Option Addr) (n cap : Nat) (xs : List Value) (ls : List (List UInt8)) (hln : ls.length = n) (a2 : Option Addr) (n2 cap2 : Nat) (ys : List Value) (ms : List (List UInt8)) (hln2 : ms.length = n2) (x : UInt64) (a3 : Option Addr) (n3 cap3 : Nat) (bs : List UInt8) (hl3 : bs.length = n3) (hM : ¬ 70000 < Go.Wr.total ls) (hM2 : ¬ 70000 < Go.Wr.total ms) (h : ¬ 9000 < n3) (hp : Go.Wr.mayPack ls = true) (hq : Go.Wr.mayPack ms = false) (w : World) (hv : View w a xs) (hs : Sls w xs ls) (hv2 : View w a2 ys) (hs2 : Sls w ys ms) (hv3 : View w a3 (bs.map vu8)) :
    Cs Try.prog 6 [(.slice a n cap), (.slice a2 n2 cap2), (vu64 x), (.slice a3 n3 cap3)].toArray w (fun v w1 => v = .bool true ∧ Chg w w1 []) := by
  refine Cs.of (n := 118) (args := [(.slice a n cap), (.slice a2 n2 cap2), (vu64 x), (.slice a3 n3 cap3)]) Try.func6 rfl rfl rfl ?_
  have h_0 := HP.init w
  have ht_ls : ls.length + ls.flatten.length ≤ 70000 := Nat.not_lt.1 hM
  have hpl := Go.Wr.packL_len ls
  have ht_ms : ms.length + ms.flatten.length ≤ 70000 := Nat.not_lt.1 hM2
  have h_01 := h_0.oldV (View.arg hv) rfl (by simp [Ent.mut])
  have h_02 := h_01.oldV hs.pin rfl (by simp [Ent.mut])
  have h_03 := h_02.oldV (View.arg hv2) rfl (by simp [Ent.mut])
  have h_04 := h_03.oldV hs2.pin rfl (by simp [Ent.mut])
  have h_00 := h_04.oldV (View.arg hv3) rfl (by simp [Ent.mut])
  have hxl : xs.length = n := hs.len.trans hln
  have hyl : ys.length = n2 := hs2.len.trans hln2
  refine WP.seq ?_
  refine WP.reg ?_
  refine WL.q (Wn.no rfl) rfl rfl (R.assign (v := (.bool false)) rfl) ?_
  refine WL.nil ?_
  refine thn_n ?_
  refine WP.seq ?_
  refine WP.seq ?_
  refine WP.reg ?_
  refine WL.call (al := []) Try.call22 rfl rfl (c_known1  _ ) rfl ?_
  rintro _ w_2 ⟨rfl, hc_1⟩
  have h_3 := h_00.same hc_1
  refine WL.q (Wn.no rfl) rfl rfl (R.not (b := true) rfl) ?_
  refine WL.nil ?_
  refine thn_n ?_
  refine WP.condF rfl ?_
  refine WP.skip ?_
  refine thn_n ?_
  refine WP.seq ?_
  refine WP.seq ?_
  refine WP.reg ?_
  refine WL.q (Wn.no rfl) rfl rfl (R.move (v := (.slice a n cap)) rfl) ?_
  refine WL.call (al := [(.slice a n cap), (vi 70000)]) Try.call26 rfl rfl (c_Much a n cap xs ls hln 70000 (by omega) _ (viewV (h_3.ok _ (.tail _ (.tail _ (.tail _ (.tail _ (.head _))))))) (h_3.ok _ (.tail _ (.tail _ (.tail _ (.head _))))).1) rfl ?_
  rintro _ w_5 ⟨rfl, hc_4⟩
  have h_6 := h_3.same hc_4
  refine WL.q (Wn.no rfl) rfl rfl (R.move (v := (.bool false)) (congrArg Value.bool (decide_eq_false hM))) ?_
  refine WL.want rfl rfl ?_
  refine WL.q (Wn.no rfl) rfl rfl (R.move (v := (.slice a2 n2 cap2)) rfl) ?_
  refine WL.want rfl rfl ?_
  refine WL.call (al := [(.slice a2 n2 cap2), (vi 70000)]) Try.call26 rfl rfl (c_Much a2 n2 cap2 ys ms hln2 70000 (by omega) _ (viewV (h_6.ok _ (.tail _ (.tail _ (.head _))))) (h_6.ok _ (.tail _ (.head _))).1) rfl ?_
  rintro _ w_8 ⟨rfl, hc_7⟩
  have h_9 := h_6.same hc_7
  refine WL.q (Wn.no rfl) rfl rfl (R.pickF (v := (.bool false)) rfl (congrArg Value.bool (decide_eq_false hM2))) ?_
  refine WL.q (Wn.no rfl) rfl rfl (R.move (v := (.bool false)) rfl) ?_
  refine WL.want rfl rfl ?_
  refine WL.q (Wn.no rfl) rfl rfl (R.move (v := (.slice a3 n3 cap3)) rfl) ?_
  refine WL.want rfl rfl ?_
  refine WL.q (Wn.no rfl) rfl rfl (R.lenS (a := a3) (m := n3) rfl rfl Try.underlying23) ?_
  refine WL.want rfl rfl ?_
  refine WL.q (Wn.no rfl) rfl rfl (R.bin (v := (.bool (decide ((((n3 : Nat) : Int) : Int) > 9000)))) rfl rfl (bi_gtr (r := decide ((((n3 : Nat) : Int) : Int) > 9000)) rfl)) ?_
  refine WL.q (Wn.no rfl) rfl rfl (R.pickF (v := (.bool (decide ((((n3 : Nat) : Int) : Int) > 9000)))) rfl rfl) ?_
  refine WL.nil ?_
  refine thn_n ?_
  refine WP.condF (congrArg Value.bool (decide_eq_false (by omega))) ?_
  refine WP.skip ?_
  refine thn_n ?_
  refine WP.seq ?_
  refine WP.reg ?_
  refine WL.q (Wn.no rfl) rfl rfl (R.move (v := (.slice a n cap)) rfl) ?_
  refine WL.call (al := [(.slice a n cap)]) Try.call27 rfl rfl (c_Pack_t a n cap xs ls hln hp _ (viewV (h_9.ok _ (.tail _ (.tail _ (.tail _ (.tail _ (.head _))))))) (h_9.ok _ (.tail _ (.tail _ (.tail _ (.head _))))).1) rfl ?_
  rintro _ w_12 ⟨a_10, cap_11, rfl, hc_13, ho_14⟩
  have h_15 := h_9.gotRow hc_13 ho_14
  refine WL.q (Wn.no rfl) rfl rfl (R.move (v := (.tuple [(.slice a_10 ((Go.Wr.packL ls).length) cap_11), (vi 0)].toArray)) rfl) ?_
  refine WL.q (Wn.no rfl) rfl rfl (R.extract (l := [(.slice a_10 ((Go.Wr.packL ls).length) cap_11), (vi 0)]) (v := (.slice a_10 ((Go.Wr.packL ls).length) cap_11)) rfl rfl) ?_
  refine WL.q (Wn.no rfl) rfl rfl (R.extract (l := [(.slice a_10 ((Go.Wr.packL ls).length) cap_11), (vi 0)]) (v := (vi 0)) rfl rfl) ?_
  refine WL.q (Wn.no rfl) rfl rfl (R.assign (v := (.slice a_10 ((Go.Wr.packL ls).length) cap_11)) rfl) ?_
  refine WL.q (Wn.no rfl) rfl rfl (R.assign (v := (vi 0)) rfl) ?_
  refine WL.nil ?_
  refine thn_n ?_
  refine WP.seq ?_
  refine WP.reg ?_
  refine WL.q (Wn.no rfl) rfl rfl (R.move (v := (.slice a2 n2 cap2)) rfl) ?_
  refine WL.call (al := [(.slice a2 n2 cap2)]) Try.call27 rfl rfl (c_Pack_f a2 n2 cap2 ys ms hln2 hq _ (viewV (h_15.ok _ (.tail _ (.tail _ (.tail _ (.head _)))))) (h_15.ok _ (.tail _ (.tail _ (.head _)))).1) rfl ?_
  rintro _ w_17 ⟨rfl, hc_16⟩
  have h_18 := h_15.same hc_16
  refine WL.q (Wn.no rfl) rfl rfl (R.move (v := (.tuple [(.slice none 0 0), (vi 2)].toArray)) rfl) ?_
  refine WL.q (Wn.no rfl) rfl rfl (R.extract (l := [(.slice none 0 0), (vi 2)]) (v := (.slice none 0 0)) rfl rfl) ?_
  refine WL.q (Wn.no rfl) rfl rfl (R.extract (l := [(.slice none 0 0), (vi 2)]) (v := (vi 2)) rfl rfl) ?_
  refine WL.q (Wn.no rfl) rfl rfl (R.assign (v := (.slice none 0 0)) rfl) ?_
  refine WL.q (Wn.no rfl) rfl rfl (R.assign (v := (vi 2)) rfl) ?_
  refine WL.nil ?_
  refine thn_n ?_
  refine WP.seq ?_
  refine WP.seq ?_
  refine WP.reg ?_
  refine WL.q (Wn.no rfl) rfl rfl (R.move (v := (vi 0)) rfl) ?_
  refine WL.call (al := [(vi 0)]) Try.call18 rfl rfl (c_num1 0 (by omega) _ ) rfl ?_
  rintro _ w_20 ⟨rfl, hc_19⟩
  have h_21 := h_18.same hc_19
  refine WL.q (Wn.no rfl) rfl rfl (R.bin (v := (.bool true)) rfl rfl (bi_eql (r := true) (by decide))) ?_
  refine WL.nil ?_
  refine thn_n ?_
  refine WP.condT rfl ?_
  refine WP.seq ?_
  refine WP.reg ?_
  refine WL.q (Wn.no rfl) rfl rfl (R.move (v := (.slice a_10 ((Go.Wr.packL ls).length) cap_11)) rfl) ?_
  refine WL.call (al := [(.slice a_10 ((Go.Wr.packL ls).length) cap_11)]) Try.call30 rfl rfl (c_Unpack_t a_10 ((Go.Wr.packL ls).length) cap_11 (Go.Wr.packL ls) (rfl : List.length (Go.Wr.packL ls) = (Go.Wr.packL ls).length) (by omega) ls (Go.Wr.pack_back hp) _ (ownView (h_21.ok _ (.head _)))) rfl ?_
  rintro _ w_25 ⟨a_22, cap_23, xs_24, rfl, hc_26, hv_27, hs_28, hb_29⟩
  have h_31 := h_21.gotSls hc_26 hv_27 hs_28 hb_29
  refine WL.q (Wn.no rfl) rfl rfl (R.move (v := (.tuple [(.slice a_22 ls.length cap_23), (vi 0)].toArray)) rfl) ?_
  refine WL.q (Wn.no rfl) rfl rfl (R.extract (l := [(.slice a_22 ls.length cap_23), (vi 0)]) (v := (.slice a_22 ls.length cap_23)) rfl rfl) ?_
  refine WL.q (Wn.no rfl) rfl rfl (R.extract (l := [(.slice a_22 ls.length cap_23), (vi 0)]) (v := (vi 0)) rfl rfl) ?_
  refine WL.q (Wn.no rfl) rfl rfl (R.assign (v := (.slice a_22 ls.length cap_23)) rfl) ?_
  refine WL.q (Wn.no rfl) rfl rfl (R.assign (v := (vi 0)) rfl) ?_
  refine WL.nil ?_
  refine thn_n ?_
  refine WP.seq ?_
  refine WP.reg ?_
  refine WL.q (Wn.no rfl) rfl rfl (R.move (v := (vi 0)) rfl) ?_
  refine WL.call (al := [(vi 0)]) Try.call18 rfl rfl (c_num1 0 (by omega) _ ) rfl ?_
  rintro _ w_33 ⟨rfl, hc_32⟩
  have h_34 := h_31.same hc_32
  refine WL.q (Wn.no rfl) rfl rfl (R.bin (v := (.bool false)) rfl rfl (bi_neq (r := false) (by decide))) ?_
  refine WL.q (Wn.no rfl) rfl rfl (R.move (v := (.bool false)) rfl) ?_
  refine WL.want rfl rfl ?_
  refine WL.q (Wn.no rfl) rfl rfl (R.move (v := (.slice a_22 ls.length cap_23)) rfl) ?_
  refine WL.want rfl rfl ?_
  refine WL.q (Wn.no rfl) rfl rfl (R.move (v := (.slice a n cap)) rfl) ?_
  refine WL.want rfl rfl ?_
  refine WL.call (al := [(.slice a_22 ls.length cap_23), (.slice a n cap)]) Try.call32 rfl rfl (c_SameLists a_22 ls.length cap_23 xs_24 ls rfl a n cap xs ls hln (by omega) (by omega) _ (viewV (h_34.ok _ (.tail _ (.head _)))) (h_34.ok _ (.head _)).1 (viewV (h_34.ok _ (.tail _ (.tail _ (.tail _ (.tail _ (.tail _ (.tail _ (.tail _ (.head _)))))))))) (h_34.ok _ (.tail _ (.tail _ (.tail _ (.tail _ (.tail _ (.tail _ (.head _)))))))).1) rfl ?_
  rintro _ w_36 ⟨rfl, hc_35⟩
  have h_37 := h_34.same hc_35
  refine WL.want rfl rfl ?_
  refine WL.q (Wn.no rfl) rfl rfl (R.not (b := true) (congrArg Value.bool (decide_eq_true rfl))) ?_
  refine WL.q (Wn.no rfl) rfl rfl (R.pickF (v := (.bool false)) rfl rfl) ?_
  refine WL.nil ?_
  refine thn_n ?_
  refine WP.condF rfl ?_
  refine WP.skip ?_
  refine thn_n ?_
  refine WP.seq ?_
  refine WP.seq ?_
  refine WP.reg ?_
  refine WL.q (Wn.no rfl) rfl rfl (R.move (v := (vi 0)) rfl) ?_
  refine WL.call (al := [(vi 0)]) Try.call18 rfl rfl (c_num1 0 (by omega) _ ) rfl ?_
  rintro _ w_39 ⟨rfl, hc_38⟩
  have h_40 := h_37.same hc_38
  refine WL.q (Wn.no rfl) rfl rfl (R.move (v := (vi 2)) rfl) ?_
  refine WL.call (al := [(vi 2)]) Try.call18 rfl rfl (c_num1 2 (by omega) _ ) rfl ?_
  rintro _ w_42 ⟨rfl, hc_41⟩
  have h_43 := h_40.same hc_41
  refine WL.q (Wn.no rfl) rfl rfl (R.bin (v := (vi 2)) rfl rfl (bi_add (c := 2) (by omega) (by omega))) ?_
  refine WL.q (Wn.no rfl) rfl rfl (R.bin (v := (.bool false)) rfl rfl (bi_eql (r := false) (by decide))) ?_
  refine WL.q (Wn.no rfl) rfl rfl (R.move (v := (.bool false)) rfl) ?_
  refine WL.skip rfl rfl rfl ?_
  refine WL.skip rfl rfl rfl ?_
  refine WL.skip rfl rfl rfl ?_
  refine WL.skip rfl rfl rfl ?_
  refine WL.skip rfl rfl rfl ?_
  refine WL.skip rfl rfl rfl ?_
  refine WL.skip rfl rfl rfl ?_
  refine WL.q (Wn.no rfl) rfl rfl (R.pickF (v := (.bool false)) rfl rfl) ?_
  refine WL.nil ?_
  refine thn_n ?_
  refine WP.condF rfl ?_
  refine WP.skip ?_
  refine thn_n ?_
  refine WP.seq ?_
  refine WP.reg ?_
  refine WL.q (Wn.no rfl) rfl rfl (R.move (v := (vu64 x)) rfl) ?_
  refine WL.call (al := [(vu64 x), (vi 8)]) Try.call16 rfl rfl (c_Put_b x 8 rfl _) rfl ?_
  rintro _ w_46 ⟨a_44, cap_45, rfl, hc_47, ho_48⟩
  have h_49 := h_43.gotRow hc_47 ho_48
  refine WL.q (Wn.no rfl) rfl rfl (R.move (v := (.tuple [(.slice a_44 8 cap_45), (vi 0)].toArray)) rfl) ?_
  refine WL.q (Wn.no rfl) rfl rfl (R.extract (l := [(.slice a_44 8 cap_45), (vi 0)]) (v := (.slice a_44 8 cap_45)) rfl rfl) ?_
  refine WL.q (Wn.no rfl) rfl rfl (R.extract (l := [(.slice a_44 8 cap_45), (vi 0)]) (v := (vi 0)) rfl rfl) ?_
  refine WL.q (Wn.no rfl) rfl rfl (R.assign (v := (.slice a_44 8 cap_45)) rfl) ?_
  refine WL.q (Wn.no rfl) rfl rfl (R.assign (v := (vi 0)) rfl) ?_
  refine WL.nil ?_
  refine thn_n ?_
  refine WP.seq ?_
  refine WP.reg ?_
  refine WL.q (Wn.no rfl) rfl rfl (R.move (v := (.slice a_44 8 cap_45)) rfl) ?_
  refine WL.call (al := [(.slice a_44 8 cap_45)]) Try.call21 rfl rfl (c_Get_ok a_44 8 cap_45 (leN 8 x.toNat) (leN_len ..) (by omega) (by omega) _ (ownView (h_49.ok _ (.head _)))) rfl ?_
  rintro _ w_51 ⟨rfl, hc_50⟩
  have h_52 := h_49.same hc_50
  refine WL.q (Wn.no rfl) rfl rfl (R.move (v := (.tuple [(vu64 (UInt64.ofNat (natLE (leN 8 x.toNat)))), (vi 0)].toArray)) rfl) ?_
  refine WL.q (Wn.no rfl) rfl rfl (R.extract (l := [(vu64 (UInt64.ofNat (natLE (leN 8 x.toNat)))), (vi 0)]) (v := (vu64 (UInt64.ofNat (natLE (leN 8 x.toNat))))) rfl rfl) ?_
  refine WL.q (Wn.no rfl) rfl rfl (R.extract (l := [(vu64 (UInt64.ofNat (natLE (leN 8 x.toNat)))), (vi 0)]) (v := (vi 0)) rfl rfl) ?_
  refine WL.q (Wn.no rfl) rfl rfl (R.assign (v := (vu64 (UInt64.ofNat (natLE (leN 8 x.toNat))))) rfl) ?_
  refine WL.q (Wn.no rfl) rfl rfl (R.assign (v := (vi 0)) rfl) ?_
  refine WL.nil ?_
  refine thn_n ?_
  refine WP.seq ?_
  refine WP.reg ?_
  refine WL.q (Wn.no rfl) rfl rfl (R.move (v := (.slice a3 n3 cap3)) rfl) ?_
  refine WL.call (al := [(.slice a3 n3 cap3)]) Try.call33 rfl rfl (c_Hex a3 n3 cap3 bs hl3 (by omega) _ (viewV (h_52.ok _ (.tail _ (.tail _ (.tail _ (.tail _ (.head _)))))))) rfl ?_
  rintro _ w_54 ⟨rfl, hc_53⟩
  have h_55 := h_52.same hc_53
  refine WL.call (al := [(.string (bstr (Go.Wr.hexL bs)))]) Try.call24 rfl rfl (c_Unhex_t (Go.Wr.hexL bs) (2 * n3) (by rw [Go.Wr.hexL_len, hl3]) (by omega) (Go.Wr.hex_ok bs) (by omega) _) rfl ?_
  rintro _ w_58 ⟨a_56, cap_57, rfl, hc_59, ho_60⟩
  have h_61 := h_55.gotRow hc_59 ho_60
  refine WL.q (Wn.no rfl) rfl rfl (R.move (v := (.tuple [(.slice a_56 ((2 * n3) / 2) cap_57), (vi 0)].toArray)) rfl) ?_
  refine WL.q (Wn.no rfl) rfl rfl (R.extract (l := [(.slice a_56 ((2 * n3) / 2) cap_57), (vi 0)]) (v := (.slice a_56 ((2 * n3) / 2) cap_57)) rfl rfl) ?_
  refine WL.q (Wn.no rfl) rfl rfl (R.extract (l := [(.slice a_56 ((2 * n3) / 2) cap_57), (vi 0)]) (v := (vi 0)) rfl rfl) ?_
  refine WL.q (Wn.no rfl) rfl rfl (R.assign (v := (.slice a_56 ((2 * n3) / 2) cap_57)) rfl) ?_
  refine WL.q (Wn.no rfl) rfl rfl (R.assign (v := (vi 0)) rfl) ?_
  refine WL.nil ?_
  refine thn_n ?_
  refine WP.seq ?_
  refine WP.reg ?_
  refine WL.q (Wn.no rfl) rfl rfl (R.move (v := (vi 0)) rfl) ?_
  refine WL.call (al := [(vi 0)]) Try.call18 rfl rfl (c_num1 0 (by omega) _ ) rfl ?_
  rintro _ w_63 ⟨rfl, hc_62⟩
  have h_64 := h_61.same hc_62
  refine WL.q (Wn.no rfl) rfl rfl (R.move (v := (vi 0)) rfl) ?_
  refine WL.call (al := [(vi 0)]) Try.call18 rfl rfl (c_num1 0 (by omega) _ ) rfl ?_
  rintro _ w_66 ⟨rfl, hc_65⟩
  have h_67 := h_64.same hc_65
  refine WL.q (Wn.no rfl) rfl rfl (R.bin (v := (vi 0)) rfl rfl (bi_add (c := 0) (by omega) (by omega))) ?_
  refine WL.q (Wn.no rfl) rfl rfl (R.move (v := (vi 0)) rfl) ?_
  refine WL.call (al := [(vi 0)]) Try.call18 rfl rfl (c_num1 0 (by omega) _ ) rfl ?_
  rintro _ w_69 ⟨rfl, hc_68⟩
  have h_70 := h_67.same hc_68
  refine WL.q (Wn.no rfl) rfl rfl (R.bin (v := (vi 0)) rfl rfl (bi_add (c := 0) (by omega) (by omega))) ?_
  refine WL.q (Wn.no rfl) rfl rfl (R.bin (v := (.bool true)) rfl rfl (bi_eql (r := true) (by decide))) ?_
  refine WL.q (Wn.no rfl) rfl rfl (R.move (v := (.bool true)) rfl) ?_
  refine WL.want rfl rfl ?_
  refine WL.q (Wn.no rfl) rfl rfl (R.move (v := (vu64 (UInt64.ofNat (natLE (leN 8 x.toNat))))) rfl) ?_
  refine WL.want rfl rfl ?_
  refine WL.q (Wn.no rfl) rfl rfl (R.move (v := (vu64 x)) rfl) ?_
  refine WL.want rfl rfl ?_
  refine WL.q (Wn.no rfl) rfl rfl (R.bin (v := (.bool true)) rfl rfl (b64_eql (UInt64.ofNat (natLE (leN 8 x.toNat))) x (r := true) (decide_eq_true (word_back x)))) ?_
  refine WL.q (Wn.no rfl) rfl rfl (R.pickT (v := (.bool true)) rfl rfl) ?_
  refine WL.q (Wn.no rfl) rfl rfl (R.move (v := (.bool true)) rfl) ?_
  refine WL.want rfl rfl ?_
  refine WL.q (Wn.no rfl) rfl rfl (R.move (v := (.slice a_56 ((2 * n3) / 2) cap_57)) rfl) ?_
  refine WL.want rfl rfl ?_
  refine WL.q (Wn.no rfl) rfl rfl (R.move (v := (.slice a3 n3 cap3)) rfl) ?_
  refine WL.want rfl rfl ?_
  refine WL.call (al := [(.slice a_56 ((2 * n3) / 2) cap_57), (.slice a3 n3 cap3)]) Try.call19 rfl rfl (c_SameR a_56 ((2 * n3) / 2) cap_57 (Go.Wr.unhexL (Go.Wr.hexL bs) ((2 * n3) / 2)) (Go.Wr.unhexL_len ..) a3 n3 cap3 bs hl3 _ (ownView (h_70.ok _ (.head _))) (viewV (h_70.ok _ (.tail _ (.tail _ (.tail _ (.tail _ (.tail _ (.head _))))))))) rfl ?_
  rintro _ w_72 ⟨rfl, hc_71⟩
  have h_73 := h_70.same hc_71
  refine WL.q (Wn.no rfl) rfl rfl (R.pickT (v := (.bool true)) rfl (congrArg Value.bool (decide_eq_true (hex_back2 hl3)))) ?_
  refine WL.q (Wn.no rfl) rfl rfl (R.move (v := (.bool true)) rfl) ?_
  refine WL.want rfl rfl ?_
  refine WL.q (Wn.no rfl) rfl rfl (R.move (v := (.slice a3 n3 cap3)) rfl) ?_
  refine WL.want rfl rfl ?_
  refine WL.call (al := [(.slice a3 n3 cap3)]) Try.call34 rfl rfl (c_Turned a3 n3 cap3 bs hl3 (by omega) _ (viewV (h_73.ok _ (.tail _ (.tail _ (.tail _ (.tail _ (.tail _ (.head _))))))))) rfl ?_
  rintro _ w_76 ⟨a_74, cap_75, rfl, hc_77, ho_78⟩
  have h_79 := h_73.gotRow hc_77 ho_78
  have hq_80 := ho_78.2.2.1
  refine WL.want rfl rfl ?_
  refine WL.call (al := [(.slice a_74 n3 cap_75)]) Try.call34 rfl rfl (c_Turned a_74 n3 cap_75 bs.reverse ((List.length_reverse ..).trans hl3) (by omega) _ (ownView (h_79.ok _ (.head _)))) rfl ?_
  rintro _ w_83 ⟨a_81, cap_82, rfl, hc_84, ho_85⟩
  have h_86 := h_79.gotRow hc_84 ho_85
  have hq_87 := ho_85.2.2.1
  refine WL.want rfl rfl ?_
  refine WL.q (Wn.no rfl) rfl rfl (R.move (v := (.slice a3 n3 cap3)) rfl) ?_
  refine WL.want rfl rfl ?_
  refine WL.call (al := [(.slice a_81 n3 cap_82), (.slice a3 n3 cap3)]) Try.call19 rfl rfl (c_SameR a_81 n3 cap_82 bs.reverse.reverse ((List.length_reverse ..).trans ((List.length_reverse ..).trans hl3)) a3 n3 cap3 bs hl3 _ (ownView (h_86.ok _ (.head _))) (viewV (h_86.ok _ (.tail _ (.tail _ (.tail _ (.tail _ (.tail _ (.tail _ (.tail _ (.head _))))))))))) rfl ?_
  rintro _ w_89 ⟨rfl, hc_88⟩
  have h_90 := h_86.same hc_88
  refine WL.q (Wn.no rfl) rfl rfl (R.pickT (v := (.bool true)) rfl (congrArg Value.bool (decide_eq_true (List.reverse_reverse _)))) ?_
  refine WL.q (Wn.no rfl) rfl rfl (R.assign (v := (.bool true)) rfl) ?_
  refine WL.nil ?_
  refine thn_n ?_
  refine WP.ret ?_
  refine ret_of Try.results6 (RV.tmp (v := (.bool true)) rfl RV.nil) ?_
  exact ⟨rfl, h_90.chgS⟩

theorem w_Back_ft (a : Option Addr) (n cap : Nat) (xs : List Value) (ls : List (List UInt8)) (hln : ls.length = n) (a2 : Option Addr) (n2 cap2 : Nat) (ys : List Value) (ms : List (List UInt8)) (hln2 : ms.length = n2) (x : UInt64) (a3 : Option Addr) (n3 cap3 : Nat) (bs : List UInt8) (hl3 : bs.length = n3) (hM : ¬ 70000 < Go.Wr.total ls) (hM2 : ¬ 70000 < Go.Wr.total ms) (h : ¬ 9000 < n3) (hp : Go.Wr.mayPack ls = false) (hq : Go.Wr.mayPack ms = true) (w : World) (hv : View w a xs) (hs : Sls w xs ls) (hv2 : View w a2 ys) (hs2 : Sls w ys ms) (hv3 : View w a3 (bs.map vu8)) :
    Cs Try.prog 6 [(.slice a n cap), (.slice a2 n2 cap2), (vu64 x), (.slice a3 n3 cap3)].toArray w (fun v w1 => v = .bool true ∧ Chg w w1 []) := by
  refine Cs.of (n := 118) (args := [(.slice a n cap), (.slice a2 n2 cap2), (vu64 x), (.slice a3 n3 cap3)]) Try.func6 rfl rfl rfl ?_
  have h_0 := HP.init w
  have ht_ls : ls.length + ls.flatten.length ≤ 70000 := Nat.not_lt.1 hM
  have hpl := Go.Wr.packL_len ls
  have ht_ms : ms.length + ms.flatten.length ≤ 70000 := Nat.not_lt.1 hM2
  have h_01 := h_0.oldV (View.arg hv) rfl (by simp [Ent.mut])
  have h_02 := h_01.oldV hs.pin rfl (by simp [Ent.mut])
  have h_03 := h_02.oldV (View.arg hv2) rfl (by simp [Ent.mut])
  have h_04 := h_03.oldV hs2.pin rfl (by simp [Ent.mut])
  have h_00 := h_04.oldV (View.arg hv3) rfl (by simp [Ent.mut])
  have hxl : xs.length = n := hs.len.trans hln
  have hyl : ys.length = n2 := hs2.len.trans hln2
  refine WP.seq ?_
  refine WP.reg ?_
  refine WL.q (Wn.no rfl) rfl rfl (R.assign (v := (.bool false)) rfl) ?_
  refine WL.nil ?_
  refine thn_n ?_
  refine WP.seq ?_
  refine WP.seq ?_
  refine WP.reg ?_
  refine WL.call (al := []) Try.call22 rfl rfl (c_known1  _ ) rfl ?_
  rintro _ w_2 ⟨rfl, hc_1⟩
  have h_3 := h_00.same hc_1
  refine WL.q (Wn.no rfl) rfl rfl (R.not (b := true) rfl) ?_
  refine WL.nil ?_
  refine thn_n ?_
  refine WP.condF rfl ?_
  refine WP.skip ?_
  refine thn_n ?_
  refine WP.seq ?_
  refine WP.seq ?_
  refine WP.reg ?_
  refine WL.q (Wn.no rfl) rfl rfl (R.move (v := (.slice a n cap)) rfl) ?_
  refine WL.call (al := [(.slice a n cap), (vi 70000)]) Try.call26 rfl rfl (c_Much a n cap xs ls hln 70000 (by omega) _ (viewV (h_3.ok _ (.tail _ (.tail _ (.tail _ (.tail _ (.head _))))))) (h_3.ok _ (.tail _ (.tail _ (.tail _ (.head _))))).1) rfl ?_
  rintro _ w_5 ⟨rfl, hc_4⟩
  have h_6 := h_3.same hc_4
  refine WL.q (Wn.no rfl) rfl rfl (R.move (v := (.bool false)) (congrArg Value.bool (decide_eq_false hM))) ?_
  refine WL.want rfl rfl ?_
  refine WL.q (Wn.no rfl) rfl rfl (R.move (v := (.slice a2 n2 cap2)) rfl) ?_
  refine WL.want rfl rfl ?_
  refine WL.call (al := [(.slice a2 n2 cap2), (vi 70000)]) Try.call26 rfl rfl (c_Much a2 n2 cap2 ys ms hln2 70000 (by omega) _ (viewV (h_6.ok _ (.tail _ (.tail _ (.head _))))) (h_6.ok _ (.tail _ (.head _))).1) rfl ?_
  rintro _ w_8 ⟨rfl, hc_7⟩
  have h_9 := h_6.same hc_7
  refine WL.q (Wn.no rfl) rfl rfl (R.pickF (v := (.bool false)) rfl (congrArg Value.bool (decide_eq_false hM2))) ?_
  refine WL.q (Wn.no rfl) rfl rfl (R.move (v := (.bool false)) rfl) ?_
  refine WL.want rfl rfl ?_
  refine WL.q (Wn.no rfl) rfl rfl (R.move (v := (.slice a3 n3 cap3)) rfl) ?_
  refine WL.want rfl rfl ?_
  refine WL.q (Wn.no rfl) rfl rfl (R.lenS (a := a3) (m := n3) rfl rfl Try.underlying23) ?_
  refine WL.want rfl rfl ?_
  refine WL.q (Wn.no rfl) rfl rfl (R.bin (v := (.bool (decide ((((n3 : Nat) : Int) : Int) > 9000)))) rfl rfl (bi_gtr (r := decide ((((n3 : Nat) : Int) : Int) > 9000)) rfl)) ?_
  refine WL.q (Wn.no rfl) rfl rfl (R.pickF (v := (.bool (decide ((((n3 : Nat) : Int) : Int) > 9000)))) rfl rfl) ?_
  refine WL.nil ?_
  refine thn_n ?_
  refine WP.condF (congrArg Value.bool (decide_eq_false (by omega))) ?_
  refine WP.skip ?_
  refine thn_n ?_
  refine WP.seq ?_
  refine WP.reg ?_
  refine WL.q (Wn.no rfl) rfl rfl (R.move (v := (.slice a n cap)) rfl) ?_
  refine WL.call (al := [(.slice a n cap)]) Try.call27 rfl rfl (c_Pack_f a n cap xs ls hln hp _ (viewV (h_9.ok _ (.tail _ (.tail _ (.tail _ (.tail _ (.head _))))))) (h_9.ok _ (.tail _ (.tail _ (.tail _ (.head _))))).1) rfl ?_
  rintro _ w_11 ⟨rfl, hc_10⟩
  have h_12 := h_9.same hc_10
  refine WL.q (Wn.no rfl) rfl rfl (R.move (v := (.tuple [(.slice none 0 0), (vi 2)].toArray)) rfl) ?_
  refine WL.q (Wn.no rfl) rfl rfl (R.extract (l := [(.slice none 0 0), (vi 2)]) (v := (.slice none 0 0)) rfl rfl) ?_
  refine WL.q (Wn.no rfl) rfl rfl (R.extract (l := [(.slice none 0 0), (vi 2)]) (v := (vi 2)) rfl rfl) ?_
  refine WL.q (Wn.no rfl) rfl rfl (R.assign (v := (.slice none 0 0)) rfl) ?_
  refine WL.q (Wn.no rfl) rfl rfl (R.assign (v := (vi 2)) rfl) ?_
  refine WL.nil ?_
  refine thn_n ?_
  refine WP.seq ?_
  refine WP.reg ?_
  refine WL.q (Wn.no rfl) rfl rfl (R.move (v := (.slice a2 n2 cap2)) rfl) ?_
  refine WL.call (al := [(.slice a2 n2 cap2)]) Try.call27 rfl rfl (c_Pack_t a2 n2 cap2 ys ms hln2 hq _ (viewV (h_12.ok _ (.tail _ (.tail _ (.head _))))) (h_12.ok _ (.tail _ (.head _))).1) rfl ?_
  rintro _ w_15 ⟨a_13, cap_14, rfl, hc_16, ho_17⟩
  have h_18 := h_12.gotRow hc_16 ho_17
  refine WL.q (Wn.no rfl) rfl rfl (R.move (v := (.tuple [(.slice a_13 ((Go.Wr.packL ms).length) cap_14), (vi 0)].toArray)) rfl) ?_
  refine WL.q (Wn.no rfl) rfl rfl (R.extract (l := [(.slice a_13 ((Go.Wr.packL ms).length) cap_14), (vi 0)]) (v := (.slice a_13 ((Go.Wr.packL ms).length) cap_14)) rfl rfl) ?_
  refine WL.q (Wn.no rfl) rfl rfl (R.extract (l := [(.slice a_13 ((Go.Wr.packL ms).length) cap_14), (vi 0)]) (v := (vi 0)) rfl rfl) ?_
  refine WL.q (Wn.no rfl) rfl rfl (R.assign (v := (.slice a_13 ((Go.Wr.packL ms).length) cap_14)) rfl) ?_
  refine WL.q (Wn.no rfl) rfl rfl (R.assign (v := (vi 0)) rfl) ?_
  refine WL.nil ?_
  refine thn_n ?_
  refine WP.seq ?_
  refine WP.seq ?_
  refine WP.reg ?_
  refine WL.q (Wn.no rfl) rfl rfl (R.move (v := (vi 2)) rfl) ?_
  refine WL.call (al := [(vi 2)]) Try.call18 rfl rfl (c_num1 2 (by omega) _ ) rfl ?_
  rintro _ w_20 ⟨rfl, hc_19⟩
  have h_21 := h_18.same hc_19
  refine WL.q (Wn.no rfl) rfl rfl (R.bin (v := (.bool false)) rfl rfl (bi_eql (r := false) (by decide))) ?_
  refine WL.nil ?_
  refine thn_n ?_
  refine WP.condF rfl ?_
  refine WP.skip ?_
  refine thn_n ?_
  refine WP.seq ?_
  refine WP.seq ?_
  refine WP.reg ?_
  refine WL.q (Wn.no rfl) rfl rfl (R.move (v := (vi 2)) rfl) ?_
  refine WL.call (al := [(vi 2)]) Try.call18 rfl rfl (c_num1 2 (by omega) _ ) rfl ?_
  rintro _ w_23 ⟨rfl, hc_22⟩
  have h_24 := h_21.same hc_22
  refine WL.q (Wn.no rfl) rfl rfl (R.move (v := (vi 0)) rfl) ?_
  refine WL.call (al := [(vi 0)]) Try.call18 rfl rfl (c_num1 0 (by omega) _ ) rfl ?_
  rintro _ w_26 ⟨rfl, hc_25⟩
  have h_27 := h_24.same hc_25
  refine WL.q (Wn.no rfl) rfl rfl (R.bin (v := (vi 2)) rfl rfl (bi_add (c := 2) (by omega) (by omega))) ?_
  refine WL.q (Wn.no rfl) rfl rfl (R.bin (v := (.bool false)) rfl rfl (bi_eql (r := false) (by decide))) ?_
  refine WL.q (Wn.no rfl) rfl rfl (R.move (v := (.bool false)) rfl) ?_
  refine WL.skip rfl rfl rfl ?_
  refine WL.skip rfl rfl rfl ?_
  refine WL.skip rfl rfl rfl ?_
  refine WL.skip rfl rfl rfl ?_
  refine WL.skip rfl rfl rfl ?_
  refine WL.skip rfl rfl rfl ?_
  refine WL.skip rfl rfl rfl ?_
  refine WL.q (Wn.no rfl) rfl rfl (R.pickF (v := (.bool false)) rfl rfl) ?_
  refine WL.nil ?_
  refine thn_n ?_
  refine WP.condF rfl ?_
  refine WP.skip ?_
  refine thn_n ?_
  refine WP.seq ?_
  refine WP.reg ?_
  refine WL.q (Wn.no rfl) rfl rfl (R.move (v := (vu64 x)) rfl) ?_
  refine WL.call (al := [(vu64 x), (vi 8)]) Try.call16 rfl rfl (c_Put_b x 8 rfl _) rfl ?_
  rintro _ w_30 ⟨a_28, cap_29, rfl, hc_31, ho_32⟩
  have h_33 := h_27.gotRow hc_31 ho_32
  refine WL.q (Wn.no rfl) rfl rfl (R.move (v := (.tuple [(.slice a_28 8 cap_29), (vi 0)].toArray)) rfl) ?_
  refine WL.q (Wn.no rfl) rfl rfl (R.extract (l := [(.slice a_28 8 cap_29), (vi 0)]) (v := (.slice a_28 8 cap_29)) rfl rfl) ?_
  refine WL.q (Wn.no rfl) rfl rfl (R.extract (l := [(.slice a_28 8 cap_29), (vi 0)]) (v := (vi 0)) rfl rfl) ?_
  refine WL.q (Wn.no rfl) rfl rfl (R.assign (v := (.slice a_28 8 cap_29)) rfl) ?_
  refine WL.q (Wn.no rfl) rfl rfl (R.assign (v := (vi 0)) rfl) ?_
  refine WL.nil ?_
  refine thn_n ?_
  refine WP.seq ?_
  refine WP.reg ?_
  refine WL.q (Wn.no rfl) rfl rfl (R.move (v := (.slice a_28 8 cap_29)) rfl) ?_
  refine WL.call (al := [(.slice a_28 8 cap_29)]) Try.call21 rfl rfl (c_Get_ok a_28 8 cap_29 (leN 8 x.toNat) (leN_len ..) (by omega) (by omega) _ (ownView (h_33.ok _ (.head _)))) rfl ?_
  rintro _ w_35 ⟨rfl, hc_34⟩
  have h_36 := h_33.same hc_34
  refine WL.q (Wn.no rfl) rfl rfl (R.move (v := (.tuple [(vu64 (UInt64.ofNat (natLE (leN 8 x.toNat)))), (vi 0)].toArray)) rfl) ?_
  refine WL.q (Wn.no rfl) rfl rfl (R.extract (l := [(vu64 (UInt64.ofNat (natLE (leN 8 x.toNat)))), (vi 0)]) (v := (vu64 (UInt64.ofNat (natLE (leN 8 x.toNat))))) rfl rfl) ?_
  refine WL.q (Wn.no rfl) rfl rfl (R.extract (l := [(vu64 (UInt64.ofNat (natLE (leN 8 x.toNat)))), (vi 0)]) (v := (vi 0)) rfl rfl) ?_
  refine WL.q (Wn.no rfl) rfl rfl (R.assign (v := (vu64 (UInt64.ofNat (natLE (leN 8 x.toNat))))) rfl) ?_
  refine WL.q (Wn.no rfl) rfl rfl (R.assign (v := (vi 0)) rfl) ?_
  refine WL.nil ?_
  refine thn_n ?_
  refine WP.seq ?_
  refine WP.reg ?_
  refine WL.q (Wn.no rfl) rfl rfl (R.move (v := (.slice a3 n3 cap3)) rfl) ?_
  refine WL.call (al := [(.slice a3 n3 cap3)]) Try.call33 rfl rfl (c_Hex a3 n3 cap3 bs hl3 (by omega) _ (viewV (h_36.ok _ (.tail _ (.tail _ (.head _)))))) rfl ?_
  rintro _ w_38 ⟨rfl, hc_37⟩
  have h_39 := h_36.same hc_37
  refine WL.call (al := [(.string (bstr (Go.Wr.hexL bs)))]) Try.call24 rfl rfl (c_Unhex_t (Go.Wr.hexL bs) (2 * n3) (by rw [Go.Wr.hexL_len, hl3]) (by omega) (Go.Wr.hex_ok bs) (by omega) _) rfl ?_
  rintro _ w_42 ⟨a_40, cap_41, rfl, hc_43, ho_44⟩
  have h_45 := h_39.gotRow hc_43 ho_44
  refine WL.q (Wn.no rfl) rfl rfl (R.move (v := (.tuple [(.slice a_40 ((2 * n3) / 2) cap_41), (vi 0)].toArray)) rfl) ?_
  refine WL.q (Wn.no rfl) rfl rfl (R.extract (l := [(.slice a_40 ((2 * n3) / 2) cap_41), (vi 0)]) (v := (.slice a_40 ((2 * n3) / 2) cap_41)) rfl rfl) ?_
  refine WL.q (Wn.no rfl) rfl rfl (R.extract (l := [(.slice a_40 ((2 * n3) / 2) cap_41), (vi 0)]) (v := (vi 0)) rfl rfl) ?_
  refine WL.q (Wn.no rfl) rfl rfl (R.assign (v := (.slice a_40 ((2 * n3) / 2) cap_41)) rfl) ?_
  refine WL.q (Wn.no rfl) rfl rfl (R.assign (v := (vi 0)) rfl) ?_
  refine WL.nil ?_
  refine thn_n ?_
  refine WP.seq ?_
  refine WP.reg ?_
  refine WL.q (Wn.no rfl) rfl rfl (R.move (v := (vi 0)) rfl) ?_
  refine WL.call (al := [(vi 0)]) Try.call18 rfl rfl (c_num1 0 (by omega) _ ) rfl ?_
  rintro _ w_47 ⟨rfl, hc_46⟩
  have h_48 := h_45.same hc_46
  refine WL.q (Wn.no rfl) rfl rfl (R.move (v := (vi 0)) rfl) ?_
  refine WL.call (al := [(vi 0)]) Try.call18 rfl rfl (c_num1 0 (by omega) _ ) rfl ?_
  rintro _ w_50 ⟨rfl, hc_49⟩
  have h_51 := h_48.same hc_49
  refine WL.q (Wn.no rfl) rfl rfl (R.bin (v := (vi 0)) rfl rfl (bi_add (c := 0) (by omega) (by omega))) ?_
  refine WL.q (Wn.no rfl) rfl rfl (R.move (v := (vi 0)) rfl) ?_
  refine WL.call (al := [(vi 0)]) Try.call18 rfl rfl (c_num1 0 (by omega) _ ) rfl ?_
  rintro _ w_53 ⟨rfl, hc_52⟩
  have h_54 := h_51.same hc_52
  refine WL.q (Wn.no rfl) rfl rfl (R.bin (v := (vi 0)) rfl rfl (bi_add (c := 0) (by omega) (by omega))) ?_
  refine WL.q (Wn.no rfl) rfl rfl (R.bin (v := (.bool true)) rfl rfl (bi_eql (r := true) (by decide))) ?_
  refine WL.q (Wn.no rfl) rfl rfl (R.move (v := (.bool true)) rfl) ?_
  refine WL.want rfl rfl ?_
  refine WL.q (Wn.no rfl) rfl rfl (R.move (v := (vu64 (UInt64.ofNat (natLE (leN 8 x.toNat))))) rfl) ?_
  refine WL.want rfl rfl ?_
  refine WL.q (Wn.no rfl) rfl rfl (R.move (v := (vu64 x)) rfl) ?_
  refine WL.want rfl rfl ?_
  refine WL.q (Wn.no rfl) rfl rfl (R.bin (v := (.bool true)) rfl rfl (b64_eql (UInt64.ofNat (natLE (leN 8 x.toNat))) x (r := true) (decide_eq_true (word_back x)))) ?_
  refine WL.q (Wn.no rfl) rfl rfl (R.pickT (v := (.bool true)) rfl rfl) ?_
  refine WL.q (Wn.no rfl) rfl rfl (R.move (v := (.bool true)) rfl) ?_
  refine WL.want rfl rfl ?_
  refine WL.q (Wn.no rfl) rfl rfl (R.move (v := (.slice a_40 ((2 * n3) / 2) cap_41)) rfl) ?_
  refine WL.want rfl rfl ?_
  refine WL.q (Wn.no rfl) rfl rfl (R.move (v := (.slice a3 n3 cap3)) rfl) ?_
  refine WL.want rfl rfl ?_
  refine WL.call (al := [(.slice a_40 ((2 * n3) / 2) cap_41), (.slice a3 n3 cap3)]) Try.call19 rfl rfl (c_SameR a_40 ((2 * n3) / 2) cap_41 (Go.Wr.unhexL (Go.Wr.hexL bs) ((2 * n3) / 2)) (Go.Wr.unhexL_len ..) a3 n3 cap3 bs hl3 _ (ownView (h_54.ok _ (.head _))) (viewV (h_54.ok _ (.tail _ (.tail _ (.tail _ (.head _))))))) rfl ?_
  rintro _ w_56 ⟨rfl, hc_55⟩
  have h_57 := h_54.same hc_55
  refine WL.q (Wn.no rfl) rfl rfl (R.pickT (v := (.bool true)) rfl (congrArg Value.bool (decide_eq_true (hex_back2 hl3)))) ?_
  refine WL.q (Wn.no rfl) rfl rfl (R.move (v := (.bool true)) rfl) ?_
  refine WL.want rfl rfl ?_
  refine WL.q (Wn.no rfl) rfl rfl (R.move (v := (.slice a3 n3 cap3)) rfl) ?_
  refine WL.want rfl rfl ?_
  refine WL.call (al := [(.slice a3 n3 cap3)]) Try.call34 rfl rfl (c_Turned a3 n3 cap3 bs hl3 (by omega) _ (viewV (h_57.ok _ (.tail _ (.tail _ (.tail _ (.head _))))))) rfl ?_
  rintro _ w_60 ⟨a_58, cap_59, rfl, hc_61, ho_62⟩
  have h_63 := h_57.gotRow hc_61 ho_62
  have hq_64 := ho_62.2.2.1
  refine WL.want rfl rfl ?_
  refine WL.call (al := [(.slice a_58 n3 cap_59)]) Try.call34 rfl rfl (c_Turned a_58 n3 cap_59 bs.reverse ((List.length_reverse ..).trans hl3) (by omega) _ (ownView (h_63.ok _ (.head _)))) rfl ?_
  rintro _ w_67 ⟨a_65, cap_66, rfl, hc_68, ho_69⟩
  have h_70 := h_63.gotRow hc_68 ho_69
  have hq_71 := ho_69.2.2.1
  refine WL.want rfl rfl ?_
  refine WL.q (Wn.no rfl) rfl rfl (R.move (v := (.slice a3 n3 cap3)) rfl) ?_
  refine WL.want rfl rfl ?_
  refine WL.call (al := [(.slice a_65 n3 cap_66), (.slice a3 n3 cap3)]) Try.call19 rfl rfl (c_SameR a_65 n3 cap_66 bs.reverse.reverse ((List.length_reverse ..).trans ((List.length_reverse ..).trans hl3)) a3 n3 cap3 bs hl3 _ (ownView (h_70.ok _ (.head _))) (viewV (h_70.ok _ (.tail _ (.tail _ (.tail _ (.tail _ (.tail _ (.head _))))))))) rfl ?_
  rintro _ w_73 ⟨rfl, hc_72⟩
  have h_74 := h_70.same hc_72
  refine WL.q (Wn.no rfl) rfl rfl (R.pickT (v := (.bool true)) rfl (congrArg Value.bool (decide_eq_true (List.reverse_reverse _)))) ?_
  refine WL.q (Wn.no rfl) rfl rfl (R.assign (v := (.bool true)) rfl) ?_
  refine WL.nil ?_
  refine thn_n ?_
  refine WP.ret ?_
  refine ret_of Try.results6 (RV.tmp (v := (.bool true)) rfl RV.nil) ?_
  exact ⟨rfl, h_74.chgS⟩

theorem w_Back_ff (a : Option Addr) (n cap : Nat) (xs : List Value) (ls : List (List UInt8)) (hln : ls.length = n) (a2 : Option Addr) (n2 cap2 : Nat) (ys : List Value) (ms : List (List UInt8)) (hln2 : ms.length = n2) (x : UInt64) (a3 : Option Addr) (n3 cap3 : Nat) (bs : List UInt8) (hl3 : bs.length = n3) (hM : ¬ 70000 < Go.Wr.total ls) (hM2 : ¬ 70000 < Go.Wr.total ms) (h : ¬ 9000 < n3) (hp : Go.Wr.mayPack ls = false) (hq : Go.Wr.mayPack ms = false) (w : World) (hv : View w a xs) (hs : Sls w xs ls) (hv2 : View w a2 ys) (hs2 : Sls w ys ms) (hv3 : View w a3 (bs.map vu8)) :
    Cs Try.prog 6 [(.slice a n cap), (.slice a2 n2 cap2), (vu64 x), (.slice a3 n3 cap3)].toArray w (fun v w1 => v = .bool true ∧ Chg w w1 []) := by
  refine Cs.of (n := 118) (args := [(.slice a n cap), (.slice a2 n2 cap2), (vu64 x), (.slice a3 n3 cap3)]) Try.func6 rfl rfl rfl ?_
  have h_0 := HP.init w
  have ht_ls : ls.length + ls.flatten.length ≤ 70000 := Nat.not_lt.1 hM
  have hpl := Go.Wr.packL_len ls
  have ht_ms : ms.length + ms.flatten.length ≤ 70000 := Nat.not_lt.1 hM2
  have h_01 := h_0.oldV (View.arg hv) rfl (by simp [Ent.mut])
  have h_02 := h_01.oldV hs.pin rfl (by simp [Ent.mut])
  have h_03 := h_02.oldV (View.arg hv2) rfl (by simp [Ent.mut])
  have h_04 := h_03.oldV hs2.pin rfl (by simp [Ent.mut])
  have h_00 := h_04.oldV (View.arg hv3) rfl (by simp [Ent.mut])
  have hxl : xs.length = n := hs.len.trans hln
  have hyl : ys.length = n2 := hs2.len.trans hln2
  refine WP.seq ?_
  refine WP.reg ?_
  refine WL.q (Wn.no rfl) rfl rfl (R.assign (v := (.bool false)) rfl) ?_
  refine WL.nil ?_
  refine thn_n ?_
  refine WP.seq ?_
  refine WP.seq ?_
  refine WP.reg ?_
  refine WL.call (al := []) Try.call22 rfl rfl (c_known1  _ ) rfl ?_
  rintro _ w_2 ⟨rfl, hc_1⟩
  have h_3 := h_00.same hc_1
  refine WL.q (Wn.no rfl) rfl rfl (R.not (b := true) rfl) ?_
  refine WL.nil ?_
  refine thn_n ?_
  refine WP.condF rfl ?_
  refine WP.skip ?_
  refine thn_n ?_
  refine WP.seq ?_
  refine WP.seq ?_
  refine WP.reg ?_
  refine WL.q (Wn.no rfl) rfl rfl (R.move (v := (.slice a n cap)) rfl) ?_
  refine WL.call (al := [(.slice a n cap), (vi 70000)]) Try.call26 rfl rfl (c_Much a n cap xs ls hln 70000 (by omega) _ (viewV (h_3.ok _ (.tail _ (.tail _ (.tail _ (.tail _ (.head _))))))) (h_3.ok _ (.tail _ (.tail _ (.tail _ (.head _))))).1) rfl ?_
  rintro _ w_5 ⟨rfl, hc_4⟩
  have h_6 := h_3.same hc_4
  refine WL.q (Wn.no rfl) rfl rfl (R.move (v := (.bool false)) (congrArg Value.bool (decide_eq_false hM))) ?_
  refine WL.want rfl rfl ?_
  refine WL.q (Wn.no rfl) rfl rfl (R.move (v := (.slice a2 n2 cap2)) rfl) ?_
  refine WL.want rfl rfl ?_
  refine WL.call (al := [(.slice a2 n2 cap2), (vi 70000)]) Try.call26 rfl rfl (c_Much a2 n2 cap2 ys ms hln2 70000 (by omega) _ (viewV (h_6.ok _ (.tail _ (.tail _ (.head _))))) (h_6.ok _ (.tail _ (.head _))).1) rfl ?_
  rintro _ w_8 ⟨rfl, hc_7⟩
  have h_9 := h_6.same hc_7
  refine WL.q (Wn.no rfl) rfl rfl (R.pickF (v := (.bool false)) rfl (congrArg Value.bool (decide_eq_false hM2))) ?_
  refine WL.q (Wn.no rfl) rfl rfl (R.move (v := (.bool false)) rfl) ?_
  refine WL.want rfl rfl ?_
  refine WL.q (Wn.no rfl) rfl rfl (R.move (v := (.slice a3 n3 cap3)) rfl) ?_
  refine WL.want rfl rfl ?_
  refine WL.q (Wn.no rfl) rfl rfl (R.lenS (a := a3) (m := n3) rfl rfl Try.underlying23) ?_
  refine WL.want rfl rfl ?_
  refine WL.q (Wn.no rfl) rfl rfl (R.bin (v := (.bool (decide ((((n3 : Nat) : Int) : Int) > 9000)))) rfl rfl (bi_gtr (r := decide ((((n3 : Nat) : Int) : Int) > 9000)) rfl)) ?_
  refine WL.q (Wn.no rfl) rfl rfl (R.pickF (v := (.bool (decide ((((n3 : Nat) : Int) : Int) > 9000)))) rfl rfl) ?_
  refine WL.nil ?_
  refine thn_n ?_
  refine WP.condF (congrArg Value.bool (decide_eq_false (by omega))) ?_
  refine WP.skip ?_
  refine thn_n ?_
  refine WP.seq ?_
  refine WP.reg ?_
  refine WL.q (Wn.no rfl) rfl rfl (R.move (v := (.slice a n cap)) rfl) ?_
  refine WL.call (al := [(.slice a n cap)]) Try.call27 rfl rfl (c_Pack_f a n cap xs ls hln hp _ (viewV (h_9.ok _ (.tail _ (.tail _ (.tail _ (.tail _ (.head _))))))) (h_9.ok _ (.tail _ (.tail _ (.tail _ (.head _))))).1) rfl ?_
  rintro _ w_11 ⟨rfl, hc_10⟩
  have h_12 := h_9.same hc_10
  refine WL.q (Wn.no rfl) rfl rfl (R.move (v := (.tuple [(.slice none 0 0), (vi 2)].toArray)) rfl) ?_
  refine WL.q (Wn.no rfl) rfl rfl (R.extract (l := [(.slice none 0 0), (vi 2)]) (v := (.slice none 0 0)) rfl rfl) ?_
  refine WL.q (Wn.no rfl) rfl rfl (R.extract (l := [(.slice none 0 0), (vi 2)]) (v := (vi 2)) rfl rfl) ?_
  refine WL.q (Wn.no rfl) rfl rfl (R.assign (v := (.slice none 0 0)) rfl) ?_
  refine WL.q (Wn.no rfl) rfl rfl (R.assign (v := (vi 2)) rfl) ?_
  refine WL.nil ?_
  refine thn_n ?_
  refine WP.seq ?_
  refine WP.reg ?_
  refine WL.q (Wn.no rfl) rfl rfl (R.move (v := (.slice a2 n2 cap2)) rfl) ?_
  refine WL.call (al := [(.slice a2 n2 cap2)]) Try.call27 rfl rfl (c_Pack_f a2 n2 cap2 ys ms hln2 hq _ (viewV (h_12.ok _ (.tail _ (.tail _ (.head _))))) (h_12.ok _ (.tail _ (.head _))).1) rfl ?_
  rintro _ w_14 ⟨rfl, hc_13⟩
  have h_15 := h_12.same hc_13
  refine WL.q (Wn.no rfl) rfl rfl (R.move (v := (.tuple [(.slice none 0 0), (vi 2)].toArray)) rfl) ?_
  refine WL.q (Wn.no rfl) rfl rfl (R.extract (l := [(.slice none 0 0), (vi 2)]) (v := (.slice none 0 0)) rfl rfl) ?_
  refine WL.q (Wn.no rfl) rfl rfl (R.extract (l := [(.slice none 0 0), (vi 2)]) (v := (vi 2)) rfl rfl) ?_
  refine WL.q (Wn.no rfl) rfl rfl (R.assign (v := (.slice none 0 0)) rfl) ?_
  refine WL.q (Wn.no rfl) rfl rfl (R.assign (v := (vi 2)) rfl) ?_
  refine WL.nil ?_
  refine thn_n ?_
  refine WP.seq ?_
  refine WP.seq ?_
  refine WP.reg ?_
  refine WL.q (Wn.no rfl) rfl rfl (R.move (v := (vi 2)) rfl) ?_
  refine WL.call (al := [(vi 2)]) Try.call18 rfl rfl (c_num1 2 (by omega) _ ) rfl ?_
  rintro _ w_17 ⟨rfl, hc_16⟩
  have h_18 := h_15.same hc_16
  refine WL.q (Wn.no rfl) rfl rfl (R.bin (v := (.bool false)) rfl rfl (bi_eql (r := false) (by decide))) ?_
  refine WL.nil ?_
  refine thn_n ?_
  refine WP.condF rfl ?_
  refine WP.skip ?_
  refine thn_n ?_
  refine WP.seq ?_
  refine WP.seq ?_
  refine WP.reg ?_
  refine WL.q (Wn.no rfl) rfl rfl (R.move (v := (vi 2)) rfl) ?_
  refine WL.call (al := [(vi 2)]) Try.call18 rfl rfl (c_num1 2 (by omega) _ ) rfl ?_
  rintro _ w_20 ⟨rfl, hc_19⟩
  have h_21 := h_18.same hc_19
  refine WL.q (Wn.no rfl) rfl rfl (R.move (v := (vi 2)) rfl) ?_
  refine WL.call (al := [(vi 2)]) Try.call18 rfl rfl (c_num1 2 (by omega) _ ) rfl ?_
  rintro _ w_23 ⟨rfl, hc_22⟩
  have h_24 := h_21.same hc_22
  refine WL.q (Wn.no rfl) rfl rfl (R.bin (v := (vi 4)) rfl rfl (bi_add (c := 4) (by omega) (by omega))) ?_
  refine WL.q (Wn.no rfl) rfl rfl (R.bin (v := (.bool false)) rfl rfl (bi_eql (r := false) (by decide))) ?_
  refine WL.q (Wn.no rfl) rfl rfl (R.move (v := (.bool false)) rfl) ?_
  refine WL.skip rfl rfl rfl ?_
  refine WL.skip rfl rfl rfl ?_
  refine WL.skip rfl rfl rfl ?_
  refine WL.skip rfl rfl rfl ?_
  refine WL.skip rfl rfl rfl ?_
  refine WL.skip rfl rfl rfl ?_
  refine WL.skip rfl rfl rfl ?_
  refine WL.q (Wn.no rfl) rfl rfl (R.pickF (v := (.bool false)) rfl rfl) ?_
  refine WL.nil ?_
  refine thn_n ?_
  refine WP.condF rfl ?_
  refine WP.skip ?_
  refine thn_n ?_
  refine WP.seq ?_
  refine WP.reg ?_
  refine WL.q (Wn.no rfl) rfl rfl (R.move (v := (vu64 x)) rfl) ?_
  refine WL.call (al := [(vu64 x), (vi 8)]) Try.call16 rfl rfl (c_Put_b x 8 rfl _) rfl ?_
  rintro _ w_27 ⟨a_25, cap_26, rfl, hc_28, ho_29⟩
  have h_30 := h_24.gotRow hc_28 ho_29
  refine WL.q (Wn.no rfl) rfl rfl (R.move (v := (.tuple [(.slice a_25 8 cap_26), (vi 0)].toArray)) rfl) ?_
  refine WL.q (Wn.no rfl) rfl rfl (R.extract (l := [(.slice a_25 8 cap_26), (vi 0)]) (v := (.slice a_25 8 cap_26)) rfl rfl) ?_
  refine WL.q (Wn.no rfl) rfl rfl (R.extract (l := [(.slice a_25 8 cap_26), (vi 0)]) (v := (vi 0)) rfl rfl) ?_
  refine WL.q (Wn.no rfl) rfl rfl (R.assign (v := (.slice a_25 8 cap_26)) rfl) ?_
  refine WL.q (Wn.no rfl) rfl rfl (R.assign (v := (vi 0)) rfl) ?_
  refine WL.nil ?_
  refine thn_n ?_
  refine WP.seq ?_
  refine WP.reg ?_
  refine WL.q (Wn.no rfl) rfl rfl (R.move (v := (.slice a_25 8 cap_26)) rfl) ?_
  refine WL.call (al := [(.slice a_25 8 cap_26)]) Try.call21 rfl rfl (c_Get_ok a_25 8 cap_26 (leN 8 x.toNat) (leN_len ..) (by omega) (by omega) _ (ownView (h_30.ok _ (.head _)))) rfl ?_
  rintro _ w_32 ⟨rfl, hc_31⟩
  have h_33 := h_30.same hc_31
  refine WL.q (Wn.no rfl) rfl rfl (R.move (v := (.tuple [(vu64 (UInt64.ofNat (natLE (leN 8 x.toNat)))), (vi 0)].toArray)) rfl) ?_
  refine WL.q (Wn.no rfl) rfl rfl (R.extract (l := [(vu64 (UInt64.ofNat (natLE (leN 8 x.toNat)))), (vi 0)]) (v := (vu64 (UInt64.ofNat (natLE (leN 8 x.toNat))))) rfl rfl) ?_
  refine WL.q (Wn.no rfl) rfl rfl (R.extract (l := [(vu64 (UInt64.ofNat (natLE (leN 8 x.toNat)))), (vi 0)]) (v := (vi 0)) rfl rfl) ?_
  refine WL.q (Wn.no rfl) rfl rfl (R.assign (v := (vu64 (UInt64.ofNat (natLE (leN 8 x.toNat))))) rfl) ?_
  refine WL.q (Wn.no rfl) rfl rfl (R.assign (v := (vi 0)) rfl) ?_
  refine WL.nil ?_
  refine thn_n ?_
  refine WP.seq ?_
  refine WP.reg ?_
  refine WL.q (Wn.no rfl) rfl rfl (R.move (v := (.slice a3 n3 cap3)) rfl) ?_
  refine WL.call (al := [(.slice a3 n3 cap3)]) Try.call33 rfl rfl (c_Hex a3 n3 cap3 bs hl3 (by omega) _ (viewV (h_33.ok _ (.tail _ (.head _))))) rfl ?_
  rintro _ w_35 ⟨rfl, hc_34⟩
  have h_36 := h_33.same hc_34
  refine WL.call (al := [(.string (bstr (Go.Wr.hexL bs)))]) Try.call24 rfl rfl (c_Unhex_t (Go.Wr.hexL bs) (2 * n3) (by rw [Go.Wr.hexL_len, hl3]) (by omega) (Go.Wr.hex_ok bs) (by omega) _) rfl ?_
  rintro _ w_39 ⟨a_37, cap_38, rfl, hc_40, ho_41⟩
  have h_42 := h_36.gotRow hc_40 ho_41
  refine WL.q (Wn.no rfl) rfl rfl (R.move (v := (.tuple [(.slice a_37 ((2 * n3) / 2) cap_38), (vi 0)].toArray)) rfl) ?_
  refine WL.q (Wn.no rfl) rfl rfl (R.extract (l := [(.slice a_37 ((2 * n3) / 2) cap_38), (vi 0)]) (v := (.slice a_37 ((2 * n3) / 2) cap_38)) rfl rfl) ?_
  refine WL.q (Wn.no rfl) rfl rfl (R.extract (l := [(.slice a_37 ((2 * n3) / 2) cap_38), (vi 0)]) (v := (vi 0)) rfl rfl) ?_
  refine WL.q (Wn.no rfl) rfl rfl (R.assign (v := (.slice a_37 ((2 * n3) / 2) cap_38)) rfl) ?_
  refine WL.q (Wn.no rfl) rfl rfl (R.assign (v := (vi 0)) rfl) ?_
  refine WL.nil ?_
  refine thn_n ?_
  refine WP.seq ?_
  refine WP.reg ?_
  refine WL.q (Wn.no rfl) rfl rfl (R.move (v := (vi 0)) rfl) ?_
  refine WL.call (al := [(vi 0)]) Try.call18 rfl rfl (c_num1 0 (by omega) _ ) rfl ?_
  rintro _ w_44 ⟨rfl, hc_43⟩
  have h_45 := h_42.same hc_43
  refine WL.q (Wn.no rfl) rfl rfl (R.move (v := (vi 0)) rfl) ?_
  refine WL.call (al := [(vi 0)]) Try.call18 rfl rfl (c_num1 0 (by omega) _ ) rfl ?_
  rintro _ w_47 ⟨rfl, hc_46⟩
  have h_48 := h_45.same hc_46
  refine WL.q (Wn.no rfl) rfl rfl (R.bin (v := (vi 0)) rfl rfl (bi_add (c := 0) (by omega) (by omega))) ?_
  refine WL.q (Wn.no rfl) rfl rfl (R.move (v := (vi 0)) rfl) ?_
  refine WL.call (al := [(vi 0)]) Try.call18 rfl rfl (c_num1 0 (by omega) _ ) rfl ?_
  rintro _ w_50 ⟨rfl, hc_49⟩
  have h_51 := h_48.same hc_49
  refine WL.q (Wn.no rfl) rfl rfl (R.bin (v := (vi 0)) rfl rfl (bi_add (c := 0) (by omega) (by omega))) ?_
  refine WL.q (Wn.no rfl) rfl rfl (R.bin (v := (.bool true)) rfl rfl (bi_eql (r := true) (by decide))) ?_
  refine WL.q (Wn.no rfl) rfl rfl (R.move (v := (.bool true)) rfl) ?_
  refine WL.want rfl rfl ?_
  refine WL.q (Wn.no rfl) rfl rfl (R.move (v := (vu64 (UInt64.ofNat (natLE (leN 8 x.toNat))))) rfl) ?_
  refine WL.want rfl rfl ?_
  refine WL.q (Wn.no rfl) rfl rfl (R.move (v := (vu64 x)) rfl) ?_
  refine WL.want rfl rfl ?_
  refine WL.q (Wn.no rfl) rfl rfl (R.bin (v := (.bool true)) rfl rfl (b64_eql (UInt64.ofNat (natLE (leN 8 x.toNat))) x (r := true) (decide_eq_true (word_back x)))) ?_
  refine WL.q (Wn.no rfl) rfl rfl (R.pickT (v := (.bool true)) rfl rfl) ?_
  refine WL.q (Wn.no rfl) rfl rfl (R.move (v := (.bool true)) rfl) ?_
  refine WL.want rfl rfl ?_
  refine WL.q (Wn.no rfl) rfl rfl (R.move (v := (.slice a_37 ((2 * n3) / 2) cap_38)) rfl) ?_
  refine WL.want rfl rfl ?_
  refine WL.q (Wn.no rfl) rfl rfl (R.move (v := (.slice a3 n3 cap3)) rfl) ?_
  refine WL.want rfl rfl ?_
  refine WL.call (al := [(.slice a_37 ((2 * n3) / 2) cap_38), (.slice a3 n3 cap3)]) Try.call19 rfl rfl (c_SameR a_37 ((2 * n3) / 2) cap_38 (Go.Wr.unhexL (Go.Wr.hexL bs) ((2 * n3) / 2)) (Go.Wr.unhexL_len ..) a3 n3 cap3 bs hl3 _ (ownView (h_51.ok _ (.head _))) (viewV (h_51.ok _ (.tail _ (.tail _ (.head _)))))) rfl ?_
  rintro _ w_53 ⟨rfl, hc_52⟩
  have h_54 := h_51.same hc_52
  refine WL.q (Wn.no rfl) rfl rfl (R.pickT (v := (.bool true)) rfl (congrArg Value.bool (decide_eq_true (hex_back2 hl3)))) ?_
  refine WL.q (Wn.no rfl) rfl rfl (R.move (v := (.bool true)) rfl) ?_
  refine WL.want rfl rfl ?_
  refine WL.q (Wn.no rfl) rfl rfl (R.move (v := (.slice a3 n3 cap3)) rfl) ?_
  refine WL.want rfl rfl ?_
  refine WL.call (al := [(.slice a3 n3 cap3)]) Try.call34 rfl rfl (c_Turned a3 n3 cap3 bs hl3 (by omega) _ (viewV (h_54.ok _ (.tail _ (.tail _ (.head _)))))) rfl ?_
  rintro _ w_57 ⟨a_55, cap_56, rfl, hc_58, ho_59⟩
  have h_60 := h_54.gotRow hc_58 ho_59
  have hq_61 := ho_59.2.2.1
  refine WL.want rfl rfl ?_
  refine WL.call (al := [(.slice a_55 n3 cap_56)]) Try.call34 rfl rfl (c_Turned a_55 n3 cap_56 bs.reverse ((List.length_reverse ..).trans hl3) (by omega) _ (ownView (h_60.ok _ (.head _)))) rfl ?_
  rintro _ w_64 ⟨a_62, cap_63, rfl, hc_65, ho_66⟩
  have h_67 := h_60.gotRow hc_65 ho_66
  have hq_68 := ho_66.2.2.1
  refine WL.want rfl rfl ?_
  refine WL.q (Wn.no rfl) rfl rfl (R.move (v := (.slice a3 n3 cap3)) rfl) ?_
  refine WL.want rfl rfl ?_
  refine WL.call (al := [(.slice a_62 n3 cap_63), (.slice a3 n3 cap3)]) Try.call19 rfl rfl (c_SameR a_62 n3 cap_63 bs.reverse.reverse ((List.length_reverse ..).trans ((List.length_reverse ..).trans hl3)) a3 n3 cap3 bs hl3 _ (ownView (h_67.ok _ (.head _))) (viewV (h_67.ok _ (.tail _ (.tail _ (.tail _ (.tail _ (.head _)))))))) rfl ?_
  rintro _ w_70 ⟨rfl, hc_69⟩
  have h_71 := h_67.same hc_69
  refine WL.q (Wn.no rfl) rfl rfl (R.pickT (v := (.bool true)) rfl (congrArg Value.bool (decide_eq_true (List.reverse_reverse _)))) ?_
  refine WL.q (Wn.no rfl) rfl rfl (R.assign (v := (.bool true)) rfl) ?_
  refine WL.nil ?_
  refine thn_n ?_
  refine WP.ret ?_
  refine ret_of Try.results6 (RV.tmp (v := (.bool true)) rfl RV.nil) ?_
  exact ⟨rfl, h_71.chgS⟩

theorem w_WireBack (a : Option Addr) (n cap : Nat) (xs : List Value) (ls : List (List UInt8)) (hln : ls.length = n) (a2 : Option Addr) (n2 cap2 : Nat) (ys : List Value) (ms : List (List UInt8)) (hln2 : ms.length = n2) (x : UInt64) (a3 : Option Addr) (n3 cap3 : Nat) (bs : List UInt8) (hl3 : bs.length = n3) (w : World) (hv : View w a xs) (hs : Sls w xs ls) (hv2 : View w a2 ys) (hs2 : Sls w ys ms) (hv3 : View w a3 (bs.map vu8)) : Cs Try.prog 6 [.slice a n cap, .slice a2 n2 cap2, vu64 x, .slice a3 n3 cap3].toArray w (fun v w1 => v = .bool true ∧ Chg w w1 []) := by
  by_cases hM : 70000 < Go.Wr.total ls
  · exact w_Back_m a n cap xs ls hln a2 n2 cap2 ys ms hln2 x a3 n3 cap3 bs hl3 hM w hv hs hv2 hs2 hv3
  by_cases hM2 : 70000 < Go.Wr.total ms
  · exact w_Back_n a n cap xs ls hln a2 n2 cap2 ys ms hln2 x a3 n3 cap3 bs hl3 hM hM2 w hv hs hv2 hs2 hv3
  by_cases h : 9000 < n3
  · exact w_Back_b a n cap xs ls hln a2 n2 cap2 ys ms hln2 x a3 n3 cap3 bs hl3 hM hM2 h w hv hs hv2 hs2 hv3
  rcases Bool.eq_false_or_eq_true (Go.Wr.mayPack ls) with hp | hp <;> rcases Bool.eq_false_or_eq_true (Go.Wr.mayPack ms) with hq | hq
  · exact w_Back_tt a n cap xs ls hln a2 n2 cap2 ys ms hln2 x a3 n3 cap3 bs hl3 hM hM2 h hp hq w hv hs hv2 hs2 hv3
  · exact w_Back_tf a n cap xs ls hln a2 n2 cap2 ys ms hln2 x a3 n3 cap3 bs hl3 hM hM2 h hp hq w hv hs hv2 hs2 hv3
  · exact w_Back_ft a n cap xs ls hln a2 n2 cap2 ys ms hln2 x a3 n3 cap3 bs hl3 hM hM2 h hp hq w hv hs hv2 hs2 hv3
  · exact w_Back_ff a n cap xs ls hln a2 n2 cap2 ys ms hln2 x a3 n3 cap3 bs hl3 hM hM2 h hp hq w hv hs hv2 hs2 hv3
namespace wireBackDone
open Go.ChangeShapes Go.WideShapes Go.ChangeAt
theorem own : ownKnob Try.prog.godebug = none := by kernel_rfl
theorem laidOut : laidOutB Try.prog = true := by kernel_rfl
set_option maxRecDepth 100000 in
theorem lifted (os : Os) (started : os.Started) (H : Type) (enc : TypeId × Value → H) :
    ReturnsInHanded {} Try.checked os 6 .any (Rows.wireBackSpec.pre6 enc Try.prog Try.f6 Rows.wireBackRow.domain false) (Rows.wireBackSpec.post enc Try.prog Try.f6 false true false false) := by
  refine returnsInHanded_of_change (C := Try.checked) own started (by kernel_rfl) Try.func6
    (ChangeSpec.witness6 (enc := enc) (C := Try.checked) false ⟨#[], #[.slice none 0 0, .slice none 0 0, .int .u64 0, .slice none 0 0], []⟩ 8 (by kernel_rfl) (by kernel_rfl) (by kernel_rfl) (by kernel_rfl)) ?_
  intro W base args ds gs before hval0 hW hcnd _
  have hval : ∀ (j : Nat) t v, Try.f6.params[j]? = some t → args[j]? = some v → Value.okWide Try.prog W .any base t v := hval0
  have hW' := hW
  obtain ⟨p, q, hA0, hV, rfl, hfz, hnd⟩ := hW
  have hA : DataW.TrodAll enc Try.prog W 0 (fun _ => true) true Try.f6.params.toList args.toList ds p := hA0
  rw [Try.params6] at hA hval
  obtain ⟨v0, vs0, d0, ds0, p0, q0, hargs, rfl, rfl, h0, r0⟩ := trodAll_cons hA
  obtain ⟨v1, vs1, d1, ds1, p1, q1, rfl, rfl, rfl, h1, r1⟩ := trodAll_cons r0
  obtain ⟨v2, vs2, d2, ds2, p2, q2, rfl, rfl, rfl, h2, r2⟩ := trodAll_cons r1
  obtain ⟨v3, vs3, d3, ds3, p3, q3, rfl, rfl, rfl, h3, r3⟩ := trodAll_cons r2
  obtain ⟨rfl, rfl, rfl⟩ := trodAll_nil r3
  obtain rfl : args = #[v0, v1, v2, v3] := by cases args; simp_all
  obtain ⟨rfl, rfl⟩ := trodVars_none hV
  have lt0 : ∀ x ∈ p0, x.block < W.heap.size := by obtain ⟨m, hm⟩ := h0; exact DataW.trod_lt m _ _ _ hm
  obtain ⟨a0, n0, c0, rfl⟩ := okWide_slice Try.underlying40 (hval 0 40 v0 rfl rfl)
  obtain ⟨a0, n0, c0, z0, x0, e0, l_x0, hc0, hm0, hv0, hs0, hn0⟩ := Tr.slsl Try.underlying40 ce23 Try.underlying23 ce5 Try.underlying5 (Tr.of h0 rfl)
  cases e0
  have lt1 : ∀ x ∈ p1, x.block < W.heap.size := by obtain ⟨m, hm⟩ := h1; exact DataW.trod_lt m _ _ _ hm
  obtain ⟨a1, n1, c1, rfl⟩ := okWide_slice Try.underlying40 (hval 1 40 v1 rfl rfl)
  obtain ⟨a1, n1, c1, z1, x1, e1, l_x1, hc1, hm1, hv1, hs1, hn1⟩ := Tr.slsl Try.underlying40 ce23 Try.underlying23 ce5 Try.underlying5 (Tr.of h1 rfl)
  cases e1
  have lt2 : ∀ x ∈ p2, x.block < W.heap.size := by obtain ⟨m, hm⟩ := h2; exact DataW.trod_lt m _ _ _ hm
  obtain ⟨n2, rfl⟩ := okWide_int Try.underlying22 (hval 2 22 v2 rfl rfl)
  obtain ⟨x2, rfl⟩ := Tr.u64' Try.underlying22 (Tr.of h2 rfl)
  have lt3 : ∀ x ∈ p3, x.block < W.heap.size := by obtain ⟨m, hm⟩ := h3; exact DataW.trod_lt m _ _ _ hm
  obtain ⟨a3, n3, c3, rfl⟩ := okWide_slice Try.underlying23 (hval 3 23 v3 rfl rfl)
  obtain ⟨a3, n3, c3, x3, e3, l_x3, hc3, hm3, hv3, hn3⟩ := Tr.sl8 Try.underlying23 ce5 Try.underlying5 (Tr.of h3 rfl)
  cases e3
  clear hA0 hval0
  have hw : Cs Try.prog 6 [(.slice a0 n0 c0), (.slice a1 n1 c1), (vu64 x2), (.slice a3 n3 c3)].toArray W (fun v w1 => v = .bool true ∧ Chg W w1 []) := w_WireBack a0 n0 c0 z0 x0 l_x0 a1 n1 c1 z1 x1 l_x1 x2 a3 n3 c3 x3 l_x3 W hv0.1 hs0 hv1.1 hs1 hv3.1
  have ea : ([(.slice a0 n0 c0), (.slice a1 n1 c1), (vu64 x2), (.slice a3 n3 c3)] : List Value).toArray = (#[(.slice a0 n0 c0), (.slice a1 n1 c1), (vu64 x2), (.slice a3 n3 c3)] : Array Value) := by simp [flat]
  rw [ea] at hw
  refine Calls.mono (Cs.below hw) fun e W' ⟨he, bel⟩ => ?_
  subst he
  exact ⟨_, rfl, _, _, _, [], _, [], hW', trodAll_mk1 (shut_bool Try.underlying4 _), (trodAll_cons_mk (Below.trod laidOut (by kernel_rfl) (of_decide_eq_true (by kernel_rfl)) h0 bel lt0) (trodAll_cons_mk (Below.trod laidOut (by kernel_rfl) (of_decide_eq_true (by kernel_rfl)) h1 bel lt1) (trodAll_cons_mk (Below.trod laidOut (by kernel_rfl) (of_decide_eq_true (by kernel_rfl)) h2 bel lt2) (trodAll_cons_mk (Below.trod laidOut (by kernel_rfl) (of_decide_eq_true (by kernel_rfl)) h3 bel lt3) trodAll_mk0)))), rfl, bel.frame _, fun h => by cases h⟩
theorem over : Rows.wireBackRow.holds Try.pinned (OpenSpec.ofChange Rows.wireBackSpec) :=
  OpenClaim.holds_of_wide 6 Try.f6 rfl rfl rfl rfl rfl rfl rfl ⟨rfl, rfl, rfl, rfl, rfl⟩ rfl rfl rfl rfl rfl (by kernel_rfl) Try.func6 (by kernel_rfl)
    (of_decide_eq_true (by kernel_rfl)) (by unfold Func.isWrapper; first | (rw [if_pos (by decide +kernel)]; kernel_rfl) | (rw [if_neg (by decide +kernel)]; exact ⟨rfl, rfl⟩))
    (fun os started H enc _ => lifted os started H enc)
theorem proved : Rows.WireBackSaid := over
end wireBackDone
end Go.Proofs.Ytcmgadjnammahaa
