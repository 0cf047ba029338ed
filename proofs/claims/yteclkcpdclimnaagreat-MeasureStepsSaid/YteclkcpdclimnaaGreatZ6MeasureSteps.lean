/- Rules for walks and contracts of the functions that the law reaches, one behind the other. Conditions: none beyond what each theorem states. -/
import Derived.Test.YteclkcpdclimnaaGreatZ5MeasureSteps
set_option linter.unusedVariables false
set_option linter.unusedSimpArgs false
set_option linter.unusedSectionVars false
namespace Go.Proofs.YteclkcpdclimnaaGreat
open Go.Vc Go.Orc Go.Sh Go.RowKit
set_option maxRecDepth 20000

theorem c_CloneA (a : Option Addr) (n cap : Nat) (xs : List Value) (lg : Lg) (hn : lg.length = n) (hlg : n ≤ 1000000) (w : World) (hv : View w a xs) (hp : Lgs w xs lg) :
  Cs Tryz.prog 64 [(.slice a n cap)].toArray w (fun v w1 => ∃ a cap, v = .slice a n cap ∧ Chg w w1 [] ∧ Own w.heap.size w1 96 67 a n cap xs) := by
 refine Cs.of (n := 8) (args := [(.slice a n cap)]) Tryz.func64 rfl rfl rfl ?_
 have h_0 := HP.init w
 have h_01 := h_0.oldV (View.arg hv) rfl (by simp [Ent.mut])
 have h_00 := h_01.oldV (Lgs.pin hp) rfl (by simp [Ent.mut])
 refine WP.seq (WP.reg ?_)
 refine qA (.slice none 0 0) rfl rfl ?_
 refine WL.nil (thn_n (WP.seq (WP.seq (WP.reg ?_))))
 refine qM (.slice a n cap) rfl rfl (qV rfl (R.eqNilS rfl rfl Tryz.underlying44) ?_)
 refine WL.nil (thn_n ?_)
 refine WP.cond (b := a.isNone) rfl (fun c_1 => ?_) (fun c_1 => ?_)
 ·refine WP.seq (WP.reg ?_)
  refine qA (.slice none 0 0) rfl rfl ?_
  refine WL.nil (thn_n (WP.ret (thn_r ?_)))
  refine ret_of Tryz.results64 (RV.tmp (v := (.slice none 0 0)) rfl RV.nil) ?_
  obtain rfl : xs = [] := view_noneV c_1 hv
  obtain rfl : n = 0 := by have := Lgs.len hp; simp at this; omega
  exact ⟨none, 0, rfl, h_00.chgS, Own.nil ..⟩
 ·refine WP.skip (thn_n (WP.seq (WP.reg ?_)))
  refine WL.buildSl0 h_00 Tryz.underlying44 Tryz.sizeOf96 rfl (fun b_2 w_3 h_4 => ?_)
  refine qM (.slice a n cap) rfl rfl ?_
  refine WL.append (km := n) (xs := []) (ys := xs) (zs := xs) h_4 rfl rfl el44 (viewV (h_4.ok _ M2)) (by rw [Lgs.len hp, hn]) (Lgs.one hp) rfl (by omega) (by omega) (by omega) (fun _ _ => At.h) rfl (fun a_5 c_6 w_7 h_8 => ?_)
  refine qA (.slice a_5 n c_6) rfl rfl ?_
  refine WL.nil (thn_n (WP.ret ?_))
  refine ret_of Tryz.results64 (RV.tmp (v := (.slice a_5 n c_6)) rfl RV.nil) ?_
  exact ⟨_, _, rfl, h_8.chgS, h_8.ok _ M0⟩

theorem c_oLog {w00 : World} {L : List Ent} (id : Bool) (ob mp : Nat) (ms df : List UInt8) (hms : ms.length = 32) (da : Option Addr) (dn dc u : Nat) (hdf : df.length = 32 * dn) (la : Option Addr) (lc : Nat) (lx : List Value) (lg : Lg) (hu : u ≤ 1000000) (hlg : lg.length ≤ 1000000) (w : World) (h_0 : HP w00 w (Ent.blk ob .nw 118 [(1, [(.bool id)]), (32, ms.map vu8), (1, [(.slice da dn dc)]), (1, [(vi ((u : Nat) : Int))]), (1, [(.map (some mp))]), (1, [(.slice la lg.length lc)])] :: Ent.row la lg.length lc 96 67 lx :: Ent.obj mp .nw (.map (mArr lg) lg.length) :: Ent.pin (sblks lx) (fun w => Lgs w lx lg) :: Ent.view da (df.map vu8) :: L)) :
  Cs Tryz.prog 19 [(.pointer (some ⟨ob, 0, none⟩))].toArray w (fun v w1 => ∃ a cap ys, v = .slice a lg.length cap ∧ HP w00 w1 (.row a lg.length cap 96 67 ys :: .pin (sblks ys) (fun w => Lgs w ys lg) :: Ent.blk ob .nw 118 [(1, [(.bool id)]), (32, ms.map vu8), (1, [(.slice da dn dc)]), (1, [(vi ((u : Nat) : Int))]), (1, [(.map (some mp))]), (1, [(.slice la lg.length lc)])] :: Ent.row la lg.length lc 96 67 lx :: Ent.obj mp .nw (.map (mArr lg) lg.length) :: Ent.pin (sblks lx) (fun w => Lgs w lx lg) :: Ent.view da (df.map vu8) :: L)) := by
 refine Cs.of (n := 32) (args := [(pO ob 0)]) Tryz.func19 rfl rfl rfl ?_
 refine WP.seq (WP.reg ?_)
 refine qA (.slice none 0 0) rfl rfl ?_
 refine WL.nil (thn_n (WP.seq (WP.seq (WP.reg ?_))))
 refine qM (pO ob 0) rfl rfl ?_
 refine WL.call Tryz.call63 rfl rfl (c_othere id ob mp ms hms da dn dc u la lg.length lc _ (h_0.argR M0)) rfl ?_
 rintro _ w_2 ⟨rfl, hc_1⟩
 have h_3 := h_0.same hc_1
 refine qV rfl (R.not (b := true) rfl) ?_
 refine WL.nil (thn_n ?_)
 refine WP.condF rfl ?_
 refine WP.skip (thn_n (WP.seq (WP.reg ?_)))
 refine qM (pO ob 0) rfl rfl (qV rfl (R.nilCheck rfl) (qV rfl (R.fieldAddr (off' := 36) rfl Tryz.underlying118 rfl Tryz.sizeOf44 rfl rfl) (qV rfl (R.load1 rfl Tryz.isAgg44 (h_3.ok _ M0) (Sg.t rfl (Sg.t rfl (Sg.t rfl (Sg.t rfl (Sg.t rfl Sg.h)))))) ?_)))
 refine WL.call Tryz.call64 rfl rfl (c_CloneA la lg.length lc lx lg rfl (by omega) _ (ownView (h_3.ok _ M1)) (h_3.ok _ M3).1) rfl ?_
 rintro _ w_6 ⟨a_4, cap_5, rfl, hc_7, ho_8⟩
 have h_9 := h_3.gotRow hc_7 ho_8
 refine qA (.slice a_4 lg.length cap_5) rfl rfl ?_
 refine WL.nil (thn_n (WP.seq (WP.seq (WP.reg ?_))))
 refine qM (.slice a_4 lg.length cap_5) rfl rfl (qV rfl (R.lenS (a := a_4) (m := lg.length) rfl rfl Tryz.underlying44) (qM (vi 0) rfl rfl ?_))
 refine WL.nil (thn_n (WP.block ?_))
 have h_10 := h_9.within M4 rfl (h_9.ok _ M4) rfl rfl (fun b hb => hb)
 have h_17 := ((((((h_10.up J6).up J6).up J6).up J6).up J6).up J5).up J6
 refine WP.loopG (G := Nat × List Value) [4, 15, 16, 17, 18, 19, 20, 21, 22, 23, 24, 25, 26, 27, 28, 29, 30] (fun (k, ys) => [(15, (vn k))]) (fun (k, ys) m w1 => HP w00 w1 (Ent.row a_4 lg.length cap_5 96 67 ys :: Ent.pin (sblks ys) (fun w => Lgs w ys lg) :: Ent.blk ob .nw 118 [(1, [(.bool id)]), (32, ms.map vu8), (1, [(.slice da dn dc)]), (1, [(vn u)]), (1, [(.map (some mp))]), (1, [(.slice la lg.length lc)])] :: Ent.row la lg.length lc 96 67 lx :: Ent.obj mp .nw (.map (mArr lg) lg.length) :: Ent.pin (sblks lx) (fun w => Lgs w lx lg) :: Ent.view da (df.map vu8) :: L) ∧ (k ≤ lg.length) ∧ m = lg.length + 1 - k) ⟨(0, lx), _, ⟨rfl, trivial⟩, h_17, Nat.zero_le _, rfl⟩ ?_
 rintro ⟨k, ys⟩ m_20 J_21 w_18 ⟨h_19, hk, rfl⟩
 refine WP.seq (WP.reg ?_)
 refine qV rfl (R.bin rfl rfl (bi_lss (r := decide ((((k : Nat) : Int) : Int) < ((lg.length : Nat) : Int))) rfl)) ?_
 refine WL.nil (thn_n (WP.seq ?_))
 refine WP.cond (b := decide ((((k : Nat) : Int) : Int) < ((lg.length : Nat) : Int))) rfl (fun c_22 => ?_) (fun c_22 => ?_)
 ·have p_23 := of_decide_eq_true c_22
  refine WP.skip (thn_n (WP.seq (WP.block (WP.seq (WP.reg ?_)))))
  refine qM (vn k) rfl rfl (qA (vn k) rfl rfl ?_)
  refine WL.nil (thn_n ?_)
  have hkl : k < lg.length := by omega
  have hyl := Lgs.len (h_19.ok _ M1).1
  obtain ⟨ka, kn, kc, khx, khq, khn, khc, khv, khb⟩ := Lgs.qget (i := k) (z := ((0, [], 0, []), [])) (h_19.ok _ M1).1 hkl
  have kbd : kn ≤ 1000000000 := by have hq4 := khq.2.2.2; rw [khn] at hq4; exact hq4
  have h_24 := h_19.within (e' := .view ka ((lg.getD k ((0, [], 0, []), [])).1.2.2.2.map vu8)) M1 rfl (View.arg khv) rfl rfl (fun b hb_ => khb _ (view_sblk khn b hb_))
  refine WP.reg ?_
  refine qM (.slice a_4 lg.length cap_5) rfl rfl (qM (vn k) rfl rfl (qM (.slice a_4 lg.length cap_5) rfl rfl (qM (vn k) rfl rfl (qV rfl (R.indexS (a := a_4) (i := k) (off := k * 67) (xs := ys) rfl rfl rfl (by omega) (ownView (h_24.ok _ M1)) (by rw [hyl]; omega) Tryz.underlying44 Tryz.sizeOf96 rfl) (qV rfl (R.fieldG (a := a_4) (i := k * 67) (off' := k * 67) rfl Tryz.underlying96 rfl Tryz.sizeOf90 rfl rfl) (qV rfl (R.fieldG (a := a_4) (i := k * 67) (off' := k * 67 + 34) rfl Tryz.underlying90 rfl Tryz.sizeOf88 rfl rfl) (qV rfl (R.loadG (a := a_4) (i := k * 67 + 34) (xs := ys) (v := (.slice ka kn kc)) rfl (ownView (h_24.ok _ M1)) Tryz.isAgg88 (q34 khq.1 khx)) ?_)))))))
  refine WL.call Tryz.call65 rfl rfl (c_Clone ka kn kc ((lg.getD k ((0, [], 0, []), [])).1.2.2.2) khn (by omega) _ (viewV (h_24.ok _ M0))) rfl ?_
  rintro _ w_27 ⟨a_25, cap_26, rfl, hc_28, ho_29⟩
  have h_30 := h_24.gotRow hc_28 ho_29
  refine qV rfl (R.indexS (a := a_4) (i := k) (off := k * 67) (xs := ys) rfl rfl rfl (by omega) (ownView (h_30.ok _ M2)) (by rw [hyl]; omega) Tryz.underlying44 Tryz.sizeOf96 rfl) (qV rfl (R.fieldG (a := a_4) (i := k * 67) (off' := k * 67) rfl Tryz.underlying96 rfl Tryz.sizeOf90 rfl rfl) (qV rfl (R.fieldG (a := a_4) (i := k * 67) (off' := k * 67 + 34) rfl Tryz.underlying90 rfl Tryz.sizeOf88 rfl rfl) ?_))
  refine WL.storeR (a := a_4) (i := k * 67 + 34) (v := (.slice a_25 kn cap_26)) (xs' := ys.set (k * 67 + 34) (.slice a_25 kn cap_26)) h_30 rfl rfl Tryz.sizeOf88 rfl Y2 (by rw [hyl]; omega) rfl (fun w_31 h_32 => ?_)
  refine WL.nil (inb_n (thn_n (WP.reg ?_)))
  refine qV rfl (R.bin rfl rfl (bi_add (c := ((k + 1 : Nat) : Int)) (by omega) (by omega))) (qM (vn (k + 1)) rfl rfl ?_)
  refine WL.nil (thn_n ?_)
  have h_42 := (((((((((h_32.up J1).drop rfl).up J7).up J7).up J7).up J7).up J7).up J6).up J7).up J7
  have h_43 := HP_logSet (z := ((0, [], 0, []), [])) h_42 hkl khn
  have h_54 := ((((((((((h_43.up J1).drop rfl).up J1).drop rfl).up J6).up J6).up J6).up J6).up J6).up J5).up J6
  exact ⟨(k + 1, _), _, (by omega), (Ag.upd rfl (U4 rfl rfl rfl rfl (U4 rfl rfl rfl rfl (U4 rfl rfl rfl rfl (U4 rfl rfl rfl rfl (Ag.updL rfl (Ag.mix _ _ _))))))), ⟨rfl, trivial⟩, h_54, (by omega), rfl⟩
 ·have p_55 := of_decide_eq_false c_22
  refine WP.exit (thn_x (thn_x (inb_hit (thn_n (WP.seq (WP.reg ?_))))))
  refine qM (.slice a_4 lg.length cap_5) rfl rfl (qA (.slice a_4 lg.length cap_5) rfl rfl ?_)
  refine WL.nil (thn_n (WP.ret ?_))
  refine ret_of Tryz.results19 (RV.tmp (v := (.slice a_4 lg.length cap_5)) rfl RV.nil) ?_
  have h_62 := ((((((h_19.up J6).up J6).up J6).up J6).up J6).up J6).up J6
  exact ⟨_, _, _, rfl, h_62⟩

theorem c_rSameLog (a : Option Addr) (n cap : Nat) (xs : List Value) (lg : Lg) (hn : lg.length = n) (hlg : n ≤ 1000000) (a2 : Option Addr) (cap2 : Nat) (ys : List Value) (w : World) (hv : View w a xs) (hp : Lgs w xs lg) (hv2 : View w a2 ys) (hp2 : Lgs w ys lg) :
  Cs Tryz.prog 18 [(.slice a n cap), (.slice a2 n cap2)].toArray w (fun v w1 => v = (.bool true) ∧ Chg w w1 []) := by
 refine Cs.of (n := 42) (args := [(.slice a n cap), (.slice a2 n cap2)]) Tryz.func18 rfl rfl rfl ?_
 have h_0 := HP.init w
 have h_01 := h_0.oldV (View.arg hv) rfl (by simp [Ent.mut])
 have h_02 := h_01.oldV (Lgs.pin hp) rfl (by simp [Ent.mut])
 have h_03 := h_02.oldV (View.arg hv2) rfl (by simp [Ent.mut])
 have h_00 := h_03.oldV (Lgs.pin hp2) rfl (by simp [Ent.mut])
 refine WP.seq (WP.reg ?_)
 refine qA (.bool false) rfl rfl ?_
 refine WL.nil (thn_n (WP.seq (WP.seq (WP.reg ?_))))
 refine qM (.slice a n cap) rfl rfl (qV rfl (R.lenS (a := a) (m := n) rfl rfl Tryz.underlying44) (qM (.slice a2 n cap2) rfl rfl (qV rfl (R.lenS (a := a2) (m := n) rfl rfl Tryz.underlying44) (qV rfl (R.bin rfl rfl (bi_neq (r := false) (by simp))) ?_))))
 refine WL.nil (thn_n ?_)
 refine WP.condF rfl ?_
 refine WP.skip (thn_n (WP.seq (WP.seq (WP.reg ?_))))
 refine qA (vi 0) rfl rfl ?_
 refine WL.nil (thn_n (WP.block ?_))
 refine WP.loopG (G := Nat) [4, 5, 11, 12, 13, 14, 15, 16, 17, 18, 19, 20, 21, 22, 23, 24, 25, 26, 27, 28, 29, 30, 31, 32, 33, 34, 35, 36, 37, 38, 39, 40, 41] (fun k => [(5, (vn k))]) (fun k m w1 => HP w w1 [.pin (sblks ys) (fun w => Lgs w ys lg), .view a2 ys, .pin (sblks xs) (fun w => Lgs w xs lg), .view a xs] ∧ (k ≤ n) ∧ m = n + 1 - k) ⟨0, _, ⟨rfl, trivial⟩, h_00, Nat.zero_le _, rfl⟩ ?_
 rintro k m_3 J_4 w_1 ⟨h_2, hk, rfl⟩
 refine WP.seq (WP.seq (WP.reg ?_))
 refine qM (vn k) rfl rfl (qM (.slice a n cap) rfl rfl (qV rfl (R.lenS (a := a) (m := n) rfl rfl Tryz.underlying44) (qV rfl (R.bin rfl rfl (bi_lss (r := decide ((((k : Nat) : Int) : Int) < ((n : Nat) : Int))) rfl)) ?_)))
 refine WL.nil (thn_n ?_)
 refine WP.cond (b := decide ((((k : Nat) : Int) : Int) < ((n : Nat) : Int))) rfl (fun c_5 => ?_) (fun c_5 => ?_)
 ·have p_6 := of_decide_eq_true c_5
  refine WP.skip (thn_n (WP.seq (WP.block (WP.seq ?_))))
  have hkl : k < lg.length := by omega
  obtain ⟨ka, kn, kc, khx, khq, khn, khc, khv, khb⟩ := Lgs.qget (i := k) (z := ((0, [], 0, []), [])) (h_2.ok _ M2).1 hkl
  have kbd : kn ≤ 1000000000 := by have hq4 := khq.2.2.2; rw [khn] at hq4; exact hq4
  have h_7 := h_2.within (e' := .view ka ((lg.getD k ((0, [], 0, []), [])).1.2.2.2.map vu8)) M2 rfl (View.arg khv) rfl rfl (fun b hb_ => khb _ (view_sblk khn b hb_))
  obtain ⟨ga, gn, gc, ghx, ghq, ghn, ghc, ghv, ghb⟩ := Lgs.qget (i := k) (z := ((0, [], 0, []), [])) (h_7.ok _ M1).1 hkl
  have gbd : gn ≤ 1000000000 := by have hq4 := ghq.2.2.2; rw [ghn] at hq4; exact hq4
  have h_8 := h_7.within (e' := .view ga ((lg.getD k ((0, [], 0, []), [])).1.2.2.2.map vu8)) M1 rfl (View.arg ghv) rfl rfl (fun b hb_ => ghb _ (view_sblk ghn b hb_))
  refine WP.drawT (SL w.heap.size [.view ga ((lg.getD k ((0, [], 0, []), [])).1.2.2.2.map vu8), .view ka ((lg.getD k ((0, [], 0, []), [])).1.2.2.2.map vu8), .pin (sblks ys) (fun w => Lgs w ys lg), .view a2 ys, .pin (sblks xs) (fun w => Lgs w xs lg), .view a xs]) (.q 0 (.q 1 (.q 2 (.q 3 (.q 4 (.q 5 (.q 6 (.q 7 (.q 8 (.q 9 (.s 10 (.q 11 (.q 12 (.q 13 (.q 14 (.q 15 (.q 16 (.q 17 (.q 18 (.q 19 (.q 20 (.q 21 (.q 22 (.q 23 (.q 24 .nil))))))))))))))))))))))))) (by kernel_rfl) (by kernel_rfl) rfl (by kernel_rfl) (fun w_9 hc_11 => (SL.cons ((h_8.same hc_11).ok _ M0) (SL.cons ((h_8.same hc_11).ok _ M1) (SL.cons ((h_8.same hc_11).ok _ M2) (SL.cons ((h_8.same hc_11).ok _ M3) (SL.cons ((h_8.same hc_11).ok _ M4) (SL.cons ((h_8.same hc_11).ok _ M5) (SL.nil _ _)))))))) (fun w_9 hc_11 => ?_)
  have h_10 := h_8.same hc_11
  refine qT rfl rfl (fun wq hS => R.move (v := (.slice a n cap)) rfl) ?_
  refine qT rfl rfl (fun wq hS => R.move (v := (vn k)) rfl) ?_
  refine qT rfl rfl (fun wq hS => R.indexS (a := a) (i := k) (off := k * 67) (xs := xs) rfl rfl rfl (by omega) (viewV (hS _ M5)) (by rw [Lgs.len hp, hn]; omega) Tryz.underlying44 Tryz.sizeOf96 rfl) ?_
  refine qT rfl rfl (fun wq hS => R.fieldG (a := a) (i := k * 67) (off' := k * 67) rfl Tryz.underlying96 rfl Tryz.sizeOf90 rfl rfl) ?_
  refine qT rfl rfl (fun wq hS => R.loadGA (a := a) (i := k * 67) (xs := xs) (cs := flat [(1, [(vi (((lg.getD k ((0, [], 0, []), [])).1).1))]), (32, (((lg.getD k ((0, [], 0, []), [])).1).2.1).map vu8), (1, [(vi (((lg.getD k ((0, [], 0, []), [])).1).2.2.1))]), (1, [(.slice ka kn kc)])]) rfl (viewV (hS _ M5)) Tryz.isAgg90 Tryz.sizeOf90 khx ((SsOk.cons (SOk.v rfl) (SsOk.cons (SOk.u8 khq.1) (SsOk.cons (SOk.v rfl) (SsOk.cons (SOk.v rfl) SsOk.nil))))).len (by decide)) ?_
  refine qT rfl rfl (fun wq hS => R.move (v := (.slice a2 n cap2)) rfl) ?_
  refine qT rfl rfl (fun wq hS => R.move (v := (vn k)) rfl) ?_
  refine qT rfl rfl (fun wq hS => R.indexS (a := a2) (i := k) (off := k * 67) (xs := ys) rfl rfl rfl (by omega) (viewV (hS _ M3)) (by rw [Lgs.len hp2, hn]; omega) Tryz.underlying44 Tryz.sizeOf96 rfl) ?_
  refine qT rfl rfl (fun wq hS => R.fieldG (a := a2) (i := k * 67) (off' := k * 67) rfl Tryz.underlying96 rfl Tryz.sizeOf90 rfl rfl) ?_
  refine qT rfl rfl (fun wq hS => R.loadGA (a := a2) (i := k * 67) (xs := ys) (cs := flat [(1, [(vi (((lg.getD k ((0, [], 0, []), [])).1).1))]), (32, (((lg.getD k ((0, [], 0, []), [])).1).2.1).map vu8), (1, [(vi (((lg.getD k ((0, [], 0, []), [])).1).2.2.1))]), (1, [(.slice ga gn gc)])]) rfl (viewV (hS _ M3)) Tryz.isAgg90 Tryz.sizeOf90 ghx ((SsOk.cons (SOk.v rfl) (SsOk.cons (SOk.u8 ghq.1) (SsOk.cons (SOk.v rfl) (SsOk.cons (SOk.v rfl) SsOk.nil))))).len (by decide)) ?_
  refine WT.s (oN rfl ?_)
  refine WL.call Tryz.call53 rfl rfl (c_rSame ((lg.getD k ((0, [], 0, []), [])).1) ((lg.getD k ((0, [], 0, []), [])).1) khq.1 ghq.1 ka kn kc khn ga gn gc ghn _ (viewV (h_10.ok _ M1)) (viewV (h_10.ok _ M0))) rfl ?_
  rintro _ w_13 ⟨rfl, hc_12⟩
  have h_14 := h_10.same hc_12
  refine WL.nil ?_
  refine ⟨(N0_1_2_3_4_5 h_14.ok), ?_⟩
  refine qT rfl rfl (fun wq hS => R.not (b := true) (congrArg Value.bool (decide_eq_true rfl))) ?_
  refine qT rfl rfl (fun wq hS => R.move (v := (.bool false)) rfl) ?_
  refine WT.q rfl (Wn.yes rfl rfl rfl) rfl rfl (fun wq hS => R.move (v := (.slice a n cap)) rfl) ?_
  refine WT.q rfl (Wn.yes rfl rfl rfl) rfl rfl (fun wq hS => R.move (v := (vn k)) rfl) ?_
  refine WT.q rfl (Wn.yes rfl rfl rfl) rfl rfl (fun wq hS => R.indexS (a := a) (i := k) (off := k * 67) (xs := xs) rfl rfl rfl (by omega) (viewV (hS _ M5)) (by rw [Lgs.len hp, hn]; omega) Tryz.underlying44 Tryz.sizeOf96 rfl) ?_
  refine WT.q rfl (Wn.yes rfl rfl rfl) rfl rfl (fun wq hS => R.fieldG (a := a) (i := k * 67) (off' := k * 67 + 35) rfl Tryz.underlying96 rfl Tryz.sizeOf23 rfl rfl) ?_
  refine WT.q rfl (Wn.yes rfl rfl rfl) rfl rfl (fun wq hS => R.loadGA (a := a) (i := k * 67 + 35) (xs := xs) (cs := ((lg.getD k ((0, [], 0, []), [])).2).map vu8) rfl (viewV (hS _ M5)) Tryz.isAgg23 Tryz.sizeOf23 (Lgs.ans (z := ((0, [], 0, []), [])) hp (i := k) hkl).1 (len_map (Lgs.ans (z := ((0, [], 0, []), [])) hp (i := k) hkl).2) (by decide)) ?_
  refine WT.q rfl (Wn.yes rfl rfl rfl) rfl rfl (fun wq hS => R.move (v := (.slice a2 n cap2)) rfl) ?_
  refine WT.q rfl (Wn.yes rfl rfl rfl) rfl rfl (fun wq hS => R.move (v := (vn k)) rfl) ?_
  refine WT.q rfl (Wn.yes rfl rfl rfl) rfl rfl (fun wq hS => R.indexS (a := a2) (i := k) (off := k * 67) (xs := ys) rfl rfl rfl (by omega) (viewV (hS _ M3)) (by rw [Lgs.len hp2, hn]; omega) Tryz.underlying44 Tryz.sizeOf96 rfl) ?_
  refine WT.q rfl (Wn.yes rfl rfl rfl) rfl rfl (fun wq hS => R.fieldG (a := a2) (i := k * 67) (off' := k * 67 + 35) rfl Tryz.underlying96 rfl Tryz.sizeOf23 rfl rfl) ?_
  refine WT.q rfl (Wn.yes rfl rfl rfl) rfl rfl (fun wq hS => R.loadGA (a := a2) (i := k * 67 + 35) (xs := ys) (cs := ((lg.getD k ((0, [], 0, []), [])).2).map vu8) rfl (viewV (hS _ M3)) Tryz.isAgg23 Tryz.sizeOf23 (Lgs.ans (z := ((0, [], 0, []), [])) hp2 (i := k) hkl).1 (len_map (Lgs.ans (z := ((0, [], 0, []), [])) hp2 (i := k) hkl).2) (by decide)) ?_
  refine WT.q rfl (Wn.yes rfl rfl rfl) rfl rfl (fun wq hS => R.neA (xs := ((lg.getD k ((0, [], 0, []), [])).2).map vu8) (ys := ((lg.getD k ((0, [], 0, []), [])).2).map vu8) (r := false) rfl rfl Tryz.eqGuardType23 kt23 (by decide) ag23 (Typ.u8s Tryz.underlying23 ce23 Tryz.underlying5 ce5 ((Lgs.ans (z := ((0, [], 0, []), [])) hp (i := k) hkl).2)) (Typ.u8s Tryz.underlying23 ce23 Tryz.underlying5 ce5 ((Lgs.ans (z := ((0, [], 0, []), [])) hp2 (i := k) hkl).2)) (neT rfl)) ?_
  refine qT rfl rfl (fun wq hS => R.pickF (v := (.bool false)) rfl rfl) ?_
  refine WT.nil (thn_n ?_)
  refine WP.condF rfl ?_
  refine WP.skip (inb_n (thn_n (WP.reg ?_)))
  refine qM (vn k) rfl rfl (qV rfl (R.bin rfl rfl (bi_add (c := ((k + 1 : Nat) : Int)) (by omega) (by omega))) (qA (vn (k + 1)) rfl rfl ?_))
  refine WL.nil (thn_n ?_)
  have h_20 := (((((h_14.drop rfl).drop rfl).up J3).up J3).up J3).up J3
  exact ⟨k + 1, _, (by omega), (U4 rfl rfl rfl rfl (U4 rfl rfl rfl rfl (U4 rfl rfl rfl rfl (U4 rfl rfl rfl rfl (U4 rfl rfl rfl rfl (U4 rfl rfl rfl rfl (U4 rfl rfl rfl rfl (U4 rfl rfl rfl rfl (Ag.updL rfl (Ag.mix _ _ _)))))))))), ⟨rfl, trivial⟩, h_20, (by omega), rfl⟩
 ·have p_21 := of_decide_eq_false c_5
  refine WP.exit (thn_x (thn_x (inb_hit (thn_n (WP.seq (WP.reg ?_))))))
  refine qA (.bool true) rfl rfl ?_
  refine WL.nil (thn_n (WP.ret ?_))
  refine ret_of Tryz.results18 (RV.tmp (v := (.bool true)) rfl RV.nil) ?_
  exact ⟨rfl, h_2.chgS⟩
end Go.Proofs.YteclkcpdclimnaaGreat

namespace Go.Proofs.YteclkcpdclimnaaGreat
open Go.Vc Go.Orc Go.Sh Go.RowKit
set_option maxRecDepth 20000
theorem pl47 : ∀ fs, Tryz.prog.underlying 47 = some (.struct fs) → Places Tryz.prog fs [(0, 1), (1, 32), (33, 1), (34, 1), (35, 1)] := by
 intro fs h w; rw [Tryz.underlying47] at h; cases h; simp
theorem c_Data_neg (id : Bool) (ob mp : Nat) (ms : List UInt8) (hms : ms.length = 32) (da : Option Addr) (dn dc u : Nat) (la : Option Addr) (ln lc : Nat) (md gr : List UInt8) (hmd : md.length = 32) (hgr : gr.length = 128) (pg : Int) (h : pg < 0) (w : World) (hcb : (Ent.blk ob .ro 118 [(1, [(.bool id)]), (32, ms.map vu8), (1, [(.slice da dn dc)]), (1, [(vi ((u : Nat) : Int))]), (1, [(.map (some mp))]), (1, [(.slice la ln lc)])]).ok w.heap.size w) :
  Cs Tryz.prog 28 [(.pointer (some ⟨ob, 0, none⟩)), (.agg ⟨md.map vu8⟩), (vi pg), (.agg ⟨gr.map vu8⟩)].toArray w (fun v w1 => v = (.tuple [(.agg ⟨(List.replicate 32 (0 : UInt8)).map vu8⟩), (vi 2)].toArray) ∧ Chg w w1 []) := by
 refine Cs.of (n := 39) (args := [(pO ob 0), (.agg ⟨md.map vu8⟩), (vi pg), (.agg ⟨gr.map vu8⟩)]) Tryz.func28 rfl rfl rfl ?_
 have h_0 := HP.init w
 have h_00 := h_0.old hcb (fun f hf => by cases hf)
 refine WP.seq (WP.reg ?_)
 refine WL.box (v := (.agg ⟨md.map vu8⟩)) (segs := [(32, md.map vu8)]) h_00 rfl rfl (SsOk.cons (SOk.u8 hmd) SsOk.nil) rfl (fun b_1 w_2 h_3 => ?_)
 refine WL.box (v := (.agg ⟨gr.map vu8⟩)) (segs := [(128, gr.map vu8)]) h_3 rfl rfl (SsOk.cons (SOk.u8 hgr) SsOk.nil) rfl (fun b_4 w_5 h_6 => ?_)
 refine WL.alloc (segs := [(32, (List.replicate 32 (0 : UInt8)).map vu8)]) h_6 (zv Tryz.typeInfo23 rfl) rfl (SsOk.cons (SOk.u8 lr) SsOk.nil) rfl (fun b_7 w_8 h_9 => ?_)
 refine qA (vi 0) rfl rfl ?_
 refine WL.nil (thn_n (WP.seq (WP.block (WP.seq (WP.reg ?_)))))
 refine qM (pO ob 0) rfl rfl ?_
 refine WL.call Tryz.call72 rfl rfl (c_mth id ob mp ms hms da dn dc u la ln lc _ (h_9.argR M3)) rfl ?_
 rintro _ w_11 ⟨rfl, hc_10⟩
 have h_12 := h_9.same hc_10
 refine qV rfl (R.not (b := true) rfl) (qA (.bool false) rfl rfl ?_)
 refine WL.nil (thn_n ?_)
 refine WP.condF rfl ?_
 refine WP.seq (WP.reg ?_)
 refine qM (vi pg) rfl rfl (qV rfl (R.bin rfl rfl (bi_lss (r := decide ((pg : Int) < 0)) rfl)) (qM (.bool (decide ((pg : Int) < 0))) rfl rfl ?_))
 refine WL.skip rfl (congrArg Value.bool (decide_eq_true (by omega))) rfl ?_
 refine WL.skip rfl (congrArg Value.bool (decide_eq_true (by omega))) rfl ?_
 refine qV rfl (R.pickT (v := (.bool true)) (congrArg Value.bool (decide_eq_true (by omega))) rfl) (qA (.bool true) rfl rfl ?_)
 refine WL.nil (thn_n ?_)
 refine WP.condT rfl ?_
 refine WP.seq (WP.reg ?_)
 refine qV rfl (R.buildA (vs := []) (cs := (List.replicate 32 (0 : UInt8)).map vu8) Tryz.underlying23 Tryz.sizeOf5 (zv Tryz.typeInfo23 rfl) rfl rfl) ?_
 refine WL.storeA (b := b_7) (off := 0) [] [(32, (List.replicate 32 (0 : UInt8)).map vu8)] [(32, (List.replicate 32 (0 : UInt8)).map vu8)] [] (ys := (List.replicate 32 (0 : UInt8)).map vu8) h_12 rfl rfl Tryz.sizeOf23 At.h (by decide) rfl rfl rfl rfl rfl rfl (SsOk.cons (SOk.u8 lr) SsOk.nil) (fun w_13 h_14 => ?_)
 refine qA (vi 2) rfl rfl ?_
 refine WL.nil (thn_n (WP.ret (inb_r (thn_r ?_))))
 refine ret_of Tryz.results28 (RV.cell rfl (h_14.loadA (cs := (List.replicate 32 (0 : UInt8)).map vu8) Tryz.isAgg23 Tryz.sizeOf23 M0 rfl rfl) (RV.tmp (v := (vi 2)) rfl RV.nil)) ?_
 exact ⟨rfl, h_14.chgS⟩

theorem c_Data_no (id : Bool) (ob mp : Nat) (ms : List UInt8) (hms : ms.length = 32) (da : Option Addr) (dn dc u : Nat) (la : Option Addr) (ln lc : Nat) (md gr : List UInt8) (hmd : md.length = 32) (hgr : gr.length = 128) (pg : Int) (h : ¬ (0 ≤ pg ∧ pg < 128)) (w : World) (hcb : (Ent.blk ob .ro 118 [(1, [(.bool id)]), (32, ms.map vu8), (1, [(.slice da dn dc)]), (1, [(vi ((u : Nat) : Int))]), (1, [(.map (some mp))]), (1, [(.slice la ln lc)])]).ok w.heap.size w) : Cs Tryz.prog 28 [(.pointer (some ⟨ob, 0, none⟩)), (.agg ⟨md.map vu8⟩), (vi pg), (.agg ⟨gr.map vu8⟩)].toArray w (fun v w1 => v = (.tuple [(.agg ⟨(List.replicate 32 (0 : UInt8)).map vu8⟩), (vi 2)].toArray) ∧ Chg w w1 []) := by
 by_cases h0 : pg < 0
 ·exact c_Data_neg id ob mp ms hms da dn dc u la ln lc md gr hmd hgr pg h0 w hcb
 ·exact c_Data_big id ob mp ms hms da dn dc u la ln lc md gr hmd hgr pg (by omega) w hcb

theorem c_Rec_no (id : Bool) (ob mp : Nat) (ms : List UInt8) (hms : ms.length = 32) (da : Option Addr) (dn dc u : Nat) (la : Option Addr) (ln lc : Nat) (md : List UInt8) (hmd : md.length = 32) (pc : UInt64) (rg : List UInt64) (hrg : rg.length = 8) (run : Bool) (h : decide (pc % 8 = 0) = false) (w : World) (hcb : (Ent.blk ob .ro 118 [(1, [(.bool id)]), (32, ms.map vu8), (1, [(.slice da dn dc)]), (1, [(vi ((u : Nat) : Int))]), (1, [(.map (some mp))]), (1, [(.slice la ln lc)])]).ok w.heap.size w) :
  Cs Tryz.prog 31 [(.pointer (some ⟨ob, 0, none⟩)), (.agg ⟨md.map vu8⟩), (.agg ⟨flat [(1, [(vu64 pc)]), (8, rg.map vu64), (1, [(.bool run)])]⟩)].toArray w (fun v w1 => v = (.tuple [(.agg ⟨(List.replicate 32 (0 : UInt8)).map vu8⟩), (vi 2)].toArray) ∧ Chg w w1 []) := by
 refine Cs.of (n := 30) (args := [(pO ob 0), (.agg ⟨md.map vu8⟩), (.agg ⟨flat [(1, [(vu64 pc)]), (8, rg.map vu64), (1, [(.bool run)])]⟩)]) Tryz.func31 rfl rfl rfl ?_
 have h_0 := HP.init w
 have h_00 := h_0.old hcb (fun f hf => by cases hf)
 refine WP.seq (WP.reg ?_)
 refine WL.box (v := (.agg ⟨md.map vu8⟩)) (segs := [(32, md.map vu8)]) h_00 rfl rfl (SsOk.cons (SOk.u8 hmd) SsOk.nil) rfl (fun b_1 w_2 h_3 => ?_)
 refine WL.box (v := (.agg ⟨flat [(1, [(vu64 pc)]), (8, rg.map vu64), (1, [(.bool run)])]⟩)) (segs := [(1, [(vu64 pc)]), (8, rg.map vu64), (1, [(.bool run)])]) h_3 rfl rfl (SsOk.cons (SOk.v rfl) (SsOk.cons (SOk.u64 hrg) (SsOk.cons (SOk.v rfl) SsOk.nil))) rfl (fun b_4 w_5 h_6 => ?_)
 refine WL.alloc (segs := [(32, (List.replicate 32 (0 : UInt8)).map vu8)]) h_6 (zv Tryz.typeInfo23 rfl) rfl (SsOk.cons (SOk.u8 lr) SsOk.nil) rfl (fun b_7 w_8 h_9 => ?_)
 refine qA (vi 0) rfl rfl ?_
 refine WL.nil (thn_n (WP.seq (WP.seq (WP.reg ?_))))
 refine qM (pO ob 0) rfl rfl ?_
 refine WL.call Tryz.call72 rfl rfl (c_mth id ob mp ms hms da dn dc u la ln lc _ (h_9.argR M3)) rfl ?_
 rintro _ w_11 ⟨rfl, hc_10⟩
 have h_12 := h_9.same hc_10
 refine qV rfl (R.not (b := true) rfl) ?_
 refine WL.nil (thn_n ?_)
 refine WP.condF rfl ?_
 refine WP.skip (thn_n (WP.seq (WP.reg ?_)))
 refine qV rfl (R.loadA [] [(1, [(vu64 pc)]), (8, rg.map vu64), (1, [(.bool run)])] [] (cs := flat [(1, [(vu64 pc)]), (8, rg.map vu64), (1, [(.bool run)])]) rfl Tryz.isAgg57 Tryz.sizeOf57 (h_12.ok _ M1) rfl rfl rfl rfl) ?_
 refine WL.call Tryz.call75 rfl rfl (c_RecBytes_f pc rg hrg run h _ ) rfl ?_
 rintro _ w_14 ⟨rfl, hc_13⟩
 have h_15 := h_12.same hc_13
 refine qM (.tuple [(.agg ⟨(List.replicate 128 (0 : UInt8)).map vu8⟩), (vi 2)].toArray) rfl rfl (qV rfl (R.extract rfl rfl) (qV rfl (R.extract rfl rfl) ?_))
 refine WL.alloc (segs := [(128, (List.replicate 128 (0 : UInt8)).map vu8)]) h_15 (zv Tryz.typeInfo29 rfl) rfl (SsOk.cons (SOk.u8 lr) SsOk.nil) rfl (fun b_16 w_17 h_18 => ?_)
 refine WL.storeA (b := b_16) (off := 0) [] [(128, (List.replicate 128 (0 : UInt8)).map vu8)] [(128, (List.replicate 128 (0 : UInt8)).map vu8)] [] (ys := (List.replicate 128 (0 : UInt8)).map vu8) h_18 rfl rfl Tryz.sizeOf29 At.h (by decide) rfl rfl rfl rfl rfl rfl (SsOk.cons (SOk.u8 lr) SsOk.nil) (fun w_19 h_20 => ?_)
 refine qA (vi 2) rfl rfl ?_
 refine WL.nil (thn_n (WP.seq (WP.seq (WP.reg ?_))))
 refine qM (vi 2) rfl rfl (qV rfl (R.bin rfl rfl (bi_neq (r := true) (by decide))) ?_)
 refine WL.nil (thn_n ?_)
 refine WP.condT rfl ?_
 refine WP.seq (WP.reg ?_)
 refine qV rfl (R.buildA (vs := []) (cs := (List.replicate 32 (0 : UInt8)).map vu8) Tryz.underlying23 Tryz.sizeOf5 (zv Tryz.typeInfo23 rfl) rfl rfl) (qM (vi 2) rfl rfl ?_)
 refine WL.storeA (b := b_7) (off := 0) [] [(32, (List.replicate 32 (0 : UInt8)).map vu8)] [(32, (List.replicate 32 (0 : UInt8)).map vu8)] [] (ys := (List.replicate 32 (0 : UInt8)).map vu8) h_20 rfl rfl Tryz.sizeOf23 Y1 (by decide) rfl rfl rfl rfl rfl rfl (SsOk.cons (SOk.u8 lr) SsOk.nil) (fun w_21 h_22 => ?_)
 refine qA (vi 2) rfl rfl ?_
 refine WL.nil (thn_n (WP.ret (thn_r ?_)))
 refine ret_of Tryz.results31 (RV.cell rfl (h_22.loadA (cs := (List.replicate 32 (0 : UInt8)).map vu8) Tryz.isAgg23 Tryz.sizeOf23 M1 rfl rfl) (RV.tmp (v := (vi 2)) rfl RV.nil)) ?_
 exact ⟨rfl, h_22.chgS⟩

theorem c_Rec {w00 : World} {L : List Ent} (id : Bool) (ob mp : Nat) (ms df : List UInt8) (hms : ms.length = 32) (da : Option Addr) (dn dc u : Nat) (hdf : df.length = 32 * dn) (la : Option Addr) (lc : Nat) (lx : List Value) (lg : Lg) (hu : u ≤ 1000000) (hlg : lg.length ≤ 1000000) (md : List UInt8) (hmd : md.length = 32) (pc : UInt64) (rg : List UInt64) (hrg : rg.length = 8) (run : Bool) (h : decide (pc % 8 = 0) = true) (w : World) (h_0 : HP w00 w (Ent.blk ob .nw 118 [(1, [(.bool id)]), (32, ms.map vu8), (1, [(.slice da dn dc)]), (1, [(vi ((u : Nat) : Int))]), (1, [(.map (some mp))]), (1, [(.slice la lg.length lc)])] :: Ent.row la lg.length lc 96 67 lx :: Ent.obj mp .nw (.map (mArr lg) lg.length) :: Ent.pin (sblks lx) (fun w => Lgs w lx lg) :: Ent.view da (df.map vu8) :: L)) :
  Cs Tryz.prog 31 [(.pointer (some ⟨ob, 0, none⟩)), (.agg ⟨md.map vu8⟩), (.agg ⟨flat [(1, [(vu64 pc)]), (8, rg.map vu64), (1, [(.bool run)])]⟩)].toArray w (fun v w1 => ∃ la' lc' lx', v = (.tuple [(.agg ⟨(anD id df dn u lg (1, (List.replicate 32 (0 : UInt8)), 3, [md, recB pc rg run].flatten)).map vu8⟩), (vi 0)].toArray) ∧ HP w00 w1 (Ent.blk ob .nw 118 [(1, [(.bool id)]), (32, ms.map vu8), (1, [(.slice da dn dc)]), (1, [(vi (((anU id u lg (1, (List.replicate 32 (0 : UInt8)), 3, [md, recB pc rg run].flatten)) : Nat) : Int))]), (1, [(.map (some mp))]), (1, [(.slice la' ((anL id df dn u lg (1, (List.replicate 32 (0 : UInt8)), 3, [md, recB pc rg run].flatten)).length) lc')])] :: Ent.row la' ((anL id df dn u lg (1, (List.replicate 32 (0 : UInt8)), 3, [md, recB pc rg run].flatten)).length) lc' 96 67 lx' :: Ent.obj mp .nw (.map (mArr (anL id df dn u lg (1, (List.replicate 32 (0 : UInt8)), 3, [md, recB pc rg run].flatten))) ((anL id df dn u lg (1, (List.replicate 32 (0 : UInt8)), 3, [md, recB pc rg run].flatten)).length)) :: Ent.pin (sblks lx') (fun w => Lgs w lx' (anL id df dn u lg (1, (List.replicate 32 (0 : UInt8)), 3, [md, recB pc rg run].flatten))) :: Ent.view da (df.map vu8) :: L)) := by
 refine Cs.of (n := 30) (args := [(pO ob 0), (.agg ⟨md.map vu8⟩), (.agg ⟨flat [(1, [(vu64 pc)]), (8, rg.map vu64), (1, [(.bool run)])]⟩)]) Tryz.func31 rfl rfl rfl ?_
 refine WP.seq (WP.reg ?_)
 refine WL.box (v := (.agg ⟨md.map vu8⟩)) (segs := [(32, md.map vu8)]) h_0 rfl rfl (SsOk.cons (SOk.u8 hmd) SsOk.nil) rfl (fun b_1 w_2 h_3 => ?_)
 refine WL.box (v := (.agg ⟨flat [(1, [(vu64 pc)]), (8, rg.map vu64), (1, [(.bool run)])]⟩)) (segs := [(1, [(vu64 pc)]), (8, rg.map vu64), (1, [(.bool run)])]) h_3 rfl rfl (SsOk.cons (SOk.v rfl) (SsOk.cons (SOk.u64 hrg) (SsOk.cons (SOk.v rfl) SsOk.nil))) rfl (fun b_4 w_5 h_6 => ?_)
 refine WL.alloc (segs := [(32, (List.replicate 32 (0 : UInt8)).map vu8)]) h_6 (zv Tryz.typeInfo23 rfl) rfl (SsOk.cons (SOk.u8 lr) SsOk.nil) rfl (fun b_7 w_8 h_9 => ?_)
 refine qA (vi 0) rfl rfl ?_
 refine WL.nil (thn_n (WP.seq (WP.seq (WP.reg ?_))))
 refine qM (pO ob 0) rfl rfl ?_
 refine WL.call Tryz.call72 rfl rfl (c_mth id ob mp ms hms da dn dc u la lg.length lc _ (h_9.argR M3)) rfl ?_
 rintro _ w_11 ⟨rfl, hc_10⟩
 have h_12 := h_9.same hc_10
 refine qV rfl (R.not (b := true) rfl) ?_
 refine WL.nil (thn_n ?_)
 refine WP.condF rfl ?_
 refine WP.skip (thn_n (WP.seq (WP.reg ?_)))
 refine qV rfl (R.loadA [] [(1, [(vu64 pc)]), (8, rg.map vu64), (1, [(.bool run)])] [] (cs := flat [(1, [(vu64 pc)]), (8, rg.map vu64), (1, [(.bool run)])]) rfl Tryz.isAgg57 Tryz.sizeOf57 (h_12.ok _ M1) rfl rfl rfl rfl) ?_
 refine WL.call Tryz.call75 rfl rfl (c_RecBytes_t pc rg hrg run h _ ) rfl ?_
 rintro _ w_14 ⟨rfl, hc_13⟩
 have h_15 := h_12.same hc_13
 refine qM (.tuple [(.agg ⟨(recB pc rg run).map vu8⟩), (vi 0)].toArray) rfl rfl (qV rfl (R.extract rfl rfl) (qV rfl (R.extract rfl rfl) ?_))
 refine WL.alloc (segs := [(128, (List.replicate 128 (0 : UInt8)).map vu8)]) h_15 (zv Tryz.typeInfo29 rfl) rfl (SsOk.cons (SOk.u8 lr) SsOk.nil) rfl (fun b_16 w_17 h_18 => ?_)
 refine WL.storeA (b := b_16) (off := 0) [] [(128, (List.replicate 128 (0 : UInt8)).map vu8)] [(128, (recB pc rg run).map vu8)] [] (ys := (recB pc rg run).map vu8) h_18 rfl rfl Tryz.sizeOf29 At.h (by decide) rfl rfl rfl rfl rfl rfl (SsOk.cons (SOk.u8 (recB_len ..)) SsOk.nil) (fun w_19 h_20 => ?_)
 refine qA (vi 0) rfl rfl ?_
 refine WL.nil (thn_n (WP.seq (WP.seq (WP.reg ?_))))
 refine qM (vi 0) rfl rfl (qV rfl (R.bin rfl rfl (bi_neq (r := false) (by decide))) ?_)
 refine WL.nil (thn_n ?_)
 refine WP.condF rfl ?_
 refine WP.skip (thn_n (WP.seq ?_))
 refine WP.drawT (SL w00.heap.size [.blk b_4 .nw 57 [(1, [(vu64 pc)]), (8, rg.map vu64), (1, [(.bool run)])]]) (.q 0 (.q 1 (.q 2 (.s 3 (.s 4 (.q 5 (.q 6 (.s 7 (.q 8 .nil))))))))) (by kernel_rfl) (by kernel_rfl) rfl (by kernel_rfl) (fun w_21 hc_23 => (SL.cons ((h_20.same hc_23).ok _ M2) (SL.nil _ _))) (fun w_21 hc_23 => ?_)
 have h_22 := h_20.same hc_23
 refine qT rfl rfl (fun wq hS => R.move (v := (pO ob 0)) rfl) ?_
 refine qT rfl rfl (fun wq hS => R.sliceA (b := b_1) (off := 0) (off' := 0) (l := 0) (h := 32) rfl EvB.dflt EvB.dflt (by decide) (by decide) Tryz.underlying23 Tryz.sizeOf5 rfl) ?_
 refine qT rfl rfl (fun wq hS => R.sliceA (b := b_16) (off := 0) (off' := 0) (l := 0) (h := 128) rfl EvB.dflt EvB.dflt (by decide) (by decide) Tryz.underlying29 Tryz.sizeOf5 rfl) ?_
 refine WT.s (oN rfl ?_)
 refine WL.buildSl (vs := [(0, (.slice (some ⟨b_1, 0, none⟩) 32 32)), (1, (.slice (some ⟨b_16, 0, none⟩) 128 128))]) (cs := [(.slice (some ⟨b_1, 0, none⟩) 32 32), (.slice (some ⟨b_16, 0, none⟩) 128 128)]) h_22 Tryz.underlying128 Tryz.sizeOf88 (zv Tryz.typeInfo88 rfl) rfl rfl (by kernel_rfl) rfl (by simp [Value.oneCell']) rfl rfl (fun b_24 w_25 h_26 => ?_)
 refine WL.nil ?_
 refine ⟨(SL.cons (h_26.ok _ M3) (SL.nil _ _)), ?_⟩
 refine WT.s (oN rfl ?_)
 have h_27 := h_26.up J4
 have h_28 := HP_blkView h_27
 have h_29 := h_28.up J2
 have h_30 := HP_blkView h_29
 have h_31 := h_30.up J2
 have h_32 := HP_blkView h_31
 have hbl_33 : ∀ b ∈ sblks [(.slice (some ⟨b_1, 0, none⟩) 32 32), (.slice (some ⟨b_16, 0, none⟩) 128 128)], ∃ e ∈ ((Ent.view (some ⟨b_24, 0, none⟩) [(.slice (some ⟨b_1, 0, none⟩) 32 32), (.slice (some ⟨b_16, 0, none⟩) 128 128)] :: Ent.view (some ⟨b_16, 0, none⟩) ((recB pc rg run).map vu8) :: Ent.view (some ⟨b_1, 0, none⟩) (md.map vu8) :: Ent.blk b_7 .nw 23 [(32, (List.replicate 32 (0 : UInt8)).map vu8)] :: Ent.blk b_4 .nw 57 [(1, [(vu64 pc)]), (8, rg.map vu64), (1, [(.bool run)])] :: Ent.blk ob .nw 118 [(1, [(.bool id)]), (32, ms.map vu8), (1, [(.slice da dn dc)]), (1, [(vi ((u : Nat) : Int))]), (1, [(.map (some mp))]), (1, [(.slice la lg.length lc)])] :: Ent.row la lg.length lc 96 67 lx :: Ent.obj mp .nw (.map (mArr lg) lg.length) :: Ent.pin (sblks lx) (fun w => Lgs w lx lg) :: Ent.view da (df.map vu8) :: L) : List Ent), e.mut = false ∧ b ∈ e.blocks := by
  intro b hb
  rcases List.mem_append.1 hb with hb | hb
  ·exact ⟨_, M2, rfl, sblk_in_view hmd b hb⟩
  rcases List.mem_append.1 hb with hb | hb
  ·exact ⟨_, M1, rfl, sblk_in_view (recB_len ..) b hb⟩
  cases hb
 have h_34 := HP_within (e' := .pin (sblks [(.slice (some ⟨b_1, 0, none⟩) 32 32), (.slice (some ⟨b_16, 0, none⟩) 128 128)]) (fun w => Sls w [(.slice (some ⟨b_1, 0, none⟩) 32 32), (.slice (some ⟨b_16, 0, none⟩) 128 128)] [md, recB pc rg run])) h_32 (Sls.pin (Sls.cons hmd (by decide) (viewV (h_32.ok _ M2)) (Sls.cons (recB_len ..) (by decide) (viewV (h_32.ok _ M1)) Sls.nil))) rfl rfl hbl_33
 have h_41 := ((((((h_34.up J1).up J1).up J10).up J10).up J10).up J10).up J10
 have h32_w_45 := Lgs.ok32 (h_41.ok _ M3).1
 refine WL.call Tryz.call58 rfl rfl (c_oDigest id ob mp ms df hms da dn dc u hdf la lc lx lg hu hlg (some ⟨b_24, 0, none⟩) 2 2 [(.slice (some ⟨b_1, 0, none⟩) 32 32), (.slice (some ⟨b_16, 0, none⟩) 128 128)] [md, recB pc rg run] rfl 3 (by omega) (by simp only [List.flatten_cons, List.flatten_nil, List.length_append, List.length_nil, leN_len]; rw [recB_len]; omega) (by omega) _ h_41) rfl ?_
 rintro _ w_45 ⟨la_42, lc_43, lx_44, rfl, h_46⟩
 refine WL.nil ?_
 refine ⟨(N10 h_46.ok), ?_⟩
 refine qT rfl rfl (fun wq hS => R.extract rfl rfl) ?_
 refine qT rfl rfl (fun wq hS => R.extract rfl rfl) ?_
 refine WT.s (oN rfl ?_)
 refine WL.storeA (b := b_7) (off := 0) [] [(32, (List.replicate 32 (0 : UInt8)).map vu8)] [(32, (anD id df dn u lg (1, (List.replicate 32 (0 : UInt8)), 3, [md, recB pc rg run].flatten)).map vu8)] [] (ys := (anD id df dn u lg (1, (List.replicate 32 (0 : UInt8)), 3, [md, recB pc rg run].flatten)).map vu8) h_46 rfl rfl Tryz.sizeOf23 Y9 (by decide) rfl rfl rfl rfl rfl rfl (SsOk.cons (SOk.u8 (anD_len hdf h32_w_45)) SsOk.nil) (fun w_47 h_48 => ?_)
 refine WL.nil ?_
 refine ⟨(N10 h_48.ok), ?_⟩
 refine qT rfl rfl (fun wq hS => R.assign (v := (vi 0)) rfl) ?_
 refine WT.nil (thn_n (WP.ret ?_))
 refine ret_of Tryz.results31 (RV.cell rfl (h_48.loadA (cs := (anD id df dn u lg (1, (List.replicate 32 (0 : UInt8)), 3, [md, recB pc rg run].flatten)).map vu8) Tryz.isAgg23 Tryz.sizeOf23 M9 rfl rfl) (RV.tmp (v := (vi 0)) rfl RV.nil)) ?_
 have h_65 := ((((((((((((((((h_48.up J5).drop rfl).up J5).drop rfl).up J5).drop rfl).up J5).drop rfl).up J5).drop rfl).up J5).drop rfl).up J4).up J4).up J4).up J4).up J4
 exact ⟨_, _, _, rfl, h_65⟩

theorem c_rBegin {w00 : World} {L : List Ent} (id : Bool) (ob : Nat) (ms df : List UInt8) (hms : ms.length = 32) (da : Option Addr) (dn dc u : Nat) (hdf : df.length = 32 * dn) (la : Option Addr) (lc : Nat) (lx : List Value) (lg : Lg) (hu : u ≤ 1000000) (hlg : lg.length ≤ 1000000) (val : List UInt8) (hvl : val.length = 32) (w : World) (h_0 : HP w00 w (Ent.blk ob .nw 47 [(1, [(.bool id)]), (32, ms.map vu8), (1, [(.slice da dn dc)]), (1, [(vi ((u : Nat) : Int))]), (1, [(.slice la lg.length lc)])] :: Ent.row la lg.length lc 96 67 lx :: Ent.pin (sblks lx) (fun w => Lgs w lx lg) :: Ent.view da (df.map vu8) :: L)) :
  Cs Tryz.prog 27 [(.pointer (some ⟨ob, 0, none⟩)), (.agg ⟨val.map vu8⟩)].toArray w (fun v w1 => ∃ la' lc' lx', v = (.agg ⟨(anD id df dn u lg (1, (List.replicate 32 (0 : UInt8)), 1, [val].flatten)).map vu8⟩) ∧ HP w00 w1 (Ent.blk ob .nw 47 [(1, [(.bool id)]), (32, ms.map vu8), (1, [(.slice da dn dc)]), (1, [(vi (((anU id u lg (1, (List.replicate 32 (0 : UInt8)), 1, [val].flatten)) : Nat) : Int))]), (1, [(.slice la' ((anL id df dn u lg (1, (List.replicate 32 (0 : UInt8)), 1, [val].flatten)).length) lc')])] :: Ent.row la' ((anL id df dn u lg (1, (List.replicate 32 (0 : UInt8)), 1, [val].flatten)).length) lc' 96 67 lx' :: Ent.pin (sblks lx') (fun w => Lgs w lx' (anL id df dn u lg (1, (List.replicate 32 (0 : UInt8)), 1, [val].flatten))) :: Ent.view da (df.map vu8) :: L)) := by
 refine Cs.of (n := 8) (args := [(pO ob 0), (.agg ⟨val.map vu8⟩)]) Tryz.func27 rfl rfl rfl ?_
 refine WP.seq (WP.reg ?_)
 refine WL.box (v := (.agg ⟨val.map vu8⟩)) (segs := [(32, val.map vu8)]) h_0 rfl rfl (SsOk.cons (SOk.u8 hvl) SsOk.nil) rfl (fun b_1 w_2 h_3 => ?_)
 refine WL.alloc (segs := [(32, (List.replicate 32 (0 : UInt8)).map vu8)]) h_3 (zv Tryz.typeInfo23 rfl) rfl (SsOk.cons (SOk.u8 lr) SsOk.nil) rfl (fun b_4 w_5 h_6 => ?_)
 refine WL.nil (thn_n (WP.seq (WP.reg ?_)))
 refine qM (pO ob 0) rfl rfl (qV rfl (R.sliceA (b := b_1) (off := 0) (off' := 0) (l := 0) (h := 32) rfl EvB.dflt EvB.dflt (by decide) (by decide) Tryz.underlying23 Tryz.sizeOf5 rfl) ?_)
 have h_7 := h_6.up J1
 have h_8 := HP_blkView h_7
 have h_12 := (((h_8.up J5).up J5).up J5).up J5
 have h32_w_16 := (Lgs.ok32 (h_12.ok _ M2).1)
 refine WL.call Tryz.call59 rfl rfl (c_rDig id ob ms df hms da dn dc u hdf la lc lx lg hu hlg 1 val (some ⟨b_1, 0, none⟩) 32 32 (by omega) (by omega) hvl _ h_12) rfl ?_
 rintro _ w_16 ⟨la_13, lc_14, lx_15, rfl, h_17⟩
 refine WL.storeA (b := b_4) (off := 0) [] [(32, (List.replicate 32 (0 : UInt8)).map vu8)] [(32, (anD id df dn u lg (1, (List.replicate 32 (0 : UInt8)), 1, val)).map vu8)] [] (ys := (anD id df dn u lg (1, (List.replicate 32 (0 : UInt8)), 1, val)).map vu8) h_17 rfl rfl Tryz.sizeOf23 Y5 (by decide) rfl rfl rfl rfl rfl rfl (SsOk.cons (SOk.u8 (anD_len hdf h32_w_16)) SsOk.nil) (fun w_18 h_19 => ?_)
 refine WL.nil (thn_n (WP.ret ?_))
 refine ret_of Tryz.results27 (RV.cell rfl (h_19.loadA (cs := (anD id df dn u lg (1, (List.replicate 32 (0 : UInt8)), 1, val)).map vu8) Tryz.isAgg23 Tryz.sizeOf23 M5 rfl rfl) RV.nil) ?_
 have h_27 := (((((((h_19.up J4).drop rfl).up J4).drop rfl).up J3).up J3).up J3).up J3
 have e2 : (((1, (List.replicate 32 (0 : UInt8)), 1, [val].flatten)) : Qn) = (1, (List.replicate 32 (0 : UInt8)), 1, val) := by simp
 exact ⟨_, _, _, by rw [e2]; rfl, by rw [e2]; exact h_27⟩

theorem c_rData {w00 : World} {L : List Ent} (id : Bool) (ob : Nat) (ms df : List UInt8) (hms : ms.length = 32) (da : Option Addr) (dn dc u : Nat) (hdf : df.length = 32 * dn) (la : Option Addr) (lc : Nat) (lx : List Value) (lg : Lg) (hu : u ≤ 1000000) (hlg : lg.length ≤ 1000000) (md gr : List UInt8) (hmd : md.length = 32) (hgr : gr.length = 128) (pg : Nat) (h : pg < 128) (w : World) (h_0 : HP w00 w (Ent.blk ob .nw 47 [(1, [(.bool id)]), (32, ms.map vu8), (1, [(.slice da dn dc)]), (1, [(vi ((u : Nat) : Int))]), (1, [(.slice la lg.length lc)])] :: Ent.row la lg.length lc 96 67 lx :: Ent.pin (sblks lx) (fun w => Lgs w lx lg) :: Ent.view da (df.map vu8) :: L)) :
  Cs Tryz.prog 30 [(.pointer (some ⟨ob, 0, none⟩)), (.agg ⟨md.map vu8⟩), (vi ((pg : Nat) : Int)), (.agg ⟨gr.map vu8⟩)].toArray w (fun v w1 => ∃ la' lc' lx', v = (.agg ⟨(anD id df dn u lg (1, (List.replicate 32 (0 : UInt8)), 2, [md, leN 8 (UInt64.ofNat pg).toNat, gr].flatten)).map vu8⟩) ∧ HP w00 w1 (Ent.blk ob .nw 47 [(1, [(.bool id)]), (32, ms.map vu8), (1, [(.slice da dn dc)]), (1, [(vi (((anU id u lg (1, (List.replicate 32 (0 : UInt8)), 2, [md, leN 8 (UInt64.ofNat pg).toNat, gr].flatten)) : Nat) : Int))]), (1, [(.slice la' ((anL id df dn u lg (1, (List.replicate 32 (0 : UInt8)), 2, [md, leN 8 (UInt64.ofNat pg).toNat, gr].flatten)).length) lc')])] :: Ent.row la' ((anL id df dn u lg (1, (List.replicate 32 (0 : UInt8)), 2, [md, leN 8 (UInt64.ofNat pg).toNat, gr].flatten)).length) lc' 96 67 lx' :: Ent.pin (sblks lx') (fun w => Lgs w lx' (anL id df dn u lg (1, (List.replicate 32 (0 : UInt8)), 2, [md, leN 8 (UInt64.ofNat pg).toNat, gr].flatten))) :: Ent.view da (df.map vu8) :: L)) := by
 refine Cs.of (n := 18) (args := [(pO ob 0), (.agg ⟨md.map vu8⟩), (vn pg), (.agg ⟨gr.map vu8⟩)]) Tryz.func30 rfl rfl rfl ?_
 refine WP.seq (WP.reg ?_)
 refine WL.box (v := (.agg ⟨md.map vu8⟩)) (segs := [(32, md.map vu8)]) h_0 rfl rfl (SsOk.cons (SOk.u8 hmd) SsOk.nil) rfl (fun b_1 w_2 h_3 => ?_)
 refine WL.box (v := (.agg ⟨gr.map vu8⟩)) (segs := [(128, gr.map vu8)]) h_3 rfl rfl (SsOk.cons (SOk.u8 hgr) SsOk.nil) rfl (fun b_4 w_5 h_6 => ?_)
 refine WL.alloc (segs := [(32, (List.replicate 32 (0 : UInt8)).map vu8)]) h_6 (zv Tryz.typeInfo23 rfl) rfl (SsOk.cons (SOk.u8 lr) SsOk.nil) rfl (fun b_7 w_8 h_9 => ?_)
 refine WL.nil (thn_n (WP.seq ?_))
 refine WP.drawZ 9 (SL w00.heap.size [.blk b_7 .nw 23 [(32, (List.replicate 32 (0 : UInt8)).map vu8)], .blk b_4 .nw 29 [(128, gr.map vu8)], .blk b_1 .nw 23 [(32, md.map vu8)]]) (.q 0 (.q 1 (.q 2 (.q 3 (.q 5 (.s 4 (.s 6 (.s 7 (.s 8 (.s 9 .nil)))))))))) (by kernel_rfl) (by kernel_rfl) rfl (by kernel_rfl) (fun w_10 hc_12 => (SL.cons ((h_9.same hc_12).ok _ M0) (SL.cons ((h_9.same hc_12).ok _ M1) (SL.cons ((h_9.same hc_12).ok _ M2) (SL.nil _ _))))) (fun w_10 hc_12 => ?_)
 have h_11 := h_9.same hc_12
 refine ZT.q rfl (Wn.no rfl) rfl rfl (fun wq hS => R.move (v := (pO ob 0)) rfl) ?_
 refine ZT.q rfl (Wn.no rfl) rfl rfl (fun wq hS => R.sliceA (b := b_1) (off := 0) (off' := 0) (l := 0) (h := 32) rfl EvB.dflt EvB.dflt (by decide) (by decide) Tryz.underlying23 Tryz.sizeOf5 rfl) ?_
 refine ZT.q rfl (Wn.no rfl) rfl rfl (fun wq hS => R.move (v := (vn pg)) rfl) ?_
 refine ZT.q rfl (Wn.no rfl) rfl rfl (fun wq hS => R.conv (b := ((UInt64.ofNat pg) : UInt64).toNat) rfl Tryz.underlying3 Tryz.underlying27 (w64_nat pg)) ?_
 refine ZT.q rfl (Wn.no rfl) rfl rfl (fun wq hS => R.sliceA (b := b_4) (off := 0) (off' := 0) (l := 0) (h := 128) rfl EvB.dflt EvB.dflt (by decide) (by decide) Tryz.underlying29 Tryz.sizeOf5 rfl) ?_
 refine ZT.s ?_
 refine OpZ.one rfl (Wn.no rfl) ?_
 refine WL.call Tryz.call62 rfl rfl (c_PutR (UInt64.ofNat pg) 8 (by omega) _) rfl ?_
 rintro _ w_15 ⟨a_13, cap_14, rfl, hc_16, ho_17⟩
 have h_18 := h_11.gotRow hc_16 ho_17
 refine WL.nil ?_
 refine ⟨(N1_2_3 h_18.ok), ?_⟩
 refine ZT.s ?_
 refine OpZ.one rfl (Wn.no rfl) ?_
 refine WL.buildSl (vs := [(0, (.slice (some ⟨b_1, 0, none⟩) 32 32)), (1, (.slice a_13 8 cap_14)), (2, (.slice (some ⟨b_4, 0, none⟩) 128 128))]) (cs := [(.slice (some ⟨b_1, 0, none⟩) 32 32), (.slice a_13 8 cap_14), (.slice (some ⟨b_4, 0, none⟩) 128 128)]) h_18 Tryz.underlying128 Tryz.sizeOf88 (zv Tryz.typeInfo88 rfl) rfl rfl (by kernel_rfl) rfl (by simp [Value.oneCell']) rfl rfl (fun b_19 w_20 h_21 => ?_)
 refine WL.nil ?_
 refine ⟨(N2_3_4 h_21.ok), ?_⟩
 refine ZT.s ?_
 refine OpZ.one rfl (Wn.no rfl) ?_
 refine WL.call Tryz.call74 rfl rfl (c_JoinR (some ⟨b_19, 0, none⟩) 3 3 [(.slice (some ⟨b_1, 0, none⟩) 32 32), (.slice a_13 8 cap_14), (.slice (some ⟨b_4, 0, none⟩) 128 128)] [md, leN 8 (UInt64.ofNat pg).toNat, gr] rfl (by simp only [List.flatten_cons, List.flatten_nil, List.length_append, List.length_nil, leN_len]; omega) (by omega) _ (viewB (h_21.ok _ M0) Sg.h) (Sls.cons hmd (by decide) (viewB (h_21.ok _ M4) Sg.h) (Sls.cons (leN_len ..) (h_21.own M1).2.2.1 (ownView (h_21.ok _ M1)) (Sls.cons hgr (by decide) (viewB (h_21.ok _ M3) Sg.h) Sls.nil)))) rfl ?_
 rintro _ w_24 ⟨a_22, cap_23, rfl, hc_25, ho_26⟩
 have h_27 := h_21.gotRow hc_25 ho_26
 refine WL.nil ?_
 refine ⟨(SL.cons (h_27.ok _ M3) (SL.cons (h_27.ok _ M4) (SL.cons (h_27.ok _ M5) (SL.nil _ _)))), ?_⟩
 refine ZT.s ?_
 refine OpZ.one rfl (Wn.no rfl) ?_
 have h_31 := (((h_27.up J9).up J9).up J9).up J9
 have h32_w_35 := (Lgs.ok32 (h_31.ok _ M2).1)
 refine WL.call Tryz.call59 rfl rfl (c_rDig_r id ob ms df hms da dn dc u hdf la lc lx lg hu hlg 2 ([md, leN 8 (UInt64.ofNat pg).toNat, gr].flatten) a_22 [md, leN 8 (UInt64.ofNat pg).toNat, gr].flatten.length cap_23 (by omega) (by simp only [List.flatten_cons, List.flatten_nil, List.length_append, List.length_nil, leN_len]; omega) (rfl : List.length ([md, leN 8 (UInt64.ofNat pg).toNat, gr].flatten) = [md, leN 8 (UInt64.ofNat pg).toNat, gr].flatten.length) _ h_31) rfl ?_
 rintro _ w_35 ⟨la_32, lc_33, lx_34, rfl, h_36⟩
 refine WL.nil ?_
 refine ⟨(SL.cons (h_36.ok _ M7) (SL.cons (h_36.ok _ M8) (SL.cons (h_36.ok _ M9) (SL.nil _ _)))), ?_⟩
 refine ZT.s ?_
 refine OpZ.last rfl (Wn.no rfl) ?_
 refine WL.storeA (b := b_7) (off := 0) [] [(32, (List.replicate 32 (0 : UInt8)).map vu8)] [(32, (anD id df dn u lg (1, (List.replicate 32 (0 : UInt8)), 2, ([md, leN 8 (UInt64.ofNat pg).toNat, gr].flatten))).map vu8)] [] (ys := (anD id df dn u lg (1, (List.replicate 32 (0 : UInt8)), 2, ([md, leN 8 (UInt64.ofNat pg).toNat, gr].flatten))).map vu8) h_36 rfl rfl Tryz.sizeOf23 Y7 (by decide) rfl rfl rfl rfl rfl rfl (SsOk.cons (SOk.u8 (anD_len hdf h32_w_35)) SsOk.nil) (fun w_37 h_38 => ?_)
 refine WL.nil (ZT.nil (thn_n (WP.ret ?_)))
 refine ret_of Tryz.results30 (RV.cell rfl (h_38.loadA (cs := (anD id df dn u lg (1, (List.replicate 32 (0 : UInt8)), 2, ([md, leN 8 (UInt64.ofNat pg).toNat, gr].flatten))).map vu8) Tryz.isAgg23 Tryz.sizeOf23 M7 rfl rfl) RV.nil) ?_
 have h_54 := (((((((((((((((h_38.up J4).drop rfl).up J4).drop rfl).up J4).drop rfl).up J4).drop rfl).up J4).drop rfl).up J4).drop rfl).up J3).up J3).up J3).up J3
 exact ⟨_, _, _, rfl, h_54⟩

theorem c_rRec {w00 : World} {L : List Ent} (id : Bool) (ob : Nat) (ms df : List UInt8) (hms : ms.length = 32) (da : Option Addr) (dn dc u : Nat) (hdf : df.length = 32 * dn) (la : Option Addr) (lc : Nat) (lx : List Value) (lg : Lg) (hu : u ≤ 1000000) (hlg : lg.length ≤ 1000000) (md : List UInt8) (hmd : md.length = 32) (pc : UInt64) (rg : List UInt64) (hrg : rg.length = 8) (run : Bool) (w : World) (h_0 : HP w00 w (Ent.blk ob .nw 47 [(1, [(.bool id)]), (32, ms.map vu8), (1, [(.slice da dn dc)]), (1, [(vi ((u : Nat) : Int))]), (1, [(.slice la lg.length lc)])] :: Ent.row la lg.length lc 96 67 lx :: Ent.pin (sblks lx) (fun w => Lgs w lx lg) :: Ent.view da (df.map vu8) :: L)) :
  Cs Tryz.prog 33 [(.pointer (some ⟨ob, 0, none⟩)), (.agg ⟨md.map vu8⟩), (.agg ⟨flat [(1, [(vu64 pc)]), (8, rg.map vu64), (1, [(.bool run)])]⟩)].toArray w (fun v w1 => ∃ la' lc' lx', v = (.agg ⟨(anD id df dn u lg (1, (List.replicate 32 (0 : UInt8)), 3, [md, recB pc rg run].flatten)).map vu8⟩) ∧ HP w00 w1 (Ent.blk ob .nw 47 [(1, [(.bool id)]), (32, ms.map vu8), (1, [(.slice da dn dc)]), (1, [(vi (((anU id u lg (1, (List.replicate 32 (0 : UInt8)), 3, [md, recB pc rg run].flatten)) : Nat) : Int))]), (1, [(.slice la' ((anL id df dn u lg (1, (List.replicate 32 (0 : UInt8)), 3, [md, recB pc rg run].flatten)).length) lc')])] :: Ent.row la' ((anL id df dn u lg (1, (List.replicate 32 (0 : UInt8)), 3, [md, recB pc rg run].flatten)).length) lc' 96 67 lx' :: Ent.pin (sblks lx') (fun w => Lgs w lx' (anL id df dn u lg (1, (List.replicate 32 (0 : UInt8)), 3, [md, recB pc rg run].flatten))) :: Ent.view da (df.map vu8) :: L)) := by
 refine Cs.of (n := 16) (args := [(pO ob 0), (.agg ⟨md.map vu8⟩), (.agg ⟨flat [(1, [(vu64 pc)]), (8, rg.map vu64), (1, [(.bool run)])]⟩)]) Tryz.func33 rfl rfl rfl ?_
 refine WP.seq (WP.reg ?_)
 refine WL.box (v := (.agg ⟨md.map vu8⟩)) (segs := [(32, md.map vu8)]) h_0 rfl rfl (SsOk.cons (SOk.u8 hmd) SsOk.nil) rfl (fun b_1 w_2 h_3 => ?_)
 refine WL.box (v := (.agg ⟨flat [(1, [(vu64 pc)]), (8, rg.map vu64), (1, [(.bool run)])]⟩)) (segs := [(1, [(vu64 pc)]), (8, rg.map vu64), (1, [(.bool run)])]) h_3 rfl rfl (SsOk.cons (SOk.v rfl) (SsOk.cons (SOk.u64 hrg) (SsOk.cons (SOk.v rfl) SsOk.nil))) rfl (fun b_4 w_5 h_6 => ?_)
 refine WL.alloc (segs := [(32, (List.replicate 32 (0 : UInt8)).map vu8)]) h_6 (zv Tryz.typeInfo23 rfl) rfl (SsOk.cons (SOk.u8 lr) SsOk.nil) rfl (fun b_7 w_8 h_9 => ?_)
 refine WL.nil (thn_n (WP.seq (WP.reg ?_)))
 refine qV rfl (R.loadA [] [(1, [(vu64 pc)]), (8, rg.map vu64), (1, [(.bool run)])] [] (cs := flat [(1, [(vu64 pc)]), (8, rg.map vu64), (1, [(.bool run)])]) rfl Tryz.isAgg57 Tryz.sizeOf57 (h_9.ok _ M1) rfl rfl rfl rfl) ?_
 refine WL.call Tryz.call76 rfl rfl (c_RecBytesR pc rg hrg run _ ) rfl ?_
 rintro _ w_11 ⟨rfl, hc_10⟩
 have h_12 := h_9.same hc_10
 refine WL.alloc (segs := [(128, (List.replicate 128 (0 : UInt8)).map vu8)]) h_12 (zv Tryz.typeInfo29 rfl) rfl (SsOk.cons (SOk.u8 lr) SsOk.nil) rfl (fun b_13 w_14 h_15 => ?_)
 refine WL.storeA (b := b_13) (off := 0) [] [(128, (List.replicate 128 (0 : UInt8)).map vu8)] [(128, (recB pc rg run).map vu8)] [] (ys := (recB pc rg run).map vu8) h_15 rfl rfl Tryz.sizeOf29 At.h (by decide) rfl rfl rfl rfl rfl rfl (SsOk.cons (SOk.u8 (recB_len ..)) SsOk.nil) (fun w_16 h_17 => ?_)
 refine WL.nil (thn_n (WP.seq ?_))
 refine WP.drawZ 6 (SL w00.heap.size [.blk b_13 .nw 29 [(128, (recB pc rg run).map vu8)], .blk b_7 .nw 23 [(32, (List.replicate 32 (0 : UInt8)).map vu8)], .blk b_4 .nw 57 [(1, [(vu64 pc)]), (8, rg.map vu64), (1, [(.bool run)])], .blk b_1 .nw 23 [(32, md.map vu8)]]) (.q 0 (.q 1 (.q 2 (.s 3 (.s 4 (.s 5 (.s 6 .nil))))))) (by kernel_rfl) (by kernel_rfl) rfl (by kernel_rfl) (fun w_18 hc_20 => (SL.cons ((h_17.same hc_20).ok _ M0) (SL.cons ((h_17.same hc_20).ok _ M1) (SL.cons ((h_17.same hc_20).ok _ M2) (SL.cons ((h_17.same hc_20).ok _ M3) (SL.nil _ _)))))) (fun w_18 hc_20 => ?_)
 have h_19 := h_17.same hc_20
 refine ZT.q rfl (Wn.no rfl) rfl rfl (fun wq hS => R.move (v := (pO ob 0)) rfl) ?_
 refine ZT.q rfl (Wn.no rfl) rfl rfl (fun wq hS => R.sliceA (b := b_1) (off := 0) (off' := 0) (l := 0) (h := 32) rfl EvB.dflt EvB.dflt (by decide) (by decide) Tryz.underlying23 Tryz.sizeOf5 rfl) ?_
 refine ZT.q rfl (Wn.no rfl) rfl rfl (fun wq hS => R.sliceA (b := b_13) (off := 0) (off' := 0) (l := 0) (h := 128) rfl EvB.dflt EvB.dflt (by decide) (by decide) Tryz.underlying29 Tryz.sizeOf5 rfl) ?_
 refine ZT.s ?_
 refine OpZ.one rfl (Wn.no rfl) ?_
 refine WL.buildSl (vs := [(0, (.slice (some ⟨b_1, 0, none⟩) 32 32)), (1, (.slice (some ⟨b_13, 0, none⟩) 128 128))]) (cs := [(.slice (some ⟨b_1, 0, none⟩) 32 32), (.slice (some ⟨b_13, 0, none⟩) 128 128)]) h_19 Tryz.underlying128 Tryz.sizeOf88 (zv Tryz.typeInfo88 rfl) rfl rfl (by kernel_rfl) rfl (by simp [Value.oneCell']) rfl rfl (fun b_21 w_22 h_23 => ?_)
 refine WL.nil ?_
 refine ⟨(N1_2_3_4 h_23.ok), ?_⟩
 refine ZT.s ?_
 refine OpZ.one rfl (Wn.no rfl) ?_
 refine WL.call Tryz.call74 rfl rfl (c_JoinR (some ⟨b_21, 0, none⟩) 2 2 [(.slice (some ⟨b_1, 0, none⟩) 32 32), (.slice (some ⟨b_13, 0, none⟩) 128 128)] [md, recB pc rg run] rfl (by simp only [List.flatten_cons, List.flatten_nil, List.length_append, List.length_nil, leN_len]; rw [recB_len]; omega) (by omega) _ (viewB (h_23.ok _ M0) Sg.h) (Sls.cons hmd (by decide) (viewB (h_23.ok _ M4) Sg.h) (Sls.cons (recB_len ..) (by decide) (viewB (h_23.ok _ M1) Sg.h) Sls.nil))) rfl ?_
 rintro _ w_26 ⟨a_24, cap_25, rfl, hc_27, ho_28⟩
 have h_29 := h_23.gotRow hc_27 ho_28
 refine WL.nil ?_
 refine ⟨(N2_3_4_5 h_29.ok), ?_⟩
 refine ZT.s ?_
 refine OpZ.one rfl (Wn.no rfl) ?_
 have h_33 := (((h_29.up J9).up J9).up J9).up J9
 have h32_w_37 := (Lgs.ok32 (h_33.ok _ M2).1)
 refine WL.call Tryz.call59 rfl rfl (c_rDig_r id ob ms df hms da dn dc u hdf la lc lx lg hu hlg 3 ([md, recB pc rg run].flatten) a_24 [md, recB pc rg run].flatten.length cap_25 (by omega) (by simp only [List.flatten_cons, List.flatten_nil, List.length_append, List.length_nil, leN_len]; rw [recB_len]; omega) (rfl : List.length ([md, recB pc rg run].flatten) = [md, recB pc rg run].flatten.length) _ h_33) rfl ?_
 rintro _ w_37 ⟨la_34, lc_35, lx_36, rfl, h_38⟩
 refine WL.nil ?_
 refine ⟨(SL.cons (h_38.ok _ M6) (SL.cons (h_38.ok _ M7) (SL.cons (h_38.ok _ M8) (SL.cons (h_38.ok _ M9) (SL.nil _ _))))), ?_⟩
 refine ZT.s ?_
 refine OpZ.last rfl (Wn.no rfl) ?_
 refine WL.storeA (b := b_7) (off := 0) [] [(32, (List.replicate 32 (0 : UInt8)).map vu8)] [(32, (anD id df dn u lg (1, (List.replicate 32 (0 : UInt8)), 3, ([md, recB pc rg run].flatten))).map vu8)] [] (ys := (anD id df dn u lg (1, (List.replicate 32 (0 : UInt8)), 3, ([md, recB pc rg run].flatten))).map vu8) h_38 rfl rfl Tryz.sizeOf23 Y7 (by decide) rfl rfl rfl rfl rfl rfl (SsOk.cons (SOk.u8 (anD_len hdf h32_w_37)) SsOk.nil) (fun w_39 h_40 => ?_)
 refine WL.nil (ZT.nil (thn_n (WP.ret ?_)))
 refine ret_of Tryz.results33 (RV.cell rfl (h_40.loadA (cs := (anD id df dn u lg (1, (List.replicate 32 (0 : UInt8)), 3, ([md, recB pc rg run].flatten))).map vu8) Tryz.isAgg23 Tryz.sizeOf23 M7 rfl rfl) RV.nil) ?_
 have h_56 := (((((((((((((((h_40.up J4).drop rfl).up J4).drop rfl).up J4).drop rfl).up J4).drop rfl).up J4).drop rfl).up J4).drop rfl).up J3).up J3).up J3).up J3
 exact ⟨_, _, _, rfl, h_56⟩

theorem c_mayP12_t (pg : Nat) (h : pg < 128) (w : World) :
  Cs Tryz.prog 29 [(vi ((pg : Nat) : Int))].toArray w (fun v w1 => v = (.bool true) ∧ Chg w w1 []) := by
 refine Cs.of (n := 9) (args := [(vn pg)]) Tryz.func29 rfl rfl rfl ?_
 have h_0 := HP.init w
 refine WP.seq (WP.reg ?_)
 refine qA (.bool false) rfl rfl ?_
 refine WL.nil (thn_n (WP.seq (WP.reg ?_)))
 refine qM (vn pg) rfl rfl (qV rfl (R.bin rfl rfl (bi_geq (r := decide ((((pg : Nat) : Int) : Int) ≥ 0)) rfl)) (qM (.bool (decide ((((pg : Nat) : Int) : Int) ≥ 0))) rfl rfl ?_))
 refine WL.want rfl (congrArg Value.bool (decide_eq_true (by omega))) ?_
 refine qM (vn pg) rfl rfl ?_
 refine WL.want rfl (congrArg Value.bool (decide_eq_true (by omega))) ?_
 refine qV rfl (R.bin rfl rfl (bi_lss (r := decide ((((pg : Nat) : Int) : Int) < 128)) rfl)) (qV rfl (R.pickT (v := (.bool (decide ((((pg : Nat) : Int) : Int) < 128)))) (congrArg Value.bool (decide_eq_true (by omega))) rfl) (qA (.bool (decide ((((pg : Nat) : Int) : Int) < 128))) rfl rfl ?_))
 refine WL.nil (thn_n (WP.ret ?_))
 refine ret_of Tryz.results29 (RV.tmp (v := (.bool (decide ((((pg : Nat) : Int) : Int) < 128)))) rfl RV.nil) ?_
 exact ⟨congrArg Value.bool (decide_eq_true (by omega)), h_0.chgS⟩

theorem c_mayP12_f (pg : Int) (h : ¬ (0 ≤ pg ∧ pg < 128)) (w : World) :
  Cs Tryz.prog 29 [(vi pg)].toArray w (fun v w1 => v = (.bool false) ∧ Chg w w1 []) := by
 refine Cs.of (n := 9) (args := [(vi pg)]) Tryz.func29 rfl rfl rfl ?_
 have h_0 := HP.init w
 refine WP.seq (WP.reg ?_)
 refine qA (.bool false) rfl rfl ?_
 refine WL.nil (thn_n (WP.seq (WP.reg ?_)))
 refine qM (vi pg) rfl rfl (qV rfl (R.bin rfl rfl (bi_geq (r := decide ((pg : Int) ≥ 0)) rfl)) (qM (.bool (decide ((pg : Int) ≥ 0))) rfl rfl ?_))
 rcases Bool.eq_false_or_eq_true (decide ((pg : Int) ≥ 0)) with c_1 | c_1
 ·have p_2 := of_decide_eq_true c_1
  refine WL.want rfl (congrArg Value.bool c_1) ?_
  refine qM (vi pg) rfl rfl ?_
  refine WL.want rfl (congrArg Value.bool c_1) ?_
  refine qV rfl (R.bin rfl rfl (bi_lss (r := decide ((pg : Int) < 128)) rfl)) (qV rfl (R.pickT (v := (.bool (decide ((pg : Int) < 128)))) (congrArg Value.bool c_1) rfl) (qA (.bool (decide ((pg : Int) < 128))) rfl rfl ?_))
  refine WL.nil (thn_n (WP.ret ?_))
  refine ret_of Tryz.results29 (RV.tmp (v := (.bool (decide ((pg : Int) < 128)))) rfl RV.nil) ?_
  exact ⟨congrArg Value.bool (decide_eq_false (by omega)), h_0.chgS⟩
 ·have p_3 := of_decide_eq_false c_1
  refine WL.skip rfl (congrArg Value.bool c_1) rfl ?_
  refine WL.skip rfl (congrArg Value.bool c_1) rfl ?_
  refine qV rfl (R.pickF (v := (.bool false)) (congrArg Value.bool c_1) rfl) (qA (.bool false) rfl rfl ?_)
  refine WL.nil (thn_n (WP.ret ?_))
  refine ret_of Tryz.results29 (RV.tmp (v := (.bool false)) rfl RV.nil) ?_
  exact ⟨rfl, h_0.chgS⟩

theorem c_both12 {w00 : World} {L : List Ent} (id : Bool) (ms df : List UInt8) (hms : ms.length = 32) (da0 : Option Addr) (n cap0 : Nat) (hl : df.length = 32 * n) (hn : n ≤ 1000000) (w : World) (h_0 : HP w00 w (Ent.view da0 (df.map vu8) :: L)) :
  Cs Tryz.prog 24 [(.bool id), (.agg ⟨ms.map vu8⟩), (.slice da0 n cap0)].toArray w (fun v w1 => ∃ ob mp da dc rb, v = .tuple [.pointer (some ⟨ob, 0, none⟩), .pointer (some ⟨rb, 0, none⟩)].toArray ∧ HP w00 w1 (Ent.blk ob .nw 118 [(1, [(.bool id)]), (32, ms.map vu8), (1, [(.slice da n dc)]), (1, [(vi 0)]), (1, [(.map (some mp))]), (1, [(.slice none 0 0)])] :: Ent.row none 0 0 96 67 [] :: Ent.obj mp .nw (.map (mArr ([] : Lg)) 0) :: Ent.pin (sblks []) (fun w => Lgs w [] ([] : Lg)) :: Ent.view da (df.map vu8) :: Ent.blk rb .nw 47 [(1, [(.bool id)]), (32, ms.map vu8), (1, [(.slice da0 n cap0)]), (1, [(vi 0)]), (1, [(.slice none 0 0)])] :: Ent.view da0 (df.map vu8) :: L)) := by
 refine Cs.of (n := 17) (args := [(.bool id), (.agg ⟨ms.map vu8⟩), (.slice da0 n cap0)]) Tryz.func24 rfl rfl rfl ?_
 refine WP.seq (WP.reg ?_)
 refine WL.box (v := (.agg ⟨ms.map vu8⟩)) (segs := [(32, ms.map vu8)]) h_0 rfl rfl (SsOk.cons (SOk.u8 hms) SsOk.nil) rfl (fun b_1 w_2 h_3 => ?_)
 refine qA (.pointer none) rfl rfl (qA (.pointer none) rfl rfl ?_)
 refine WL.nil (thn_n (WP.seq ?_))
 refine WP.cutG (G := Nat × Nat × Option Addr × Nat × Nat) [6, 7, 8, 9, 10, 11, 12, 13, 14, 15, 16] (fun (bY1Y3Y0Y0, bY1Y8Y0Y0, aY1Y3Y0Y0, cY1Y3Y0Y0, bY1Y3Y0Y1) => [(6, (pO bY1Y3Y0Y0 0)), (7, (pO bY1Y8Y0Y0 0)), (8, (.bool id)), (9, (.agg ⟨ms.map vu8⟩)), (10, (.slice da0 n cap0)), (12, (.bool id)), (13, (.agg ⟨ms.map vu8⟩)), (14, (.slice da0 n cap0)), (15, (.agg ⟨flat [(1, [(.bool id)]), (32, ms.map vu8), (1, [(.slice da0 n cap0)]), (1, [(vi 0)]), (1, [(.slice none 0 0)])]⟩)), (11, (pO bY1Y3Y0Y0 0)), (16, (pO bY1Y8Y0Y0 0))]) (fun (bY1Y3Y0Y0, bY1Y8Y0Y0, aY1Y3Y0Y0, cY1Y3Y0Y0, bY1Y3Y0Y1) w1 => HP w00 w1 (Ent.blk bY1Y8Y0Y0 .nw 47 [(1, [(.bool id)]), (32, ms.map vu8), (1, [(.slice da0 n cap0)]), (1, [(vi 0)]), (1, [(.slice none 0 0)])] :: Ent.blk bY1Y3Y0Y0 .nw 118 [(1, [(.bool id)]), (32, ms.map vu8), (1, [(.slice aY1Y3Y0Y0 n cY1Y3Y0Y0)]), (1, [(vi 0)]), (1, [(.map (some bY1Y3Y0Y1))]), (1, [(.slice none 0 0)])] :: Ent.row none 0 0 96 67 [] :: Ent.obj bY1Y3Y0Y1 .nw (.map (mArr ([] : Lg)) 0) :: Ent.pin (sblks []) (fun w => Lgs w [] ([] : Lg)) :: Ent.view aY1Y3Y0Y0 (df.map vu8) :: Ent.view da0 (df.map vu8) :: Ent.blk b_1 .nw 23 [(32, ms.map vu8)] :: L)) ?_ ?_
 ·refine WP.drawT (SL w00.heap.size [.blk b_1 .nw 23 [(32, ms.map vu8)], .view da0 (df.map vu8)]) (.q 0 (.q 1 (.q 2 (.q 4 (.q 5 (.q 6 (.q 7 (.s2 3 8 (.q 9 (.s 8 (.q 10 .nil))) (.s 3 (.q 9 (.q 10 .nil))))))))))) (by kernel_rfl) (by kernel_rfl) rfl (by kernel_rfl) (fun w_4 hc_6 => (SL.cons ((h_3.same hc_6).ok _ M0) (SL.cons ((h_3.same hc_6).ok _ M1) (SL.nil _ _)))) (fun w_4 hc_6 => ?_)
  have h_5 := h_3.same hc_6
  refine qT rfl rfl (fun wq hS => R.move (v := (.bool id)) rfl) ?_
  refine qT rfl rfl (fun wq hS => R.loadA [] [(32, ms.map vu8)] [] (cs := ms.map vu8) rfl Tryz.isAgg23 Tryz.sizeOf23 (hS _ M0) rfl rfl rfl rfl) ?_
  refine qT rfl rfl (fun wq hS => R.move (v := (.slice da0 n cap0)) rfl) ?_
  refine qT rfl rfl (fun wq hS => R.move (v := (.bool id)) rfl) ?_
  refine qT rfl rfl (fun wq hS => R.loadA [] [(32, ms.map vu8)] [] (cs := ms.map vu8) rfl Tryz.isAgg23 Tryz.sizeOf23 (hS _ M0) rfl rfl rfl rfl) ?_
  refine qT rfl rfl (fun wq hS => R.move (v := (.slice da0 n cap0)) rfl) ?_
  refine qT rfl rfl (fun wq hS => R.buildS (pl := [(0, 1), (1, 32), (33, 1), (34, 1), (35, 1)]) (zs := [(1, [(.bool false)]), (32, (List.replicate 32 (0 : UInt8)).map vu8), (1, [(.slice none 0 0)]), (1, [(vi 0)]), (1, [(.slice none 0 0)])]) (vs := [(0, (.bool id)), (1, (.agg ⟨ms.map vu8⟩)), (2, (.slice da0 n cap0))]) (out := [(1, [(.bool id)]), (32, ms.map vu8), (1, [(.slice da0 n cap0)]), (1, [(vi 0)]), (1, [(.slice none 0 0)])]) (cs := flat [(1, [(.bool id)]), (32, ms.map vu8), (1, [(.slice da0 n cap0)]), (1, [(vi 0)]), (1, [(.slice none 0 0)])]) Tryz.underlying47 (zv Tryz.typeInfo47 rfl) rfl (SsOk.cons (SOk.v rfl) (SsOk.cons (SOk.u8 lr) (SsOk.cons (SOk.v rfl) (SsOk.cons (SOk.v rfl) (SsOk.cons (SOk.v rfl) SsOk.nil))))) (pl47 _ Tryz.underlying47) rfl (FillR.cons [] [(1, [(.bool false)])] [(1, [(.bool id)])] [(32, (List.replicate 32 (0 : UInt8)).map vu8), (1, [(.slice none 0 0)]), (1, [(vi 0)]), (1, [(.slice none 0 0)])] rfl rfl rfl rfl (SsOk.cons (SOk.v rfl) SsOk.nil) rfl rfl rfl (FillR.cons [(1, [(.bool id)])] [(32, (List.replicate 32 (0 : UInt8)).map vu8)] [(32, ms.map vu8)] [(1, [(.slice none 0 0)]), (1, [(vi 0)]), (1, [(.slice none 0 0)])] rfl rfl rfl rfl (SsOk.cons (SOk.u8 hms) SsOk.nil) rfl rfl rfl (FillR.cons [(1, [(.bool id)]), (32, ms.map vu8)] [(1, [(.slice none 0 0)])] [(1, [(.slice da0 n cap0)])] [(1, [(vi 0)]), (1, [(.slice none 0 0)])] rfl rfl rfl rfl (SsOk.cons (SOk.v rfl) SsOk.nil) rfl rfl rfl FillR.nil))) rfl) ?_
  refine WT.s2 ?_ ?_
  ·refine oN rfl ?_
   have h_8 := h_5.up J1
   refine WL.call Tryz.call46 rfl rfl (c_ONew id ms df hms da0 n cap0 hl (by omega) _ h_8) rfl ?_
   rintro _ w_13 ⟨b_9, b_10, a_11, c_12, rfl, h_14⟩
   refine WL.nil ?_
   refine ⟨(SL.cons (h_14.ok _ M6) (SL.cons (h_14.ok _ M5) (SL.nil _ _))), ?_⟩
   refine qT rfl rfl (fun wq hS => R.assign (v := (pO b_9 0)) rfl) ?_
   refine WT.s (oN rfl ?_)
   refine WL.box (v := (.agg ⟨flat [(1, [(.bool id)]), (32, ms.map vu8), (1, [(.slice da0 n cap0)]), (1, [(vi 0)]), (1, [(.slice none 0 0)])]⟩)) (segs := [(1, [(.bool id)]), (32, ms.map vu8), (1, [(.slice da0 n cap0)]), (1, [(vi 0)]), (1, [(.slice none 0 0)])]) h_14 rfl rfl (SsOk.cons (SOk.v rfl) (SsOk.cons (SOk.u8 hms) (SsOk.cons (SOk.v rfl) (SsOk.cons (SOk.v rfl) (SsOk.cons (SOk.v rfl) SsOk.nil))))) rfl (fun b_15 w_16 h_17 => ?_)
   refine WL.nil ?_
   refine ⟨(SL.cons (h_17.ok _ M7) (SL.cons (h_17.ok _ M6) (SL.nil _ _))), ?_⟩
   refine qT rfl rfl (fun wq hS => R.assign (v := (pO b_15 0)) rfl) ?_
   refine WT.nil (thn_n ?_)
   exact ⟨(b_9, b_15, a_11, c_12, b_10), (Ag.upd rfl (U2 rfl rfl (U4 rfl rfl rfl rfl (U4 rfl rfl rfl rfl (Ag.refl _ _))))), ⟨rfl, rfl, rfl, rfl, rfl, rfl, rfl, rfl, rfl, rfl, rfl, trivial⟩, h_17⟩
  ·refine oN rfl ?_
   refine WL.box (v := (.agg ⟨flat [(1, [(.bool id)]), (32, ms.map vu8), (1, [(.slice da0 n cap0)]), (1, [(vi 0)]), (1, [(.slice none 0 0)])]⟩)) (segs := [(1, [(.bool id)]), (32, ms.map vu8), (1, [(.slice da0 n cap0)]), (1, [(vi 0)]), (1, [(.slice none 0 0)])]) h_5 rfl rfl (SsOk.cons (SOk.v rfl) (SsOk.cons (SOk.u8 hms) (SsOk.cons (SOk.v rfl) (SsOk.cons (SOk.v rfl) (SsOk.cons (SOk.v rfl) SsOk.nil))))) rfl (fun b_18 w_19 h_20 => ?_)
   refine WL.nil ?_
   refine ⟨(N1_2 h_20.ok), ?_⟩
   refine WT.s (oN rfl ?_)
   have h_21 := h_20.up J2
   refine WL.call Tryz.call46 rfl rfl (c_ONew id ms df hms da0 n cap0 hl (by omega) _ h_21) rfl ?_
   rintro _ w_26 ⟨b_22, b_23, a_24, c_25, rfl, h_27⟩
   refine WL.nil ?_
   refine ⟨(SL.cons (h_27.ok _ M7) (SL.cons (h_27.ok _ M5) (SL.nil _ _))), ?_⟩
   refine qT rfl rfl (fun wq hS => R.assign (v := (pO b_22 0)) rfl) ?_
   refine qT rfl rfl (fun wq hS => R.assign (v := (pO b_18 0)) rfl) ?_
   refine WT.nil (thn_n ?_)
   have h_35 := (((((((h_27.up J7).up J6).up J6).up J6).up J6).up J6).up J6).up J7
   exact ⟨(b_22, b_18, a_24, c_25, b_23), (Ag.upd rfl (U2 rfl rfl (U4 rfl rfl rfl rfl (U4 rfl rfl rfl rfl (Ag.refl _ _))))), ⟨rfl, rfl, rfl, rfl, rfl, rfl, rfl, rfl, rfl, rfl, rfl, trivial⟩, h_35⟩
 ·rintro ⟨b_39, b_40, a_41, c_42, b_43⟩ J_36 w_37 h_38
  refine thn_n (WP.ret ?_)
  refine ret_of Tryz.results24 (RV.tmp (v := (pO b_39 0)) rfl (RV.tmp (v := (pO b_40 0)) rfl RV.nil)) ?_
  have h_52 := ((((((((h_38.up J7).drop rfl).up J6).up J1).up J6).up J6).up J6).up J6).up J6
  exact ⟨_, _, _, _, _, rfl, h_52⟩
end Go.Proofs.YteclkcpdclimnaaGreat
