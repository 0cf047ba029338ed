/- Rules for walks and contracts of the functions that the law reaches, one behind the other. Conditions: none beyond what each theorem states. -/
import Derived.Test.YtbhllplbbkmndaaGreatZ4TreeLays
set_option linter.unusedVariables false
set_option linter.unusedSimpArgs false
set_option linter.unusedSectionVars false
namespace Go.Proofs.YtbhllplbbkmndaaGreat
open Go.Proofs.Tryz
open Go.Vc Go.Orc Go.Sh Go.RowKit
set_option maxRecDepth 20000

theorem c_rAns {w00 : World} {L : List Ent} (id : Bool) (ob : Nat) (ms df : List UInt8) (hms : ms.length = 32) (da : Option Addr) (dn dc u : Nat) (hdf : df.length = 32 * dn) (la : Option Addr) (lc : Nat) (lx : List Value) (lg : Lg) (hu : u ≤ 1000000) (hlg : lg.length ≤ 1000000) (kd dm : Int) (key data : List UInt8) (qa : Option Addr) (qn qc : Nat) (hq : okQ (kd, key, dm, data)) (hdl : data.length = qn) (cd : List UInt8) (hcdl : cd.length = 32) (hcd : id = false → cd = cF (kd, key, dm, data)) (w : World) (h_0 : HP w00 w (Ent.blk ob .nw 61 [(1, [(.bool id)]), (32, ms.map vu8), (1, [(.slice da dn dc)]), (1, [(vi ((u : Nat) : Int))]), (1, [(.slice la lg.length lc)])] :: Ent.row la lg.length lc 102 67 lx :: Ent.pin (sblks lx) (fun w => Lgs w lx lg) :: Ent.view da (df.map vu8) :: Ent.view qa (data.map vu8) :: L)) :
  Cs Tryz.prog 79 [(.pointer (some ⟨ob, 0, none⟩)), (.agg ⟨flat [(1, [(vi kd)]), (32, key.map vu8), (1, [(vi dm)]), (1, [(.slice qa qn qc)])]⟩), (.agg ⟨cd.map vu8⟩)].toArray w (fun v w1 => ∃ la' lc' lx', v = (.agg ⟨(anD id df dn u lg (kd, key, dm, data)).map vu8⟩) ∧ HP w00 w1 (Ent.blk ob .nw 61 [(1, [(.bool id)]), (32, ms.map vu8), (1, [(.slice da dn dc)]), (1, [(vi (((anU id u lg (kd, key, dm, data)) : Nat) : Int))]), (1, [(.slice la' ((anL id df dn u lg (kd, key, dm, data)).length) lc')])] :: Ent.row la' ((anL id df dn u lg (kd, key, dm, data)).length) lc' 102 67 lx' :: Ent.pin (sblks lx') (fun w => Lgs w lx' (anL id df dn u lg (kd, key, dm, data))) :: Ent.view da (df.map vu8) :: Ent.view qa (data.map vu8) :: L)) := by
 have hlgs : Lgs w lx lg := (h_0.ok _ M2).1
 have hlo := hlgs.ok
 have hqn : data.length ≤ 1000000000 := hq.2.2.2
 refine Cs.of (n := 71) (args := [(pO ob 0), (.agg ⟨flat [(1, [(vi kd)]), (32, key.map vu8), (1, [(vi dm)]), (1, [(.slice qa qn qc)])]⟩), (.agg ⟨cd.map vu8⟩)]) Tryz.func79 rfl rfl rfl ?_
 refine WP.seq (WP.reg ?_)
 refine WL.box (segs := [(1, [(vi kd)]), (32, key.map vu8), (1, [(vi dm)]), (1, [(.slice qa qn qc)])]) h_0 rfl rfl (sC sV (sC (s8 hq.1) (sC sV (sC sV sN)))) rfl (fun b_1 w_2 h_3 => ?_)
 refine WL.box (segs := [(32, cd.map vu8)]) h_3 rfl rfl (sC (s8 hcdl) sN) rfl (fun b_4 w_5 h_6 => ?_)
 refine WL.alloc (segs := [(32, (zB 32).map vu8)]) h_6 (zv typeInfo23 rfl) rfl (sC (s8 lr) sN) rfl (fun b_7 w_8 h_9 => ?_)
 refine WL.nil (thn_n (WP.seq (WP.seq (WP.reg ?_))))
 refine qA (vi 0) rfl rfl ?_
 refine WL.nil (thn_n (WP.block ?_))
 refine WP.loopG (G := Nat) [7, 9, 10, 11, 12, 13, 14, 15, 16, 17, 18, 19, 20, 21, 22, 23, 24, 25, 26, 27, 28, 29, 30, 31, 32, 33, 34, 35] (fun k => [(7, (vn k))]) (fun k m w1 => HP w00 w1 (Ent.blk b_7 .nw 23 [(32, (zB 32).map vu8)] :: Ent.blk b_4 .nw 23 [(32, cd.map vu8)] :: Ent.blk b_1 .nw 100 [(1, [(vi kd)]), (32, key.map vu8), (1, [(vi dm)]), (1, [(.slice qa qn qc)])] :: Ent.blk ob .nw 61 [(1, [(.bool id)]), (32, ms.map vu8), (1, [(.slice da dn dc)]), (1, [(vn u)]), (1, [(.slice la lg.length lc)])] :: Ent.row la lg.length lc 102 67 lx :: Ent.pin (sblks lx) (fun w => Lgs w lx lg) :: Ent.view da (df.map vu8) :: Ent.view qa (data.map vu8) :: L) ∧ (k ≤ lg.length) ∧ (∀ j, j < k → (lg.getD j ((kd, key, dm, data), [])).1 ≠ (kd, key, dm, data)) ∧ m = lg.length + 1 - k) ⟨0, _, ⟨rfl, trivial⟩, h_9, Nat.zero_le _, (fun j hj => by omega), rfl⟩ ?_
 rintro k m_12 J_13 w_10 ⟨h_11, hk, hno, rfl⟩
 refine WP.seq (WP.seq (WP.reg ?_))
 refine qM (vn k) rfl rfl (qM (pO ob 0) rfl rfl (qV rfl (R.nilCheck rfl) (qV rfl (R.fieldAddr (off' := 35) rfl underlying61 rfl sizeOf58 rfl rfl) (qV rfl (R.load1 rfl isAgg58 (h_11.ok _ M3) (Sg.t rfl (Sg.t rfl (Sg.t rfl (Sg.t rfl Sg.h))))) (qV rfl (R.lenS (a := la) (m := lg.length) rfl rfl underlying58) (qV rfl (R.bin rfl rfl (bi_lss (r := decide ((((k : Nat) : Int) : Int) < ((lg.length : Nat) : Int))) rfl)) ?_))))))
 refine WL.nil (thn_n ?_)
 refine WP.cond (b := decide ((((k : Nat) : Int) : Int) < ((lg.length : Nat) : Int))) rfl (fun c_14 => ?_) (fun c_14 => ?_)
 ·have p_15 := of_decide_eq_true c_14
  refine WP.skip (thn_n (WP.seq (WP.block (WP.seq ?_))))
  have hkl : k < lg.length := by omega
  obtain ⟨ka, kn, kc, hkx, hkq, hkn, hkc, hkv, hkb⟩ := Lgs.qget (z := ((kd, key, dm, data), [])) (h_11.ok _ M5).1 hkl
  have h_16 := h_11.within (e' := .view ka ((lg.getD k ((kd, key, dm, data), [])).1.2.2.2.map vu8)) M5 rfl (View.arg hkv) rfl rfl (fun b hb_ => hkb _ (view_sblk hkn b hb_))
  refine WP.drawT (SL w00.heap.size [.view ka ((lg.getD k ((kd, key, dm, data), [])).1.2.2.2.map vu8), .blk b_7 .nw 23 [(32, (zB 32).map vu8)], .blk b_4 .nw 23 [(32, cd.map vu8)], .blk b_1 .nw 100 [(1, [(vi kd)]), (32, key.map vu8), (1, [(vi dm)]), (1, [(.slice qa qn qc)])], .blk ob .nw 61 [(1, [(.bool id)]), (32, ms.map vu8), (1, [(.slice da dn dc)]), (1, [(vn u)]), (1, [(.slice la lg.length lc)])], .row la lg.length lc 102 67 lx, .pin (sblks lx) (fun w => Lgs w lx lg), .view da (df.map vu8), .view qa (data.map vu8)]) (.q 0 (.q 1 (.q 2 (.q 3 (.q 4 (.q 5 (.q 6 (.q 7 (.q 8 (.s 9 .nil)))))))))) (by kernel_rfl) (by kernel_rfl) rfl (by kernel_rfl) (fun w_17 hc_19 => (SL.cons ((h_16.same hc_19).ok _ M0) (SL.cons ((h_16.same hc_19).ok _ M1) (SL.cons ((h_16.same hc_19).ok _ M2) (SL.cons ((h_16.same hc_19).ok _ M3) (SL.cons ((h_16.same hc_19).ok _ M4) (SL.cons ((h_16.same hc_19).ok _ M5) (SL.cons ((h_16.same hc_19).ok _ M6) (SL.cons ((h_16.same hc_19).ok _ M7) (SL.cons ((h_16.same hc_19).ok _ M8) (SL.nil _ _))))))))))) (fun w_17 hc_19 => ?_)
  have h_18 := h_16.same hc_19
  refine qT rfl rfl (fun wq hS => R.move (v := (pO ob 0)) rfl) ?_
  refine qT rfl rfl (fun wq hS => R.nilCheck rfl) ?_
  refine qT rfl rfl (fun wq hS => R.fieldAddr (off' := 35) rfl underlying61 rfl sizeOf58 rfl rfl) ?_
  refine qT rfl rfl (fun wq hS => R.load1 rfl isAgg58 (hS _ M4) (Sg.t rfl (Sg.t rfl (Sg.t rfl (Sg.t rfl Sg.h))))) ?_
  refine qT rfl rfl (fun wq hS => R.move (v := (vn k)) rfl) ?_
  refine qT rfl rfl (fun wq hS => R.indexS (a := la) (i := k) (off := k * 67) (xs := lx) rfl rfl rfl (by omega) (ownView (hS _ M5)) (by rw [Lgs.len hlgs]; omega) underlying58 sizeOf102 rfl) ?_
  refine qT rfl rfl (fun wq hS => R.fieldG (a := la) (i := k * 67) (off' := k * 67) rfl underlying102 rfl sizeOf100 rfl rfl) ?_
  refine qT rfl rfl (fun wq hS => R.loadGA (a := la) (i := k * 67) (xs := lx) (cs := flat [(1, [(vi (((lg.getD k ((kd, key, dm, data), [])).1).1))]), (32, (((lg.getD k ((kd, key, dm, data), [])).1).2.1).map vu8), (1, [(vi (((lg.getD k ((kd, key, dm, data), [])).1).2.2.1))]), (1, [(.slice ka kn kc)])]) rfl (ownView (hS _ M5)) isAgg100 sizeOf100 hkx ((sC sV (sC (s8 hkq.1) (sC sV (sC sV sN))))).len (by decide)) ?_
  refine qT rfl rfl (fun wq hS => R.loadA [] [(1, [(vi kd)]), (32, key.map vu8), (1, [(vi dm)]), (1, [(.slice qa qn qc)])] [] rfl isAgg100 sizeOf100 (hS _ M3) rfl rfl rfl rfl) ?_
  refine WT.s (oN rfl ?_)
  refine WL.call Tryz.call53 rfl rfl (c_rSame ((lg.getD k ((kd, key, dm, data), [])).1) (kd, key, dm, data) hkq.1 hq.1 ka kn kc hkn qa qn qc hdl _ (viewV (h_18.ok _ M0)) (viewV (h_18.ok _ M8))) rfl ?_
  rintro _ w_21 ⟨rfl, hc_20⟩
  have h_22 := h_18.same hc_20
  refine WL.nil ?_
  refine ⟨(N0_1_2_3_4_5_6_7_8 h_22.ok), ?_⟩
  refine WT.nil (thn_n ?_)
  refine WP.cond (b := decide ((lg.getD k ((kd, key, dm, data), [])).1 = (kd, key, dm, data))) rfl (fun c_23 => ?_) (fun c_23 => ?_)
  ·have p_24 := of_decide_eq_true c_23
   refine WP.seq ?_
   have hfd : fdq (kd, key, dm, data) lg 0 = some k := (fdq_at (s := 0) hkl hno p_24).trans (by rw [Nat.zero_add])
   refine WP.reg ?_
   refine qM (pO ob 0) rfl rfl (qV rfl (R.nilCheck rfl) (qV rfl (R.fieldAddr (off' := 35) rfl underlying61 rfl sizeOf58 rfl rfl) (qV rfl (R.load1 rfl isAgg58 (h_22.ok _ M4) (Sg.t rfl (Sg.t rfl (Sg.t rfl (Sg.t rfl Sg.h))))) (qM (vn k) rfl rfl (qV rfl (R.indexS (a := la) (i := k) (off := k * 67) (xs := lx) rfl rfl rfl (by omega) (ownView (h_22.ok _ M5)) (by rw [Lgs.len hlgs]; omega) underlying58 sizeOf102 rfl) (qV rfl (R.fieldG (a := la) (i := k * 67) (off' := k * 67 + 35) rfl underlying102 rfl sizeOf23 rfl rfl) (qV rfl (R.loadGA (a := la) (i := k * 67 + 35) (xs := lx) (cs := ((lg.getD k ((kd, key, dm, data), [])).2).map vu8) rfl (ownView (h_22.ok _ M5)) isAgg23 sizeOf23 (Lgs.ans (z := ((kd, key, dm, data), [])) hlgs (i := k) hkl).1 (len_map (Lgs.ans (z := ((kd, key, dm, data), [])) hlgs (i := k) hkl).2) (by decide)) ?_)))))))
   refine WL.storeA [] [(32, (zB 32).map vu8)] [(32, ((lg.getD k ((kd, key, dm, data), [])).2).map vu8)] [] h_22 rfl rfl sizeOf23 Y1 (by decide) rfl rfl rfl rfl rfl rfl (sC (s8 ((Lgs.ans (z := ((kd, key, dm, data), [])) hlgs (i := k) hkl).2)) sN) (fun w_25 h_26 => ?_)
   refine WL.nil (thn_n (WP.ret (inb_r (thn_r (thn_r (inb_r (thn_r ?_)))))))
   refine ret_of results79 (RV.cell rfl (h_26.loadA (cs := ((lg.getD k ((kd, key, dm, data), [])).2).map vu8) isAgg23 sizeOf23 M1 rfl rfl) RV.nil) ?_
   have h_35 := ((((((((h_26.drop rfl).drop rfl).drop rfl).drop rfl).up J4).up J4).up J4).up J4).up J4
   exact ⟨la, lc, lx, by rw [anD_hit hfd]; rfl, by rw [anU_hit hfd, anL_hit hfd]; exact h_35⟩
  ·have p_36 := of_decide_eq_false c_23
   refine WP.skip (inb_n (thn_n (WP.reg ?_)))
   refine qM (vn k) rfl rfl (qV rfl (R.bin rfl rfl (bi_add (c := ((k + 1 : Nat) : Int)) (by omega) (by omega))) (qA (vn (k + 1)) rfl rfl ?_))
   refine WL.nil (thn_n ?_)
   have h_45 := ((((((((h_22.drop rfl).up J7).up J7).up J7).up J7).up J7).up J7).up J7).up J7
   exact ⟨k + 1, _, (by omega), (U4 rfl rfl rfl rfl (U4 rfl rfl rfl rfl (U4 rfl rfl rfl rfl (U4 rfl rfl rfl rfl (U4 rfl rfl rfl rfl (Ag.updL rfl (Ag.mix _ _ _))))))), ⟨rfl, trivial⟩, h_45, (by omega), (fun j hj => (Nat.lt_or_eq_of_le (Nat.le_of_lt_succ hj)).elim (fun e => hno j e) (fun e => by rw [e]; exact p_36)), rfl⟩
 ·have p_46 := of_decide_eq_false c_14
  refine WP.exit (thn_x (thn_x (inb_hit (thn_n (WP.seq ?_)))))
  have hfd : fdq (kd, key, dm, data) lg 0 = none := fdq_no (z := ((kd, key, dm, data), [])) (fun j hj => hno j (by omega))
  refine WP.reg ?_
  refine qV rfl (R.loadA [] [(32, cd.map vu8)] [] (cs := cd.map vu8) rfl isAgg23 sizeOf23 (h_11.ok _ M1) rfl rfl rfl rfl) ?_
  refine WL.alloc (segs := [(32, (zB 32).map vu8)]) h_11 (zv typeInfo23 rfl) rfl (sC (s8 lr) sN) rfl (fun b_47 w_48 h_49 => ?_)
  refine WL.storeA [] [(32, (zB 32).map vu8)] [(32, cd.map vu8)] [] h_49 rfl rfl sizeOf23 At.h (by decide) rfl rfl rfl rfl rfl rfl (sC (s8 hcdl) sN) (fun w_50 h_51 => ?_)
  refine WL.nil (thn_n (WP.seq (WP.seq (WP.reg ?_))))
  refine qM (pO ob 0) rfl rfl (qV rfl (R.nilCheck rfl) (qV rfl (R.fieldAddr (off' := 0) rfl underlying61 rfl sizeOf4 rfl rfl) (qV rfl (R.load1 rfl isAgg4 (h_51.ok _ M4) Sg.h) ?_)))
  refine WL.nil (thn_n ?_)
  refine WP.cond (b := id) rfl (fun c_52 => ?_) (fun c_52 => ?_)
  ·refine WP.seq (WP.reg ?_)
   refine qM (pO ob 0) rfl rfl (qM (pO ob 0) rfl rfl (qV rfl (R.nilCheck rfl) (qV rfl (R.fieldAddr (off' := 34) rfl underlying61 rfl sizeOf3 rfl rfl) (qV rfl (R.load1 rfl isAgg3 (h_51.ok _ M4) (Sg.t rfl (Sg.t rfl (Sg.t rfl Sg.h)))) ?_))))
   refine WL.call Tryz.call91 rfl rfl (c_rDraw id ob ms df hms da dn dc u u hdf la lg.length lc (by omega) _ (viewV (h_51.ok _ M7)) (h_51.argR M4)) rfl ?_
   rintro _ w_54 ⟨rfl, hc_53⟩
   have h_55 := h_51.same hc_53
   refine WL.storeA [] [(32, cd.map vu8)] [(32, (drawF df dn u).map vu8)] [] h_55 rfl rfl sizeOf23 At.h (by decide) rfl rfl rfl rfl rfl rfl (sC (s8 (drawF_len hdf)) sN) (fun w_56 h_57 => ?_)
   refine WL.nil (thn_n (WP.reg ?_))
   refine qM (pO ob 0) rfl rfl (qV rfl (R.nilCheck rfl) (qV rfl (R.fieldAddr (off' := 34) rfl underlying61 rfl sizeOf3 rfl rfl) (qV rfl (R.load1 rfl isAgg3 (h_57.ok _ M4) (Sg.t rfl (Sg.t rfl (Sg.t rfl Sg.h)))) (qV rfl (R.bin rfl rfl (bi_add (c := ((u + 1 : Nat) : Int)) (by omega) (by omega))) (qV rfl (R.nilCheck rfl) (qV rfl (R.fieldAddr (off' := 34) rfl underlying61 rfl sizeOf3 rfl rfl) ?_))))))
   refine WL.store1 h_57 rfl rfl sizeOf3 rfl Y4 (by decide) (Sg.t rfl (Sg.t rfl (Sg.t rfl Sg.h))) (fun w_58 h_59 => ?_)
   refine WL.nil (thn_n (WP.seq (WP.reg ?_)))
   refine qV rfl (R.fieldAddr (off' := 34) rfl underlying100 rfl sizeOf81 rfl rfl) (qV rfl (R.load1 rfl isAgg81 (h_59.ok _ M3) (Sg.t rfl (Sg.t rfl (Sg.t rfl Sg.h)))) ?_)
   have h_60 := h_59.rowNil 5 1
   refine WL.append (km := qn) (xs := []) (ys := data.map vu8) (zs := (([] : List UInt8) ++ data).map vu8) h_60 rfl rfl el81 (viewV (h_60.ok _ M9)) ((len_map hdl).trans (Nat.mul_one _).symm) (one_u8 _) (by simp only [List.map_append, List.map_nil]) (by omega) (by omega) (by omega) (fun _ _ => At.h) rfl (fun a_61 c_62 w_63 h_64 => ?_)
   refine qV rfl (R.fieldAddr (off' := 34) rfl underlying100 rfl sizeOf81 rfl rfl) ?_
   refine WL.store1 h_64 rfl rfl sizeOf81 rfl Y4 (by decide) (Sg.t rfl (Sg.t rfl (Sg.t rfl Sg.h))) (fun w_65 h_66 => ?_)
   refine WL.nil (thn_n (WP.seq ?_))
   refine WP.cutG (G := Nat × Option Addr × Nat) [58, 59, 60, 61, 62, 63, 64, 65, 66, 67, 68, 69] (fun (bY11Y8Y0Y0, aY11Y9Y0Y0, cY11Y9Y0Y0) => [(58, (pO ob 0)), (59, (pO ob 0)), (60, (pO ob 0)), (61, (pO ob 35)), (63, (.agg ⟨flat [(1, [(vi kd)]), (32, key.map vu8), (1, [(vi dm)]), (1, [(.slice a_61 qn c_62)])]⟩)), (64, (.agg ⟨(drawF df dn u).map vu8⟩)), (65, (.agg ⟨flat [(1, [(vi kd)]), (32, key.map vu8), (1, [(vi dm)]), (1, [(.slice a_61 qn c_62)]), (32, (drawF df dn u).map vu8)]⟩)), (62, (.slice la lg.length lc)), (66, (.slice (some ⟨bY11Y8Y0Y0, 0, none⟩) 1 1)), (67, (.slice aY11Y9Y0Y0 (lg.length + 1) cY11Y9Y0Y0)), (68, (pO ob 0)), (69, (pO ob 35))]) (fun (bY11Y8Y0Y0, aY11Y9Y0Y0, cY11Y9Y0Y0) w1 => HP w00 w1 (Ent.blk bY11Y8Y0Y0 .nw 102 [(67, aC (kd, key, dm, data) (.slice a_61 qn c_62) (drawF df dn u))] :: Ent.row a_61 qn c_62 5 1 ((([] : List UInt8) ++ data).map vu8) :: Ent.blk b_47 .nw 23 [(32, (drawF df dn u).map vu8)] :: Ent.blk b_7 .nw 23 [(32, (zB 32).map vu8)] :: Ent.blk b_4 .nw 23 [(32, cd.map vu8)] :: Ent.blk b_1 .nw 100 [(1, [(vi kd)]), (32, key.map vu8), (1, [(vi dm)]), (1, [(.slice a_61 qn c_62)])] :: Ent.blk ob .nw 61 [(1, [(.bool id)]), (32, ms.map vu8), (1, [(.slice da dn dc)]), (1, [(vn (u + 1))]), (1, [(.slice aY11Y9Y0Y0 (lg.length + 1) cY11Y9Y0Y0)])] :: Ent.row aY11Y9Y0Y0 (lg.length + 1) cY11Y9Y0Y0 102 67 (lx ++ aC (kd, key, dm, data) (.slice a_61 qn c_62) (drawF df dn u)) :: Ent.pin (sblks lx) (fun w => Lgs w lx lg) :: Ent.view da (df.map vu8) :: Ent.view qa (data.map vu8) :: L)) ?_ ?_
   ·refine WP.drawT (SL w00.heap.size [.row a_61 qn c_62 5 1 ((([] : List UInt8) ++ data).map vu8), .blk b_47 .nw 23 [(32, (drawF df dn u).map vu8)], .blk b_7 .nw 23 [(32, (zB 32).map vu8)], .blk b_4 .nw 23 [(32, cd.map vu8)], .blk b_1 .nw 100 [(1, [(vi kd)]), (32, key.map vu8), (1, [(vi dm)]), (1, [(.slice a_61 qn c_62)])], .pin (sblks lx) (fun w => Lgs w lx lg), .view da (df.map vu8), .view qa (data.map vu8)]) (.q 0 (.q 1 (.q 2 (.q 3 (.q 5 (.q 6 (.q 7 (.s2 4 8 (.s 8 (.s 9 (.q 10 (.q 11 (.s 12 .nil))))) (.s 4 (.s 9 (.q 10 (.q 11 (.s 12 .nil))))))))))))) (by kernel_rfl) (by kernel_rfl) rfl (by kernel_rfl) (fun w_67 hc_69 => (SL.cons ((h_66.same hc_69).ok _ M0) (SL.cons ((h_66.same hc_69).ok _ M1) (SL.cons ((h_66.same hc_69).ok _ M2) (SL.cons ((h_66.same hc_69).ok _ M3) (SL.cons ((h_66.same hc_69).ok _ M4) (SL.cons ((h_66.same hc_69).ok _ M7) (SL.cons ((h_66.same hc_69).ok _ M8) (SL.cons ((h_66.same hc_69).ok _ M9) (SL.nil _ _)))))))))) (fun w_67 hc_69 => ?_)
    have h_68 := h_66.same hc_69
    refine qT rfl rfl (fun wq hS => R.move (v := (pO ob 0)) rfl) ?_
    refine qT rfl rfl (fun wq hS => R.move (v := (pO ob 0)) rfl) ?_
    refine qT rfl rfl (fun wq hS => R.nilCheck rfl) ?_
    refine qT rfl rfl (fun wq hS => R.fieldAddr (off' := 35) rfl underlying61 rfl sizeOf58 rfl rfl) ?_
    refine qT rfl rfl (fun wq hS => R.loadA [] [(1, [(vi kd)]), (32, key.map vu8), (1, [(vi dm)]), (1, [(.slice a_61 qn c_62)])] [] rfl isAgg100 sizeOf100 (hS _ M4) rfl rfl rfl rfl) ?_
    refine qT rfl rfl (fun wq hS => R.loadA [] [(32, (drawF df dn u).map vu8)] [] (cs := (drawF df dn u).map vu8) rfl isAgg23 sizeOf23 (hS _ M1) rfl rfl rfl rfl) ?_
    refine qT rfl rfl (fun wq hS => R.buildS (pl := [(0, 35), (35, 32)]) (zs := [(1, [(vi 0)]), (32, (zB 32).map vu8), (1, [(vi 0)]), (1, [(.slice none 0 0)]), (32, (zB 32).map vu8)]) (vs := [(0, (.agg ⟨flat [(1, [(vi kd)]), (32, key.map vu8), (1, [(vi dm)]), (1, [(.slice a_61 qn c_62)])]⟩)), (1, (.agg ⟨(drawF df dn u).map vu8⟩))]) (out := [(1, [(vi kd)]), (32, key.map vu8), (1, [(vi dm)]), (1, [(.slice a_61 qn c_62)]), (32, (drawF df dn u).map vu8)]) underlying102 (zv typeInfo102 rfl) rfl (sC sV (sC (s8 lr) (sC sV (sC sV (sC (s8 lr) sN))))) (pl102 _ underlying102) rfl (FillR.cons [] [(1, [(vi 0)]), (32, (zB 32).map vu8), (1, [(vi 0)]), (1, [(.slice none 0 0)])] [(1, [(vi kd)]), (32, key.map vu8), (1, [(vi dm)]), (1, [(.slice a_61 qn c_62)])] [(32, (zB 32).map vu8)] rfl rfl rfl rfl (sC sV (sC (s8 hq.1) (sC sV (sC sV sN)))) rfl rfl rfl (FillR.cons [(1, [(vi kd)]), (32, key.map vu8), (1, [(vi dm)]), (1, [(.slice a_61 qn c_62)])] [(32, (zB 32).map vu8)] [(32, (drawF df dn u).map vu8)] [] rfl rfl rfl rfl (sC (s8 (drawF_len hdf)) sN) rfl rfl rfl FillR.nil)) rfl) ?_
    refine WT.s2 ?_ ?_
    ·refine oN rfl ?_
     refine qV rfl (R.load1 rfl isAgg58 (h_68.ok _ M5) (Sg.t rfl (Sg.t rfl (Sg.t rfl (Sg.t rfl Sg.h))))) ?_
     refine WL.nil ?_
     refine ⟨(N0_1_2_3_4_7_8_9 h_68.ok), ?_⟩
     refine WT.s (oN rfl ?_)
     refine WL.buildSl (vs := [(0, (.agg ⟨flat [(1, [(vi kd)]), (32, key.map vu8), (1, [(vi dm)]), (1, [(.slice a_61 qn c_62)]), (32, (drawF df dn u).map vu8)]⟩))]) (cs := aC (kd, key, dm, data) (.slice a_61 qn c_62) (drawF df dn u)) h_68 underlying58 sizeOf102 (zv typeInfo102 rfl) rfl rfl (fill_1 (zc := flat [(1, [vi 0]), (32, List.replicate 32 (vu8 0)), (1, [vi 0]), (1, [.slice none 0 0]), (32, List.replicate 32 (vu8 0))]) (by kernel_rfl) (sC (s := (67, flat [(1, [vi 0]), (32, List.replicate 32 (vu8 0)), (1, [vi 0]), (1, [.slice none 0 0]), (32, List.replicate 32 (vu8 0))])) ⟨by decide, SsOk.one (sC sV (sC (SOk.rep rfl) (sC sV (sC sV (sC (SOk.rep rfl) sN)))))⟩ sN) (aC_ok (q := (kd, key, dm, data)) (s := (.slice a_61 qn c_62)) (d := drawF df dn u) hq.1 (drawF_len hdf) rfl)) ((aC_ok (q := (kd, key, dm, data)) (s := (.slice a_61 qn c_62)) (d := drawF df dn u) hq.1 (drawF_len hdf) rfl)).head.len ((aC_ok (q := (kd, key, dm, data)) (s := (.slice a_61 qn c_62)) (d := drawF df dn u) hq.1 (drawF_len hdf) rfl)).head.one rfl rfl (fun b_71 w_72 h_73 => ?_)
     refine WL.nil ?_
     refine ⟨(N1_2_3_4_5_8_9_10 h_73.ok), ?_⟩
     refine WT.s (oN rfl ?_)
     refine WL.append (km := lg.length + 1) (xs := lx) (ys := aC (kd, key, dm, data) (.slice a_61 qn c_62) (drawF df dn u)) (zs := lx ++ aC (kd, key, dm, data) (.slice a_61 qn c_62) (drawF df dn u)) h_73 rfl rfl el58 (viewB (h_73.ok _ M0) Sg.h) ((aC_ok (q := (kd, key, dm, data)) (s := (.slice a_61 qn c_62)) (d := drawF df dn u) hq.1 (drawF_len hdf) rfl)).head.len ((aC_ok (q := (kd, key, dm, data)) (s := (.slice a_61 qn c_62)) (d := drawF df dn u) hq.1 (drawF_len hdf) rfl)).head.one rfl (by omega) (by omega) (by omega) (fun _ _ => Y7) rfl (fun a_74 c_75 w_76 h_77 => ?_)
     refine WL.nil ?_
     refine ⟨(N1_2_3_4_5_8_9_10 h_77.ok), ?_⟩
     refine qT rfl rfl (fun wq hS => R.nilCheck rfl) ?_
     refine qT rfl rfl (fun wq hS => R.fieldAddr (off' := 35) rfl underlying61 rfl sizeOf58 rfl rfl) ?_
     refine WT.s (oN rfl ?_)
     refine WL.store1 h_77 rfl rfl sizeOf58 rfl Y6 (by decide) (Sg.t rfl (Sg.t rfl (Sg.t rfl (Sg.t rfl Sg.h)))) (fun w_78 h_79 => ?_)
     refine WL.nil ?_
     refine ⟨(N1_2_3_4_5_8_9_10 h_79.ok), ?_⟩
     refine WT.nil (thn_n ?_)
     exact ⟨(b_71, a_74, c_75), (U4 rfl rfl rfl rfl (U4 rfl rfl rfl rfl (U4 rfl rfl rfl rfl (Ag.refl _ _)))), ⟨rfl, rfl, rfl, rfl, rfl, rfl, rfl, rfl, rfl, rfl, rfl, rfl, trivial⟩, h_79⟩
    ·refine oN rfl ?_
     refine WL.buildSl (vs := [(0, (.agg ⟨flat [(1, [(vi kd)]), (32, key.map vu8), (1, [(vi dm)]), (1, [(.slice a_61 qn c_62)]), (32, (drawF df dn u).map vu8)]⟩))]) (cs := aC (kd, key, dm, data) (.slice a_61 qn c_62) (drawF df dn u)) h_68 underlying58 sizeOf102 (zv typeInfo102 rfl) rfl rfl (fill_1 (zc := flat [(1, [vi 0]), (32, List.replicate 32 (vu8 0)), (1, [vi 0]), (1, [.slice none 0 0]), (32, List.replicate 32 (vu8 0))]) (by kernel_rfl) (sC (s := (67, flat [(1, [vi 0]), (32, List.replicate 32 (vu8 0)), (1, [vi 0]), (1, [.slice none 0 0]), (32, List.replicate 32 (vu8 0))])) ⟨by decide, SsOk.one (sC sV (sC (SOk.rep rfl) (sC sV (sC sV (sC (SOk.rep rfl) sN)))))⟩ sN) (aC_ok (q := (kd, key, dm, data)) (s := (.slice a_61 qn c_62)) (d := drawF df dn u) hq.1 (drawF_len hdf) rfl)) ((aC_ok (q := (kd, key, dm, data)) (s := (.slice a_61 qn c_62)) (d := drawF df dn u) hq.1 (drawF_len hdf) rfl)).head.len ((aC_ok (q := (kd, key, dm, data)) (s := (.slice a_61 qn c_62)) (d := drawF df dn u) hq.1 (drawF_len hdf) rfl)).head.one rfl rfl (fun b_80 w_81 h_82 => ?_)
     refine WL.nil ?_
     refine ⟨(N1_2_3_4_5_8_9_10 h_82.ok), ?_⟩
     refine WT.s (oN rfl ?_)
     refine qV rfl (R.load1 rfl isAgg58 (h_82.ok _ M6) (Sg.t rfl (Sg.t rfl (Sg.t rfl (Sg.t rfl Sg.h))))) ?_
     refine WL.nil ?_
     refine ⟨(N1_2_3_4_5_8_9_10 h_82.ok), ?_⟩
     refine WT.s (oN rfl ?_)
     refine WL.append (km := lg.length + 1) (xs := lx) (ys := aC (kd, key, dm, data) (.slice a_61 qn c_62) (drawF df dn u)) (zs := lx ++ aC (kd, key, dm, data) (.slice a_61 qn c_62) (drawF df dn u)) h_82 rfl rfl el58 (viewB (h_82.ok _ M0) Sg.h) ((aC_ok (q := (kd, key, dm, data)) (s := (.slice a_61 qn c_62)) (d := drawF df dn u) hq.1 (drawF_len hdf) rfl)).head.len ((aC_ok (q := (kd, key, dm, data)) (s := (.slice a_61 qn c_62)) (d := drawF df dn u) hq.1 (drawF_len hdf) rfl)).head.one rfl (by omega) (by omega) (by omega) (fun _ _ => Y7) rfl (fun a_83 c_84 w_85 h_86 => ?_)
     refine WL.nil ?_
     refine ⟨(N1_2_3_4_5_8_9_10 h_86.ok), ?_⟩
     refine qT rfl rfl (fun wq hS => R.nilCheck rfl) ?_
     refine qT rfl rfl (fun wq hS => R.fieldAddr (off' := 35) rfl underlying61 rfl sizeOf58 rfl rfl) ?_
     refine WT.s (oN rfl ?_)
     refine WL.store1 h_86 rfl rfl sizeOf58 rfl Y6 (by decide) (Sg.t rfl (Sg.t rfl (Sg.t rfl (Sg.t rfl Sg.h)))) (fun w_87 h_88 => ?_)
     refine WL.nil ?_
     refine ⟨(N1_2_3_4_5_8_9_10 h_88.ok), ?_⟩
     refine WT.nil (thn_n ?_)
     exact ⟨(b_80, a_83, c_84), (U4 rfl rfl rfl rfl (U4 rfl rfl rfl rfl (U4 rfl rfl rfl rfl (Ag.refl _ _)))), ⟨rfl, rfl, rfl, rfl, rfl, rfl, rfl, rfl, rfl, rfl, rfl, rfl, trivial⟩, h_88⟩
   ·rintro ⟨b_92, a_93, c_94⟩ J_89 w_90 h_91
    refine thn_n (WP.seq (WP.reg ?_))
    refine qV rfl (R.loadA [] [(32, (drawF df dn u).map vu8)] [] (cs := (drawF df dn u).map vu8) rfl isAgg23 sizeOf23 (h_91.ok _ M2) rfl rfl rfl rfl) ?_
    refine WL.storeA [] [(32, (zB 32).map vu8)] [(32, (drawF df dn u).map vu8)] [] h_91 rfl rfl sizeOf23 Y3 (by decide) rfl rfl rfl rfl rfl rfl (sC (s8 (drawF_len hdf)) sN) (fun w_95 h_96 => ?_)
    refine WL.nil (thn_n (WP.ret ?_))
    refine ret_of results79 (RV.cell rfl (h_96.loadA (cs := (drawF df dn u).map vu8) isAgg23 sizeOf23 M3 rfl rfl) RV.nil) ?_
    have h_111 := ((((((((((((((h_96.drop rfl).up J1).drop rfl).up J1).drop rfl).up J1).drop rfl).up J1).drop rfl).up J5).up J5).up J4).up J4).up J5).up J5
    have h_112 := HP_logPush (q := (kd, key, dm, data)) (d := drawF df dn u) h_111 hq (drawF_len hdf) (lenApp (a := 0) (b := qn) (rfl : List.length ([] : List UInt8) = 0) hdl (by omega) : List.length (([] : List UInt8) ++ data) = qn)
    have h_122 := ((((((((h_112.up J1).drop rfl).up J1).drop rfl).up J4).up J4).up J2).up J4).up J4
    have hmf : mF id df dn u (kd, key, dm, data) = drawF df dn u := by rw [mF, c_52]; rfl
    have hu2 : (bif id then u + 1 else u) = u + 1 := by rw [c_52]; rfl
    have hse : lg.length + 1 = (lg ++ [((kd, key, dm, data), drawF df dn u)]).length := snoc_len.symm
    have h_113 := h_122
    rw [hse] at h_113
    exact ⟨_, _, _, by rw [anD_miss hfd, hmf]; rfl, by rw [anU_miss hfd, anL_miss hfd, hmf, hu2]; exact h_113⟩
  ·refine WP.skip (thn_n (WP.seq (WP.reg ?_)))
   refine qV rfl (R.fieldAddr (off' := 34) rfl underlying100 rfl sizeOf81 rfl rfl) (qV rfl (R.load1 rfl isAgg81 (h_51.ok _ M3) (Sg.t rfl (Sg.t rfl (Sg.t rfl Sg.h)))) ?_)
   have h_123 := h_51.rowNil 5 1
   refine WL.append (km := qn) (xs := []) (ys := data.map vu8) (zs := (([] : List UInt8) ++ data).map vu8) h_123 rfl rfl el81 (viewV (h_123.ok _ M9)) ((len_map hdl).trans (Nat.mul_one _).symm) (one_u8 _) (by simp only [List.map_append, List.map_nil]) (by omega) (by omega) (by omega) (fun _ _ => At.h) rfl (fun a_124 c_125 w_126 h_127 => ?_)
   refine qV rfl (R.fieldAddr (off' := 34) rfl underlying100 rfl sizeOf81 rfl rfl) ?_
   refine WL.store1 h_127 rfl rfl sizeOf81 rfl Y4 (by decide) (Sg.t rfl (Sg.t rfl (Sg.t rfl Sg.h))) (fun w_128 h_129 => ?_)
   refine WL.nil (thn_n (WP.seq ?_))
   refine WP.cutG (G := Nat × Option Addr × Nat) [58, 59, 60, 61, 62, 63, 64, 65, 66, 67, 68, 69] (fun (bY11Y8Y0Y0, aY11Y9Y0Y0, cY11Y9Y0Y0) => [(58, (pO ob 0)), (59, (pO ob 0)), (60, (pO ob 0)), (61, (pO ob 35)), (63, (.agg ⟨flat [(1, [(vi kd)]), (32, key.map vu8), (1, [(vi dm)]), (1, [(.slice a_124 qn c_125)])]⟩)), (64, (.agg ⟨cd.map vu8⟩)), (65, (.agg ⟨flat [(1, [(vi kd)]), (32, key.map vu8), (1, [(vi dm)]), (1, [(.slice a_124 qn c_125)]), (32, cd.map vu8)]⟩)), (62, (.slice la lg.length lc)), (66, (.slice (some ⟨bY11Y8Y0Y0, 0, none⟩) 1 1)), (67, (.slice aY11Y9Y0Y0 (lg.length + 1) cY11Y9Y0Y0)), (68, (pO ob 0)), (69, (pO ob 35))]) (fun (bY11Y8Y0Y0, aY11Y9Y0Y0, cY11Y9Y0Y0) w1 => HP w00 w1 (Ent.blk bY11Y8Y0Y0 .nw 102 [(67, aC (kd, key, dm, data) (.slice a_124 qn c_125) cd)] :: Ent.row a_124 qn c_125 5 1 ((([] : List UInt8) ++ data).map vu8) :: Ent.blk b_47 .nw 23 [(32, cd.map vu8)] :: Ent.blk b_7 .nw 23 [(32, (zB 32).map vu8)] :: Ent.blk b_4 .nw 23 [(32, cd.map vu8)] :: Ent.blk b_1 .nw 100 [(1, [(vi kd)]), (32, key.map vu8), (1, [(vi dm)]), (1, [(.slice a_124 qn c_125)])] :: Ent.blk ob .nw 61 [(1, [(.bool id)]), (32, ms.map vu8), (1, [(.slice da dn dc)]), (1, [(vn u)]), (1, [(.slice aY11Y9Y0Y0 (lg.length + 1) cY11Y9Y0Y0)])] :: Ent.row aY11Y9Y0Y0 (lg.length + 1) cY11Y9Y0Y0 102 67 (lx ++ aC (kd, key, dm, data) (.slice a_124 qn c_125) cd) :: Ent.pin (sblks lx) (fun w => Lgs w lx lg) :: Ent.view da (df.map vu8) :: Ent.view qa (data.map vu8) :: L)) ?_ ?_
   ·refine WP.drawT (SL w00.heap.size [.row a_124 qn c_125 5 1 ((([] : List UInt8) ++ data).map vu8), .blk b_47 .nw 23 [(32, cd.map vu8)], .blk b_7 .nw 23 [(32, (zB 32).map vu8)], .blk b_4 .nw 23 [(32, cd.map vu8)], .blk b_1 .nw 100 [(1, [(vi kd)]), (32, key.map vu8), (1, [(vi dm)]), (1, [(.slice a_124 qn c_125)])], .pin (sblks lx) (fun w => Lgs w lx lg), .view da (df.map vu8), .view qa (data.map vu8)]) (.q 0 (.q 1 (.q 2 (.q 3 (.q 5 (.q 6 (.q 7 (.s2 4 8 (.s 8 (.s 9 (.q 10 (.q 11 (.s 12 .nil))))) (.s 4 (.s 9 (.q 10 (.q 11 (.s 12 .nil))))))))))))) (by kernel_rfl) (by kernel_rfl) rfl (by kernel_rfl) (fun w_130 hc_132 => (SL.cons ((h_129.same hc_132).ok _ M0) (SL.cons ((h_129.same hc_132).ok _ M1) (SL.cons ((h_129.same hc_132).ok _ M2) (SL.cons ((h_129.same hc_132).ok _ M3) (SL.cons ((h_129.same hc_132).ok _ M4) (SL.cons ((h_129.same hc_132).ok _ M7) (SL.cons ((h_129.same hc_132).ok _ M8) (SL.cons ((h_129.same hc_132).ok _ M9) (SL.nil _ _)))))))))) (fun w_130 hc_132 => ?_)
    have h_131 := h_129.same hc_132
    refine qT rfl rfl (fun wq hS => R.move (v := (pO ob 0)) rfl) ?_
    refine qT rfl rfl (fun wq hS => R.move (v := (pO ob 0)) rfl) ?_
    refine qT rfl rfl (fun wq hS => R.nilCheck rfl) ?_
    refine qT rfl rfl (fun wq hS => R.fieldAddr (off' := 35) rfl underlying61 rfl sizeOf58 rfl rfl) ?_
    refine qT rfl rfl (fun wq hS => R.loadA [] [(1, [(vi kd)]), (32, key.map vu8), (1, [(vi dm)]), (1, [(.slice a_124 qn c_125)])] [] rfl isAgg100 sizeOf100 (hS _ M4) rfl rfl rfl rfl) ?_
    refine qT rfl rfl (fun wq hS => R.loadA [] [(32, cd.map vu8)] [] (cs := cd.map vu8) rfl isAgg23 sizeOf23 (hS _ M1) rfl rfl rfl rfl) ?_
    refine qT rfl rfl (fun wq hS => R.buildS (pl := [(0, 35), (35, 32)]) (zs := [(1, [(vi 0)]), (32, (zB 32).map vu8), (1, [(vi 0)]), (1, [(.slice none 0 0)]), (32, (zB 32).map vu8)]) (vs := [(0, (.agg ⟨flat [(1, [(vi kd)]), (32, key.map vu8), (1, [(vi dm)]), (1, [(.slice a_124 qn c_125)])]⟩)), (1, (.agg ⟨cd.map vu8⟩))]) (out := [(1, [(vi kd)]), (32, key.map vu8), (1, [(vi dm)]), (1, [(.slice a_124 qn c_125)]), (32, cd.map vu8)]) underlying102 (zv typeInfo102 rfl) rfl (sC sV (sC (s8 lr) (sC sV (sC sV (sC (s8 lr) sN))))) (pl102 _ underlying102) rfl (FillR.cons [] [(1, [(vi 0)]), (32, (zB 32).map vu8), (1, [(vi 0)]), (1, [(.slice none 0 0)])] [(1, [(vi kd)]), (32, key.map vu8), (1, [(vi dm)]), (1, [(.slice a_124 qn c_125)])] [(32, (zB 32).map vu8)] rfl rfl rfl rfl (sC sV (sC (s8 hq.1) (sC sV (sC sV sN)))) rfl rfl rfl (FillR.cons [(1, [(vi kd)]), (32, key.map vu8), (1, [(vi dm)]), (1, [(.slice a_124 qn c_125)])] [(32, (zB 32).map vu8)] [(32, cd.map vu8)] [] rfl rfl rfl rfl (sC (s8 hcdl) sN) rfl rfl rfl FillR.nil)) rfl) ?_
    refine WT.s2 ?_ ?_
    ·refine oN rfl ?_
     refine qV rfl (R.load1 rfl isAgg58 (h_131.ok _ M5) (Sg.t rfl (Sg.t rfl (Sg.t rfl (Sg.t rfl Sg.h))))) ?_
     refine WL.nil ?_
     refine ⟨(N0_1_2_3_4_7_8_9 h_131.ok), ?_⟩
     refine WT.s (oN rfl ?_)
     refine WL.buildSl (vs := [(0, (.agg ⟨flat [(1, [(vi kd)]), (32, key.map vu8), (1, [(vi dm)]), (1, [(.slice a_124 qn c_125)]), (32, cd.map vu8)]⟩))]) (cs := aC (kd, key, dm, data) (.slice a_124 qn c_125) cd) h_131 underlying58 sizeOf102 (zv typeInfo102 rfl) rfl rfl (fill_1 (zc := flat [(1, [vi 0]), (32, List.replicate 32 (vu8 0)), (1, [vi 0]), (1, [.slice none 0 0]), (32, List.replicate 32 (vu8 0))]) (by kernel_rfl) (sC (s := (67, flat [(1, [vi 0]), (32, List.replicate 32 (vu8 0)), (1, [vi 0]), (1, [.slice none 0 0]), (32, List.replicate 32 (vu8 0))])) ⟨by decide, SsOk.one (sC sV (sC (SOk.rep rfl) (sC sV (sC sV (sC (SOk.rep rfl) sN)))))⟩ sN) (aC_ok (q := (kd, key, dm, data)) (s := (.slice a_124 qn c_125)) (d := cd) hq.1 hcdl rfl)) ((aC_ok (q := (kd, key, dm, data)) (s := (.slice a_124 qn c_125)) (d := cd) hq.1 hcdl rfl)).head.len ((aC_ok (q := (kd, key, dm, data)) (s := (.slice a_124 qn c_125)) (d := cd) hq.1 hcdl rfl)).head.one rfl rfl (fun b_134 w_135 h_136 => ?_)
     refine WL.nil ?_
     refine ⟨(N1_2_3_4_5_8_9_10 h_136.ok), ?_⟩
     refine WT.s (oN rfl ?_)
     refine WL.append (km := lg.length + 1) (xs := lx) (ys := aC (kd, key, dm, data) (.slice a_124 qn c_125) cd) (zs := lx ++ aC (kd, key, dm, data) (.slice a_124 qn c_125) cd) h_136 rfl rfl el58 (viewB (h_136.ok _ M0) Sg.h) ((aC_ok (q := (kd, key, dm, data)) (s := (.slice a_124 qn c_125)) (d := cd) hq.1 hcdl rfl)).head.len ((aC_ok (q := (kd, key, dm, data)) (s := (.slice a_124 qn c_125)) (d := cd) hq.1 hcdl rfl)).head.one rfl (by omega) (by omega) (by omega) (fun _ _ => Y7) rfl (fun a_137 c_138 w_139 h_140 => ?_)
     refine WL.nil ?_
     refine ⟨(N1_2_3_4_5_8_9_10 h_140.ok), ?_⟩
     refine qT rfl rfl (fun wq hS => R.nilCheck rfl) ?_
     refine qT rfl rfl (fun wq hS => R.fieldAddr (off' := 35) rfl underlying61 rfl sizeOf58 rfl rfl) ?_
     refine WT.s (oN rfl ?_)
     refine WL.store1 h_140 rfl rfl sizeOf58 rfl Y6 (by decide) (Sg.t rfl (Sg.t rfl (Sg.t rfl (Sg.t rfl Sg.h)))) (fun w_141 h_142 => ?_)
     refine WL.nil ?_
     refine ⟨(N1_2_3_4_5_8_9_10 h_142.ok), ?_⟩
     refine WT.nil (thn_n ?_)
     exact ⟨(b_134, a_137, c_138), (U4 rfl rfl rfl rfl (U4 rfl rfl rfl rfl (U4 rfl rfl rfl rfl (Ag.refl _ _)))), ⟨rfl, rfl, rfl, rfl, rfl, rfl, rfl, rfl, rfl, rfl, rfl, rfl, trivial⟩, h_142⟩
    ·refine oN rfl ?_
     refine WL.buildSl (vs := [(0, (.agg ⟨flat [(1, [(vi kd)]), (32, key.map vu8), (1, [(vi dm)]), (1, [(.slice a_124 qn c_125)]), (32, cd.map vu8)]⟩))]) (cs := aC (kd, key, dm, data) (.slice a_124 qn c_125) cd) h_131 underlying58 sizeOf102 (zv typeInfo102 rfl) rfl rfl (fill_1 (zc := flat [(1, [vi 0]), (32, List.replicate 32 (vu8 0)), (1, [vi 0]), (1, [.slice none 0 0]), (32, List.replicate 32 (vu8 0))]) (by kernel_rfl) (sC (s := (67, flat [(1, [vi 0]), (32, List.replicate 32 (vu8 0)), (1, [vi 0]), (1, [.slice none 0 0]), (32, List.replicate 32 (vu8 0))])) ⟨by decide, SsOk.one (sC sV (sC (SOk.rep rfl) (sC sV (sC sV (sC (SOk.rep rfl) sN)))))⟩ sN) (aC_ok (q := (kd, key, dm, data)) (s := (.slice a_124 qn c_125)) (d := cd) hq.1 hcdl rfl)) ((aC_ok (q := (kd, key, dm, data)) (s := (.slice a_124 qn c_125)) (d := cd) hq.1 hcdl rfl)).head.len ((aC_ok (q := (kd, key, dm, data)) (s := (.slice a_124 qn c_125)) (d := cd) hq.1 hcdl rfl)).head.one rfl rfl (fun b_143 w_144 h_145 => ?_)
     refine WL.nil ?_
     refine ⟨(N1_2_3_4_5_8_9_10 h_145.ok), ?_⟩
     refine WT.s (oN rfl ?_)
     refine qV rfl (R.load1 rfl isAgg58 (h_145.ok _ M6) (Sg.t rfl (Sg.t rfl (Sg.t rfl (Sg.t rfl Sg.h))))) ?_
     refine WL.nil ?_
     refine ⟨(N1_2_3_4_5_8_9_10 h_145.ok), ?_⟩
     refine WT.s (oN rfl ?_)
     refine WL.append (km := lg.length + 1) (xs := lx) (ys := aC (kd, key, dm, data) (.slice a_124 qn c_125) cd) (zs := lx ++ aC (kd, key, dm, data) (.slice a_124 qn c_125) cd) h_145 rfl rfl el58 (viewB (h_145.ok _ M0) Sg.h) ((aC_ok (q := (kd, key, dm, data)) (s := (.slice a_124 qn c_125)) (d := cd) hq.1 hcdl rfl)).head.len ((aC_ok (q := (kd, key, dm, data)) (s := (.slice a_124 qn c_125)) (d := cd) hq.1 hcdl rfl)).head.one rfl (by omega) (by omega) (by omega) (fun _ _ => Y7) rfl (fun a_146 c_147 w_148 h_149 => ?_)
     refine WL.nil ?_
     refine ⟨(N1_2_3_4_5_8_9_10 h_149.ok), ?_⟩
     refine qT rfl rfl (fun wq hS => R.nilCheck rfl) ?_
     refine qT rfl rfl (fun wq hS => R.fieldAddr (off' := 35) rfl underlying61 rfl sizeOf58 rfl rfl) ?_
     refine WT.s (oN rfl ?_)
     refine WL.store1 h_149 rfl rfl sizeOf58 rfl Y6 (by decide) (Sg.t rfl (Sg.t rfl (Sg.t rfl (Sg.t rfl Sg.h)))) (fun w_150 h_151 => ?_)
     refine WL.nil ?_
     refine ⟨(N1_2_3_4_5_8_9_10 h_151.ok), ?_⟩
     refine WT.nil (thn_n ?_)
     exact ⟨(b_143, a_146, c_147), (U4 rfl rfl rfl rfl (U4 rfl rfl rfl rfl (U4 rfl rfl rfl rfl (Ag.refl _ _)))), ⟨rfl, rfl, rfl, rfl, rfl, rfl, rfl, rfl, rfl, rfl, rfl, rfl, trivial⟩, h_151⟩
   ·rintro ⟨b_155, a_156, c_157⟩ J_152 w_153 h_154
    refine thn_n (WP.seq (WP.reg ?_))
    refine qV rfl (R.loadA [] [(32, cd.map vu8)] [] (cs := cd.map vu8) rfl isAgg23 sizeOf23 (h_154.ok _ M2) rfl rfl rfl rfl) ?_
    refine WL.storeA [] [(32, (zB 32).map vu8)] [(32, cd.map vu8)] [] h_154 rfl rfl sizeOf23 Y3 (by decide) rfl rfl rfl rfl rfl rfl (sC (s8 hcdl) sN) (fun w_158 h_159 => ?_)
    refine WL.nil (thn_n (WP.ret ?_))
    refine ret_of results79 (RV.cell rfl (h_159.loadA (cs := cd.map vu8) isAgg23 sizeOf23 M3 rfl rfl) RV.nil) ?_
    have h_174 := ((((((((((((((h_159.drop rfl).up J1).drop rfl).up J1).drop rfl).up J1).drop rfl).up J1).drop rfl).up J5).up J5).up J4).up J4).up J5).up J5
    have h_175 := HP_logPush (q := (kd, key, dm, data)) (d := cd) h_174 hq hcdl (lenApp (a := 0) (b := qn) (rfl : List.length ([] : List UInt8) = 0) hdl (by omega) : List.length (([] : List UInt8) ++ data) = qn)
    have h_185 := ((((((((h_175.up J1).drop rfl).up J1).drop rfl).up J4).up J4).up J2).up J4).up J4
    have hmf : mF id df dn u (kd, key, dm, data) = cd := by rw [mF, c_52]; exact (hcd c_52).symm
    have hu2 : (bif id then u + 1 else u) = u := by rw [c_52]; rfl
    have hse : lg.length + 1 = (lg ++ [((kd, key, dm, data), cd)]).length := snoc_len.symm
    have h_176 := h_185
    rw [hse] at h_176
    exact ⟨_, _, _, by rw [anD_miss hfd, hmf]; rfl, by rw [anU_miss hfd, anL_miss hfd, hmf, hu2]; exact h_176⟩

theorem c_rAns_r {w00 : World} {L : List Ent} (id : Bool) (ob : Nat) (ms df : List UInt8) (hms : ms.length = 32) (da : Option Addr) (dn dc u : Nat) (hdf : df.length = 32 * dn) (la : Option Addr) (lc : Nat) (lx : List Value) (lg : Lg) (hu : u ≤ 1000000) (hlg : lg.length ≤ 1000000) (kd dm : Int) (key data : List UInt8) (qa : Option Addr) (qn qc : Nat) (hq : okQ (kd, key, dm, data)) (hdl : data.length = qn) (cd : List UInt8) (hcdl : cd.length = 32) (hcd : id = false → cd = cF (kd, key, dm, data)) (w : World) (h_0 : HP w00 w (Ent.blk ob .nw 61 [(1, [(.bool id)]), (32, ms.map vu8), (1, [(.slice da dn dc)]), (1, [(vi ((u : Nat) : Int))]), (1, [(.slice la lg.length lc)])] :: Ent.row la lg.length lc 102 67 lx :: Ent.pin (sblks lx) (fun w => Lgs w lx lg) :: Ent.view da (df.map vu8) :: Ent.row qa qn qc 5 1 (data.map vu8) :: L)) :
  Cs Tryz.prog 79 [(.pointer (some ⟨ob, 0, none⟩)), (.agg ⟨flat [(1, [(vi kd)]), (32, key.map vu8), (1, [(vi dm)]), (1, [(.slice qa qn qc)])]⟩), (.agg ⟨cd.map vu8⟩)].toArray w (fun v w1 => ∃ la' lc' lx', v = (.agg ⟨(anD id df dn u lg (kd, key, dm, data)).map vu8⟩) ∧ HP w00 w1 (Ent.blk ob .nw 61 [(1, [(.bool id)]), (32, ms.map vu8), (1, [(.slice da dn dc)]), (1, [(vi (((anU id u lg (kd, key, dm, data)) : Nat) : Int))]), (1, [(.slice la' ((anL id df dn u lg (kd, key, dm, data)).length) lc')])] :: Ent.row la' ((anL id df dn u lg (kd, key, dm, data)).length) lc' 102 67 lx' :: Ent.pin (sblks lx') (fun w => Lgs w lx' (anL id df dn u lg (kd, key, dm, data))) :: Ent.view da (df.map vu8) :: Ent.row qa qn qc 5 1 (data.map vu8) :: L)) := by
 have hlgs : Lgs w lx lg := (h_0.ok _ M2).1
 have hlo := hlgs.ok
 have hqn : data.length ≤ 1000000000 := hq.2.2.2
 refine Cs.of (n := 71) (args := [(pO ob 0), (.agg ⟨flat [(1, [(vi kd)]), (32, key.map vu8), (1, [(vi dm)]), (1, [(.slice qa qn qc)])]⟩), (.agg ⟨cd.map vu8⟩)]) Tryz.func79 rfl rfl rfl ?_
 refine WP.seq (WP.reg ?_)
 refine WL.box (segs := [(1, [(vi kd)]), (32, key.map vu8), (1, [(vi dm)]), (1, [(.slice qa qn qc)])]) h_0 rfl rfl (sC sV (sC (s8 hq.1) (sC sV (sC sV sN)))) rfl (fun b_1 w_2 h_3 => ?_)
 refine WL.box (segs := [(32, cd.map vu8)]) h_3 rfl rfl (sC (s8 hcdl) sN) rfl (fun b_4 w_5 h_6 => ?_)
 refine WL.alloc (segs := [(32, (zB 32).map vu8)]) h_6 (zv typeInfo23 rfl) rfl (sC (s8 lr) sN) rfl (fun b_7 w_8 h_9 => ?_)
 refine WL.nil (thn_n (WP.seq (WP.seq (WP.reg ?_))))
 refine qA (vi 0) rfl rfl ?_
 refine WL.nil (thn_n (WP.block ?_))
 refine WP.loopG (G := Nat) [7, 9, 10, 11, 12, 13, 14, 15, 16, 17, 18, 19, 20, 21, 22, 23, 24, 25, 26, 27, 28, 29, 30, 31, 32, 33, 34, 35] (fun k => [(7, (vn k))]) (fun k m w1 => HP w00 w1 (Ent.blk b_7 .nw 23 [(32, (zB 32).map vu8)] :: Ent.blk b_4 .nw 23 [(32, cd.map vu8)] :: Ent.blk b_1 .nw 100 [(1, [(vi kd)]), (32, key.map vu8), (1, [(vi dm)]), (1, [(.slice qa qn qc)])] :: Ent.blk ob .nw 61 [(1, [(.bool id)]), (32, ms.map vu8), (1, [(.slice da dn dc)]), (1, [(vn u)]), (1, [(.slice la lg.length lc)])] :: Ent.row la lg.length lc 102 67 lx :: Ent.pin (sblks lx) (fun w => Lgs w lx lg) :: Ent.view da (df.map vu8) :: Ent.row qa qn qc 5 1 (data.map vu8) :: L) ∧ (k ≤ lg.length) ∧ (∀ j, j < k → (lg.getD j ((kd, key, dm, data), [])).1 ≠ (kd, key, dm, data)) ∧ m = lg.length + 1 - k) ⟨0, _, ⟨rfl, trivial⟩, h_9, Nat.zero_le _, (fun j hj => by omega), rfl⟩ ?_
 rintro k m_12 J_13 w_10 ⟨h_11, hk, hno, rfl⟩
 refine WP.seq (WP.seq (WP.reg ?_))
 refine qM (vn k) rfl rfl (qM (pO ob 0) rfl rfl (qV rfl (R.nilCheck rfl) (qV rfl (R.fieldAddr (off' := 35) rfl underlying61 rfl sizeOf58 rfl rfl) (qV rfl (R.load1 rfl isAgg58 (h_11.ok _ M3) (Sg.t rfl (Sg.t rfl (Sg.t rfl (Sg.t rfl Sg.h))))) (qV rfl (R.lenS (a := la) (m := lg.length) rfl rfl underlying58) (qV rfl (R.bin rfl rfl (bi_lss (r := decide ((((k : Nat) : Int) : Int) < ((lg.length : Nat) : Int))) rfl)) ?_))))))
 refine WL.nil (thn_n ?_)
 refine WP.cond (b := decide ((((k : Nat) : Int) : Int) < ((lg.length : Nat) : Int))) rfl (fun c_14 => ?_) (fun c_14 => ?_)
 ·have p_15 := of_decide_eq_true c_14
  refine WP.skip (thn_n (WP.seq (WP.block (WP.seq ?_))))
  have hkl : k < lg.length := by omega
  obtain ⟨ka, kn, kc, hkx, hkq, hkn, hkc, hkv, hkb⟩ := Lgs.qget (z := ((kd, key, dm, data), [])) (h_11.ok _ M5).1 hkl
  have h_16 := h_11.within (e' := .view ka ((lg.getD k ((kd, key, dm, data), [])).1.2.2.2.map vu8)) M5 rfl (View.arg hkv) rfl rfl (fun b hb_ => hkb _ (view_sblk hkn b hb_))
  refine WP.drawT (SL w00.heap.size [.view ka ((lg.getD k ((kd, key, dm, data), [])).1.2.2.2.map vu8), .blk b_7 .nw 23 [(32, (zB 32).map vu8)], .blk b_4 .nw 23 [(32, cd.map vu8)], .blk b_1 .nw 100 [(1, [(vi kd)]), (32, key.map vu8), (1, [(vi dm)]), (1, [(.slice qa qn qc)])], .blk ob .nw 61 [(1, [(.bool id)]), (32, ms.map vu8), (1, [(.slice da dn dc)]), (1, [(vn u)]), (1, [(.slice la lg.length lc)])], .row la lg.length lc 102 67 lx, .pin (sblks lx) (fun w => Lgs w lx lg), .view da (df.map vu8), .row qa qn qc 5 1 (data.map vu8)]) (.q 0 (.q 1 (.q 2 (.q 3 (.q 4 (.q 5 (.q 6 (.q 7 (.q 8 (.s 9 .nil)))))))))) (by kernel_rfl) (by kernel_rfl) rfl (by kernel_rfl) (fun w_17 hc_19 => (SL.cons ((h_16.same hc_19).ok _ M0) (SL.cons ((h_16.same hc_19).ok _ M1) (SL.cons ((h_16.same hc_19).ok _ M2) (SL.cons ((h_16.same hc_19).ok _ M3) (SL.cons ((h_16.same hc_19).ok _ M4) (SL.cons ((h_16.same hc_19).ok _ M5) (SL.cons ((h_16.same hc_19).ok _ M6) (SL.cons ((h_16.same hc_19).ok _ M7) (SL.cons ((h_16.same hc_19).ok _ M8) (SL.nil _ _))))))))))) (fun w_17 hc_19 => ?_)
  have h_18 := h_16.same hc_19
  refine qT rfl rfl (fun wq hS => R.move (v := (pO ob 0)) rfl) ?_
  refine qT rfl rfl (fun wq hS => R.nilCheck rfl) ?_
  refine qT rfl rfl (fun wq hS => R.fieldAddr (off' := 35) rfl underlying61 rfl sizeOf58 rfl rfl) ?_
  refine qT rfl rfl (fun wq hS => R.load1 rfl isAgg58 (hS _ M4) (Sg.t rfl (Sg.t rfl (Sg.t rfl (Sg.t rfl Sg.h))))) ?_
  refine qT rfl rfl (fun wq hS => R.move (v := (vn k)) rfl) ?_
  refine qT rfl rfl (fun wq hS => R.indexS (a := la) (i := k) (off := k * 67) (xs := lx) rfl rfl rfl (by omega) (ownView (hS _ M5)) (by rw [Lgs.len hlgs]; omega) underlying58 sizeOf102 rfl) ?_
  refine qT rfl rfl (fun wq hS => R.fieldG (a := la) (i := k * 67) (off' := k * 67) rfl underlying102 rfl sizeOf100 rfl rfl) ?_
  refine qT rfl rfl (fun wq hS => R.loadGA (a := la) (i := k * 67) (xs := lx) (cs := flat [(1, [(vi (((lg.getD k ((kd, key, dm, data), [])).1).1))]), (32, (((lg.getD k ((kd, key, dm, data), [])).1).2.1).map vu8), (1, [(vi (((lg.getD k ((kd, key, dm, data), [])).1).2.2.1))]), (1, [(.slice ka kn kc)])]) rfl (ownView (hS _ M5)) isAgg100 sizeOf100 hkx ((sC sV (sC (s8 hkq.1) (sC sV (sC sV sN))))).len (by decide)) ?_
  refine qT rfl rfl (fun wq hS => R.loadA [] [(1, [(vi kd)]), (32, key.map vu8), (1, [(vi dm)]), (1, [(.slice qa qn qc)])] [] rfl isAgg100 sizeOf100 (hS _ M3) rfl rfl rfl rfl) ?_
  refine WT.s (oN rfl ?_)
  refine WL.call Tryz.call53 rfl rfl (c_rSame ((lg.getD k ((kd, key, dm, data), [])).1) (kd, key, dm, data) hkq.1 hq.1 ka kn kc hkn qa qn qc hdl _ (viewV (h_18.ok _ M0)) (ownView (h_18.ok _ M8))) rfl ?_
  rintro _ w_21 ⟨rfl, hc_20⟩
  have h_22 := h_18.same hc_20
  refine WL.nil ?_
  refine ⟨(N0_1_2_3_4_5_6_7_8 h_22.ok), ?_⟩
  refine WT.nil (thn_n ?_)
  refine WP.cond (b := decide ((lg.getD k ((kd, key, dm, data), [])).1 = (kd, key, dm, data))) rfl (fun c_23 => ?_) (fun c_23 => ?_)
  ·have p_24 := of_decide_eq_true c_23
   refine WP.seq ?_
   have hfd : fdq (kd, key, dm, data) lg 0 = some k := (fdq_at (s := 0) hkl hno p_24).trans (by rw [Nat.zero_add])
   refine WP.reg ?_
   refine qM (pO ob 0) rfl rfl (qV rfl (R.nilCheck rfl) (qV rfl (R.fieldAddr (off' := 35) rfl underlying61 rfl sizeOf58 rfl rfl) (qV rfl (R.load1 rfl isAgg58 (h_22.ok _ M4) (Sg.t rfl (Sg.t rfl (Sg.t rfl (Sg.t rfl Sg.h))))) (qM (vn k) rfl rfl (qV rfl (R.indexS (a := la) (i := k) (off := k * 67) (xs := lx) rfl rfl rfl (by omega) (ownView (h_22.ok _ M5)) (by rw [Lgs.len hlgs]; omega) underlying58 sizeOf102 rfl) (qV rfl (R.fieldG (a := la) (i := k * 67) (off' := k * 67 + 35) rfl underlying102 rfl sizeOf23 rfl rfl) (qV rfl (R.loadGA (a := la) (i := k * 67 + 35) (xs := lx) (cs := ((lg.getD k ((kd, key, dm, data), [])).2).map vu8) rfl (ownView (h_22.ok _ M5)) isAgg23 sizeOf23 (Lgs.ans (z := ((kd, key, dm, data), [])) hlgs (i := k) hkl).1 (len_map (Lgs.ans (z := ((kd, key, dm, data), [])) hlgs (i := k) hkl).2) (by decide)) ?_)))))))
   refine WL.storeA [] [(32, (zB 32).map vu8)] [(32, ((lg.getD k ((kd, key, dm, data), [])).2).map vu8)] [] h_22 rfl rfl sizeOf23 Y1 (by decide) rfl rfl rfl rfl rfl rfl (sC (s8 ((Lgs.ans (z := ((kd, key, dm, data), [])) hlgs (i := k) hkl).2)) sN) (fun w_25 h_26 => ?_)
   refine WL.nil (thn_n (WP.ret (inb_r (thn_r (thn_r (inb_r (thn_r ?_)))))))
   refine ret_of results79 (RV.cell rfl (h_26.loadA (cs := ((lg.getD k ((kd, key, dm, data), [])).2).map vu8) isAgg23 sizeOf23 M1 rfl rfl) RV.nil) ?_
   have h_35 := ((((((((h_26.drop rfl).drop rfl).drop rfl).drop rfl).up J4).up J4).up J4).up J4).up J4
   exact ⟨la, lc, lx, by rw [anD_hit hfd]; rfl, by rw [anU_hit hfd, anL_hit hfd]; exact h_35⟩
  ·have p_36 := of_decide_eq_false c_23
   refine WP.skip (inb_n (thn_n (WP.reg ?_)))
   refine qM (vn k) rfl rfl (qV rfl (R.bin rfl rfl (bi_add (c := ((k + 1 : Nat) : Int)) (by omega) (by omega))) (qA (vn (k + 1)) rfl rfl ?_))
   refine WL.nil (thn_n ?_)
   have h_45 := ((((((((h_22.drop rfl).up J7).up J7).up J7).up J7).up J7).up J7).up J7).up J7
   exact ⟨k + 1, _, (by omega), (U4 rfl rfl rfl rfl (U4 rfl rfl rfl rfl (U4 rfl rfl rfl rfl (U4 rfl rfl rfl rfl (U4 rfl rfl rfl rfl (Ag.updL rfl (Ag.mix _ _ _))))))), ⟨rfl, trivial⟩, h_45, (by omega), (fun j hj => (Nat.lt_or_eq_of_le (Nat.le_of_lt_succ hj)).elim (fun e => hno j e) (fun e => by rw [e]; exact p_36)), rfl⟩
 ·have p_46 := of_decide_eq_false c_14
  refine WP.exit (thn_x (thn_x (inb_hit (thn_n (WP.seq ?_)))))
  have hfd : fdq (kd, key, dm, data) lg 0 = none := fdq_no (z := ((kd, key, dm, data), [])) (fun j hj => hno j (by omega))
  refine WP.reg ?_
  refine qV rfl (R.loadA [] [(32, cd.map vu8)] [] (cs := cd.map vu8) rfl isAgg23 sizeOf23 (h_11.ok _ M1) rfl rfl rfl rfl) ?_
  refine WL.alloc (segs := [(32, (zB 32).map vu8)]) h_11 (zv typeInfo23 rfl) rfl (sC (s8 lr) sN) rfl (fun b_47 w_48 h_49 => ?_)
  refine WL.storeA [] [(32, (zB 32).map vu8)] [(32, cd.map vu8)] [] h_49 rfl rfl sizeOf23 At.h (by decide) rfl rfl rfl rfl rfl rfl (sC (s8 hcdl) sN) (fun w_50 h_51 => ?_)
  refine WL.nil (thn_n (WP.seq (WP.seq (WP.reg ?_))))
  refine qM (pO ob 0) rfl rfl (qV rfl (R.nilCheck rfl) (qV rfl (R.fieldAddr (off' := 0) rfl underlying61 rfl sizeOf4 rfl rfl) (qV rfl (R.load1 rfl isAgg4 (h_51.ok _ M4) Sg.h) ?_)))
  refine WL.nil (thn_n ?_)
  refine WP.cond (b := id) rfl (fun c_52 => ?_) (fun c_52 => ?_)
  ·refine WP.seq (WP.reg ?_)
   refine qM (pO ob 0) rfl rfl (qM (pO ob 0) rfl rfl (qV rfl (R.nilCheck rfl) (qV rfl (R.fieldAddr (off' := 34) rfl underlying61 rfl sizeOf3 rfl rfl) (qV rfl (R.load1 rfl isAgg3 (h_51.ok _ M4) (Sg.t rfl (Sg.t rfl (Sg.t rfl Sg.h)))) ?_))))
   refine WL.call Tryz.call91 rfl rfl (c_rDraw id ob ms df hms da dn dc u u hdf la lg.length lc (by omega) _ (viewV (h_51.ok _ M7)) (h_51.argR M4)) rfl ?_
   rintro _ w_54 ⟨rfl, hc_53⟩
   have h_55 := h_51.same hc_53
   refine WL.storeA [] [(32, cd.map vu8)] [(32, (drawF df dn u).map vu8)] [] h_55 rfl rfl sizeOf23 At.h (by decide) rfl rfl rfl rfl rfl rfl (sC (s8 (drawF_len hdf)) sN) (fun w_56 h_57 => ?_)
   refine WL.nil (thn_n (WP.reg ?_))
   refine qM (pO ob 0) rfl rfl (qV rfl (R.nilCheck rfl) (qV rfl (R.fieldAddr (off' := 34) rfl underlying61 rfl sizeOf3 rfl rfl) (qV rfl (R.load1 rfl isAgg3 (h_57.ok _ M4) (Sg.t rfl (Sg.t rfl (Sg.t rfl Sg.h)))) (qV rfl (R.bin rfl rfl (bi_add (c := ((u + 1 : Nat) : Int)) (by omega) (by omega))) (qV rfl (R.nilCheck rfl) (qV rfl (R.fieldAddr (off' := 34) rfl underlying61 rfl sizeOf3 rfl rfl) ?_))))))
   refine WL.store1 h_57 rfl rfl sizeOf3 rfl Y4 (by decide) (Sg.t rfl (Sg.t rfl (Sg.t rfl Sg.h))) (fun w_58 h_59 => ?_)
   refine WL.nil (thn_n (WP.seq (WP.reg ?_)))
   refine qV rfl (R.fieldAddr (off' := 34) rfl underlying100 rfl sizeOf81 rfl rfl) (qV rfl (R.load1 rfl isAgg81 (h_59.ok _ M3) (Sg.t rfl (Sg.t rfl (Sg.t rfl Sg.h)))) ?_)
   have h_60 := h_59.rowNil 5 1
   refine WL.append (km := qn) (xs := []) (ys := data.map vu8) (zs := (([] : List UInt8) ++ data).map vu8) h_60 rfl rfl el81 (ownView (h_60.ok _ M9)) ((len_map hdl).trans (Nat.mul_one _).symm) (one_u8 _) (by simp only [List.map_append, List.map_nil]) (by omega) (by omega) (by omega) (fun _ _ => At.h) rfl (fun a_61 c_62 w_63 h_64 => ?_)
   refine qV rfl (R.fieldAddr (off' := 34) rfl underlying100 rfl sizeOf81 rfl rfl) ?_
   refine WL.store1 h_64 rfl rfl sizeOf81 rfl Y4 (by decide) (Sg.t rfl (Sg.t rfl (Sg.t rfl Sg.h))) (fun w_65 h_66 => ?_)
   refine WL.nil (thn_n (WP.seq ?_))
   refine WP.cutG (G := Nat × Option Addr × Nat) [58, 59, 60, 61, 62, 63, 64, 65, 66, 67, 68, 69] (fun (bY11Y8Y0Y0, aY11Y9Y0Y0, cY11Y9Y0Y0) => [(58, (pO ob 0)), (59, (pO ob 0)), (60, (pO ob 0)), (61, (pO ob 35)), (63, (.agg ⟨flat [(1, [(vi kd)]), (32, key.map vu8), (1, [(vi dm)]), (1, [(.slice a_61 qn c_62)])]⟩)), (64, (.agg ⟨(drawF df dn u).map vu8⟩)), (65, (.agg ⟨flat [(1, [(vi kd)]), (32, key.map vu8), (1, [(vi dm)]), (1, [(.slice a_61 qn c_62)]), (32, (drawF df dn u).map vu8)]⟩)), (62, (.slice la lg.length lc)), (66, (.slice (some ⟨bY11Y8Y0Y0, 0, none⟩) 1 1)), (67, (.slice aY11Y9Y0Y0 (lg.length + 1) cY11Y9Y0Y0)), (68, (pO ob 0)), (69, (pO ob 35))]) (fun (bY11Y8Y0Y0, aY11Y9Y0Y0, cY11Y9Y0Y0) w1 => HP w00 w1 (Ent.blk bY11Y8Y0Y0 .nw 102 [(67, aC (kd, key, dm, data) (.slice a_61 qn c_62) (drawF df dn u))] :: Ent.row a_61 qn c_62 5 1 ((([] : List UInt8) ++ data).map vu8) :: Ent.blk b_47 .nw 23 [(32, (drawF df dn u).map vu8)] :: Ent.blk b_7 .nw 23 [(32, (zB 32).map vu8)] :: Ent.blk b_4 .nw 23 [(32, cd.map vu8)] :: Ent.blk b_1 .nw 100 [(1, [(vi kd)]), (32, key.map vu8), (1, [(vi dm)]), (1, [(.slice a_61 qn c_62)])] :: Ent.blk ob .nw 61 [(1, [(.bool id)]), (32, ms.map vu8), (1, [(.slice da dn dc)]), (1, [(vn (u + 1))]), (1, [(.slice aY11Y9Y0Y0 (lg.length + 1) cY11Y9Y0Y0)])] :: Ent.row aY11Y9Y0Y0 (lg.length + 1) cY11Y9Y0Y0 102 67 (lx ++ aC (kd, key, dm, data) (.slice a_61 qn c_62) (drawF df dn u)) :: Ent.pin (sblks lx) (fun w => Lgs w lx lg) :: Ent.view da (df.map vu8) :: Ent.row qa qn qc 5 1 (data.map vu8) :: L)) ?_ ?_
   ·refine WP.drawT (SL w00.heap.size [.row a_61 qn c_62 5 1 ((([] : List UInt8) ++ data).map vu8), .blk b_47 .nw 23 [(32, (drawF df dn u).map vu8)], .blk b_7 .nw 23 [(32, (zB 32).map vu8)], .blk b_4 .nw 23 [(32, cd.map vu8)], .blk b_1 .nw 100 [(1, [(vi kd)]), (32, key.map vu8), (1, [(vi dm)]), (1, [(.slice a_61 qn c_62)])], .pin (sblks lx) (fun w => Lgs w lx lg), .view da (df.map vu8), .row qa qn qc 5 1 (data.map vu8)]) (.q 0 (.q 1 (.q 2 (.q 3 (.q 5 (.q 6 (.q 7 (.s2 4 8 (.s 8 (.s 9 (.q 10 (.q 11 (.s 12 .nil))))) (.s 4 (.s 9 (.q 10 (.q 11 (.s 12 .nil))))))))))))) (by kernel_rfl) (by kernel_rfl) rfl (by kernel_rfl) (fun w_67 hc_69 => (SL.cons ((h_66.same hc_69).ok _ M0) (SL.cons ((h_66.same hc_69).ok _ M1) (SL.cons ((h_66.same hc_69).ok _ M2) (SL.cons ((h_66.same hc_69).ok _ M3) (SL.cons ((h_66.same hc_69).ok _ M4) (SL.cons ((h_66.same hc_69).ok _ M7) (SL.cons ((h_66.same hc_69).ok _ M8) (SL.cons ((h_66.same hc_69).ok _ M9) (SL.nil _ _)))))))))) (fun w_67 hc_69 => ?_)
    have h_68 := h_66.same hc_69
    refine qT rfl rfl (fun wq hS => R.move (v := (pO ob 0)) rfl) ?_
    refine qT rfl rfl (fun wq hS => R.move (v := (pO ob 0)) rfl) ?_
    refine qT rfl rfl (fun wq hS => R.nilCheck rfl) ?_
    refine qT rfl rfl (fun wq hS => R.fieldAddr (off' := 35) rfl underlying61 rfl sizeOf58 rfl rfl) ?_
    refine qT rfl rfl (fun wq hS => R.loadA [] [(1, [(vi kd)]), (32, key.map vu8), (1, [(vi dm)]), (1, [(.slice a_61 qn c_62)])] [] rfl isAgg100 sizeOf100 (hS _ M4) rfl rfl rfl rfl) ?_
    refine qT rfl rfl (fun wq hS => R.loadA [] [(32, (drawF df dn u).map vu8)] [] (cs := (drawF df dn u).map vu8) rfl isAgg23 sizeOf23 (hS _ M1) rfl rfl rfl rfl) ?_
    refine qT rfl rfl (fun wq hS => R.buildS (pl := [(0, 35), (35, 32)]) (zs := [(1, [(vi 0)]), (32, (zB 32).map vu8), (1, [(vi 0)]), (1, [(.slice none 0 0)]), (32, (zB 32).map vu8)]) (vs := [(0, (.agg ⟨flat [(1, [(vi kd)]), (32, key.map vu8), (1, [(vi dm)]), (1, [(.slice a_61 qn c_62)])]⟩)), (1, (.agg ⟨(drawF df dn u).map vu8⟩))]) (out := [(1, [(vi kd)]), (32, key.map vu8), (1, [(vi dm)]), (1, [(.slice a_61 qn c_62)]), (32, (drawF df dn u).map vu8)]) underlying102 (zv typeInfo102 rfl) rfl (sC sV (sC (s8 lr) (sC sV (sC sV (sC (s8 lr) sN))))) (pl102 _ underlying102) rfl (FillR.cons [] [(1, [(vi 0)]), (32, (zB 32).map vu8), (1, [(vi 0)]), (1, [(.slice none 0 0)])] [(1, [(vi kd)]), (32, key.map vu8), (1, [(vi dm)]), (1, [(.slice a_61 qn c_62)])] [(32, (zB 32).map vu8)] rfl rfl rfl rfl (sC sV (sC (s8 hq.1) (sC sV (sC sV sN)))) rfl rfl rfl (FillR.cons [(1, [(vi kd)]), (32, key.map vu8), (1, [(vi dm)]), (1, [(.slice a_61 qn c_62)])] [(32, (zB 32).map vu8)] [(32, (drawF df dn u).map vu8)] [] rfl rfl rfl rfl (sC (s8 (drawF_len hdf)) sN) rfl rfl rfl FillR.nil)) rfl) ?_
    refine WT.s2 ?_ ?_
    ·refine oN rfl ?_
     refine qV rfl (R.load1 rfl isAgg58 (h_68.ok _ M5) (Sg.t rfl (Sg.t rfl (Sg.t rfl (Sg.t rfl Sg.h))))) ?_
     refine WL.nil ?_
     refine ⟨(N0_1_2_3_4_7_8_9 h_68.ok), ?_⟩
     refine WT.s (oN rfl ?_)
     refine WL.buildSl (vs := [(0, (.agg ⟨flat [(1, [(vi kd)]), (32, key.map vu8), (1, [(vi dm)]), (1, [(.slice a_61 qn c_62)]), (32, (drawF df dn u).map vu8)]⟩))]) (cs := aC (kd, key, dm, data) (.slice a_61 qn c_62) (drawF df dn u)) h_68 underlying58 sizeOf102 (zv typeInfo102 rfl) rfl rfl (fill_1 (zc := flat [(1, [vi 0]), (32, List.replicate 32 (vu8 0)), (1, [vi 0]), (1, [.slice none 0 0]), (32, List.replicate 32 (vu8 0))]) (by kernel_rfl) (sC (s := (67, flat [(1, [vi 0]), (32, List.replicate 32 (vu8 0)), (1, [vi 0]), (1, [.slice none 0 0]), (32, List.replicate 32 (vu8 0))])) ⟨by decide, SsOk.one (sC sV (sC (SOk.rep rfl) (sC sV (sC sV (sC (SOk.rep rfl) sN)))))⟩ sN) (aC_ok (q := (kd, key, dm, data)) (s := (.slice a_61 qn c_62)) (d := drawF df dn u) hq.1 (drawF_len hdf) rfl)) ((aC_ok (q := (kd, key, dm, data)) (s := (.slice a_61 qn c_62)) (d := drawF df dn u) hq.1 (drawF_len hdf) rfl)).head.len ((aC_ok (q := (kd, key, dm, data)) (s := (.slice a_61 qn c_62)) (d := drawF df dn u) hq.1 (drawF_len hdf) rfl)).head.one rfl rfl (fun b_71 w_72 h_73 => ?_)
     refine WL.nil ?_
     refine ⟨(N1_2_3_4_5_8_9_10 h_73.ok), ?_⟩
     refine WT.s (oN rfl ?_)
     refine WL.append (km := lg.length + 1) (xs := lx) (ys := aC (kd, key, dm, data) (.slice a_61 qn c_62) (drawF df dn u)) (zs := lx ++ aC (kd, key, dm, data) (.slice a_61 qn c_62) (drawF df dn u)) h_73 rfl rfl el58 (viewB (h_73.ok _ M0) Sg.h) ((aC_ok (q := (kd, key, dm, data)) (s := (.slice a_61 qn c_62)) (d := drawF df dn u) hq.1 (drawF_len hdf) rfl)).head.len ((aC_ok (q := (kd, key, dm, data)) (s := (.slice a_61 qn c_62)) (d := drawF df dn u) hq.1 (drawF_len hdf) rfl)).head.one rfl (by omega) (by omega) (by omega) (fun _ _ => Y7) rfl (fun a_74 c_75 w_76 h_77 => ?_)
     refine WL.nil ?_
     refine ⟨(N1_2_3_4_5_8_9_10 h_77.ok), ?_⟩
     refine qT rfl rfl (fun wq hS => R.nilCheck rfl) ?_
     refine qT rfl rfl (fun wq hS => R.fieldAddr (off' := 35) rfl underlying61 rfl sizeOf58 rfl rfl) ?_
     refine WT.s (oN rfl ?_)
     refine WL.store1 h_77 rfl rfl sizeOf58 rfl Y6 (by decide) (Sg.t rfl (Sg.t rfl (Sg.t rfl (Sg.t rfl Sg.h)))) (fun w_78 h_79 => ?_)
     refine WL.nil ?_
     refine ⟨(N1_2_3_4_5_8_9_10 h_79.ok), ?_⟩
     refine WT.nil (thn_n ?_)
     exact ⟨(b_71, a_74, c_75), (U4 rfl rfl rfl rfl (U4 rfl rfl rfl rfl (U4 rfl rfl rfl rfl (Ag.refl _ _)))), ⟨rfl, rfl, rfl, rfl, rfl, rfl, rfl, rfl, rfl, rfl, rfl, rfl, trivial⟩, h_79⟩
    ·refine oN rfl ?_
     refine WL.buildSl (vs := [(0, (.agg ⟨flat [(1, [(vi kd)]), (32, key.map vu8), (1, [(vi dm)]), (1, [(.slice a_61 qn c_62)]), (32, (drawF df dn u).map vu8)]⟩))]) (cs := aC (kd, key, dm, data) (.slice a_61 qn c_62) (drawF df dn u)) h_68 underlying58 sizeOf102 (zv typeInfo102 rfl) rfl rfl (fill_1 (zc := flat [(1, [vi 0]), (32, List.replicate 32 (vu8 0)), (1, [vi 0]), (1, [.slice none 0 0]), (32, List.replicate 32 (vu8 0))]) (by kernel_rfl) (sC (s := (67, flat [(1, [vi 0]), (32, List.replicate 32 (vu8 0)), (1, [vi 0]), (1, [.slice none 0 0]), (32, List.replicate 32 (vu8 0))])) ⟨by decide, SsOk.one (sC sV (sC (SOk.rep rfl) (sC sV (sC sV (sC (SOk.rep rfl) sN)))))⟩ sN) (aC_ok (q := (kd, key, dm, data)) (s := (.slice a_61 qn c_62)) (d := drawF df dn u) hq.1 (drawF_len hdf) rfl)) ((aC_ok (q := (kd, key, dm, data)) (s := (.slice a_61 qn c_62)) (d := drawF df dn u) hq.1 (drawF_len hdf) rfl)).head.len ((aC_ok (q := (kd, key, dm, data)) (s := (.slice a_61 qn c_62)) (d := drawF df dn u) hq.1 (drawF_len hdf) rfl)).head.one rfl rfl (fun b_80 w_81 h_82 => ?_)
     refine WL.nil ?_
     refine ⟨(N1_2_3_4_5_8_9_10 h_82.ok), ?_⟩
     refine WT.s (oN rfl ?_)
     refine qV rfl (R.load1 rfl isAgg58 (h_82.ok _ M6) (Sg.t rfl (Sg.t rfl (Sg.t rfl (Sg.t rfl Sg.h))))) ?_
     refine WL.nil ?_
     refine ⟨(N1_2_3_4_5_8_9_10 h_82.ok), ?_⟩
     refine WT.s (oN rfl ?_)
     refine WL.append (km := lg.length + 1) (xs := lx) (ys := aC (kd, key, dm, data) (.slice a_61 qn c_62) (drawF df dn u)) (zs := lx ++ aC (kd, key, dm, data) (.slice a_61 qn c_62) (drawF df dn u)) h_82 rfl rfl el58 (viewB (h_82.ok _ M0) Sg.h) ((aC_ok (q := (kd, key, dm, data)) (s := (.slice a_61 qn c_62)) (d := drawF df dn u) hq.1 (drawF_len hdf) rfl)).head.len ((aC_ok (q := (kd, key, dm, data)) (s := (.slice a_61 qn c_62)) (d := drawF df dn u) hq.1 (drawF_len hdf) rfl)).head.one rfl (by omega) (by omega) (by omega) (fun _ _ => Y7) rfl (fun a_83 c_84 w_85 h_86 => ?_)
     refine WL.nil ?_
     refine ⟨(N1_2_3_4_5_8_9_10 h_86.ok), ?_⟩
     refine qT rfl rfl (fun wq hS => R.nilCheck rfl) ?_
     refine qT rfl rfl (fun wq hS => R.fieldAddr (off' := 35) rfl underlying61 rfl sizeOf58 rfl rfl) ?_
     refine WT.s (oN rfl ?_)
     refine WL.store1 h_86 rfl rfl sizeOf58 rfl Y6 (by decide) (Sg.t rfl (Sg.t rfl (Sg.t rfl (Sg.t rfl Sg.h)))) (fun w_87 h_88 => ?_)
     refine WL.nil ?_
     refine ⟨(N1_2_3_4_5_8_9_10 h_88.ok), ?_⟩
     refine WT.nil (thn_n ?_)
     exact ⟨(b_80, a_83, c_84), (U4 rfl rfl rfl rfl (U4 rfl rfl rfl rfl (U4 rfl rfl rfl rfl (Ag.refl _ _)))), ⟨rfl, rfl, rfl, rfl, rfl, rfl, rfl, rfl, rfl, rfl, rfl, rfl, trivial⟩, h_88⟩
   ·rintro ⟨b_92, a_93, c_94⟩ J_89 w_90 h_91
    refine thn_n (WP.seq (WP.reg ?_))
    refine qV rfl (R.loadA [] [(32, (drawF df dn u).map vu8)] [] (cs := (drawF df dn u).map vu8) rfl isAgg23 sizeOf23 (h_91.ok _ M2) rfl rfl rfl rfl) ?_
    refine WL.storeA [] [(32, (zB 32).map vu8)] [(32, (drawF df dn u).map vu8)] [] h_91 rfl rfl sizeOf23 Y3 (by decide) rfl rfl rfl rfl rfl rfl (sC (s8 (drawF_len hdf)) sN) (fun w_95 h_96 => ?_)
    refine WL.nil (thn_n (WP.ret ?_))
    refine ret_of results79 (RV.cell rfl (h_96.loadA (cs := (drawF df dn u).map vu8) isAgg23 sizeOf23 M3 rfl rfl) RV.nil) ?_
    have h_111 := ((((((((((((((h_96.drop rfl).up J1).drop rfl).up J1).drop rfl).up J1).drop rfl).up J1).drop rfl).up J5).up J5).up J4).up J4).up J5).up J5
    have h_112 := HP_logPush (q := (kd, key, dm, data)) (d := drawF df dn u) h_111 hq (drawF_len hdf) (lenApp (a := 0) (b := qn) (rfl : List.length ([] : List UInt8) = 0) hdl (by omega) : List.length (([] : List UInt8) ++ data) = qn)
    have h_122 := ((((((((h_112.up J1).drop rfl).up J1).drop rfl).up J4).up J4).up J2).up J4).up J4
    have hmf : mF id df dn u (kd, key, dm, data) = drawF df dn u := by rw [mF, c_52]; rfl
    have hu2 : (bif id then u + 1 else u) = u + 1 := by rw [c_52]; rfl
    have hse : lg.length + 1 = (lg ++ [((kd, key, dm, data), drawF df dn u)]).length := snoc_len.symm
    have h_113 := h_122
    rw [hse] at h_113
    exact ⟨_, _, _, by rw [anD_miss hfd, hmf]; rfl, by rw [anU_miss hfd, anL_miss hfd, hmf, hu2]; exact h_113⟩
  ·refine WP.skip (thn_n (WP.seq (WP.reg ?_)))
   refine qV rfl (R.fieldAddr (off' := 34) rfl underlying100 rfl sizeOf81 rfl rfl) (qV rfl (R.load1 rfl isAgg81 (h_51.ok _ M3) (Sg.t rfl (Sg.t rfl (Sg.t rfl Sg.h)))) ?_)
   have h_123 := h_51.rowNil 5 1
   refine WL.append (km := qn) (xs := []) (ys := data.map vu8) (zs := (([] : List UInt8) ++ data).map vu8) h_123 rfl rfl el81 (ownView (h_123.ok _ M9)) ((len_map hdl).trans (Nat.mul_one _).symm) (one_u8 _) (by simp only [List.map_append, List.map_nil]) (by omega) (by omega) (by omega) (fun _ _ => At.h) rfl (fun a_124 c_125 w_126 h_127 => ?_)
   refine qV rfl (R.fieldAddr (off' := 34) rfl underlying100 rfl sizeOf81 rfl rfl) ?_
   refine WL.store1 h_127 rfl rfl sizeOf81 rfl Y4 (by decide) (Sg.t rfl (Sg.t rfl (Sg.t rfl Sg.h))) (fun w_128 h_129 => ?_)
   refine WL.nil (thn_n (WP.seq ?_))
   refine WP.cutG (G := Nat × Option Addr × Nat) [58, 59, 60, 61, 62, 63, 64, 65, 66, 67, 68, 69] (fun (bY11Y8Y0Y0, aY11Y9Y0Y0, cY11Y9Y0Y0) => [(58, (pO ob 0)), (59, (pO ob 0)), (60, (pO ob 0)), (61, (pO ob 35)), (63, (.agg ⟨flat [(1, [(vi kd)]), (32, key.map vu8), (1, [(vi dm)]), (1, [(.slice a_124 qn c_125)])]⟩)), (64, (.agg ⟨cd.map vu8⟩)), (65, (.agg ⟨flat [(1, [(vi kd)]), (32, key.map vu8), (1, [(vi dm)]), (1, [(.slice a_124 qn c_125)]), (32, cd.map vu8)]⟩)), (62, (.slice la lg.length lc)), (66, (.slice (some ⟨bY11Y8Y0Y0, 0, none⟩) 1 1)), (67, (.slice aY11Y9Y0Y0 (lg.length + 1) cY11Y9Y0Y0)), (68, (pO ob 0)), (69, (pO ob 35))]) (fun (bY11Y8Y0Y0, aY11Y9Y0Y0, cY11Y9Y0Y0) w1 => HP w00 w1 (Ent.blk bY11Y8Y0Y0 .nw 102 [(67, aC (kd, key, dm, data) (.slice a_124 qn c_125) cd)] :: Ent.row a_124 qn c_125 5 1 ((([] : List UInt8) ++ data).map vu8) :: Ent.blk b_47 .nw 23 [(32, cd.map vu8)] :: Ent.blk b_7 .nw 23 [(32, (zB 32).map vu8)] :: Ent.blk b_4 .nw 23 [(32, cd.map vu8)] :: Ent.blk b_1 .nw 100 [(1, [(vi kd)]), (32, key.map vu8), (1, [(vi dm)]), (1, [(.slice a_124 qn c_125)])] :: Ent.blk ob .nw 61 [(1, [(.bool id)]), (32, ms.map vu8), (1, [(.slice da dn dc)]), (1, [(vn u)]), (1, [(.slice aY11Y9Y0Y0 (lg.length + 1) cY11Y9Y0Y0)])] :: Ent.row aY11Y9Y0Y0 (lg.length + 1) cY11Y9Y0Y0 102 67 (lx ++ aC (kd, key, dm, data) (.slice a_124 qn c_125) cd) :: Ent.pin (sblks lx) (fun w => Lgs w lx lg) :: Ent.view da (df.map vu8) :: Ent.row qa qn qc 5 1 (data.map vu8) :: L)) ?_ ?_
   ·refine WP.drawT (SL w00.heap.size [.row a_124 qn c_125 5 1 ((([] : List UInt8) ++ data).map vu8), .blk b_47 .nw 23 [(32, cd.map vu8)], .blk b_7 .nw 23 [(32, (zB 32).map vu8)], .blk b_4 .nw 23 [(32, cd.map vu8)], .blk b_1 .nw 100 [(1, [(vi kd)]), (32, key.map vu8), (1, [(vi dm)]), (1, [(.slice a_124 qn c_125)])], .pin (sblks lx) (fun w => Lgs w lx lg), .view da (df.map vu8), .row qa qn qc 5 1 (data.map vu8)]) (.q 0 (.q 1 (.q 2 (.q 3 (.q 5 (.q 6 (.q 7 (.s2 4 8 (.s 8 (.s 9 (.q 10 (.q 11 (.s 12 .nil))))) (.s 4 (.s 9 (.q 10 (.q 11 (.s 12 .nil))))))))))))) (by kernel_rfl) (by kernel_rfl) rfl (by kernel_rfl) (fun w_130 hc_132 => (SL.cons ((h_129.same hc_132).ok _ M0) (SL.cons ((h_129.same hc_132).ok _ M1) (SL.cons ((h_129.same hc_132).ok _ M2) (SL.cons ((h_129.same hc_132).ok _ M3) (SL.cons ((h_129.same hc_132).ok _ M4) (SL.cons ((h_129.same hc_132).ok _ M7) (SL.cons ((h_129.same hc_132).ok _ M8) (SL.cons ((h_129.same hc_132).ok _ M9) (SL.nil _ _)))))))))) (fun w_130 hc_132 => ?_)
    have h_131 := h_129.same hc_132
    refine qT rfl rfl (fun wq hS => R.move (v := (pO ob 0)) rfl) ?_
    refine qT rfl rfl (fun wq hS => R.move (v := (pO ob 0)) rfl) ?_
    refine qT rfl rfl (fun wq hS => R.nilCheck rfl) ?_
    refine qT rfl rfl (fun wq hS => R.fieldAddr (off' := 35) rfl underlying61 rfl sizeOf58 rfl rfl) ?_
    refine qT rfl rfl (fun wq hS => R.loadA [] [(1, [(vi kd)]), (32, key.map vu8), (1, [(vi dm)]), (1, [(.slice a_124 qn c_125)])] [] rfl isAgg100 sizeOf100 (hS _ M4) rfl rfl rfl rfl) ?_
    refine qT rfl rfl (fun wq hS => R.loadA [] [(32, cd.map vu8)] [] (cs := cd.map vu8) rfl isAgg23 sizeOf23 (hS _ M1) rfl rfl rfl rfl) ?_
    refine qT rfl rfl (fun wq hS => R.buildS (pl := [(0, 35), (35, 32)]) (zs := [(1, [(vi 0)]), (32, (zB 32).map vu8), (1, [(vi 0)]), (1, [(.slice none 0 0)]), (32, (zB 32).map vu8)]) (vs := [(0, (.agg ⟨flat [(1, [(vi kd)]), (32, key.map vu8), (1, [(vi dm)]), (1, [(.slice a_124 qn c_125)])]⟩)), (1, (.agg ⟨cd.map vu8⟩))]) (out := [(1, [(vi kd)]), (32, key.map vu8), (1, [(vi dm)]), (1, [(.slice a_124 qn c_125)]), (32, cd.map vu8)]) underlying102 (zv typeInfo102 rfl) rfl (sC sV (sC (s8 lr) (sC sV (sC sV (sC (s8 lr) sN))))) (pl102 _ underlying102) rfl (FillR.cons [] [(1, [(vi 0)]), (32, (zB 32).map vu8), (1, [(vi 0)]), (1, [(.slice none 0 0)])] [(1, [(vi kd)]), (32, key.map vu8), (1, [(vi dm)]), (1, [(.slice a_124 qn c_125)])] [(32, (zB 32).map vu8)] rfl rfl rfl rfl (sC sV (sC (s8 hq.1) (sC sV (sC sV sN)))) rfl rfl rfl (FillR.cons [(1, [(vi kd)]), (32, key.map vu8), (1, [(vi dm)]), (1, [(.slice a_124 qn c_125)])] [(32, (zB 32).map vu8)] [(32, cd.map vu8)] [] rfl rfl rfl rfl (sC (s8 hcdl) sN) rfl rfl rfl FillR.nil)) rfl) ?_
    refine WT.s2 ?_ ?_
    ·refine oN rfl ?_
     refine qV rfl (R.load1 rfl isAgg58 (h_131.ok _ M5) (Sg.t rfl (Sg.t rfl (Sg.t rfl (Sg.t rfl Sg.h))))) ?_
     refine WL.nil ?_
     refine ⟨(N0_1_2_3_4_7_8_9 h_131.ok), ?_⟩
     refine WT.s (oN rfl ?_)
     refine WL.buildSl (vs := [(0, (.agg ⟨flat [(1, [(vi kd)]), (32, key.map vu8), (1, [(vi dm)]), (1, [(.slice a_124 qn c_125)]), (32, cd.map vu8)]⟩))]) (cs := aC (kd, key, dm, data) (.slice a_124 qn c_125) cd) h_131 underlying58 sizeOf102 (zv typeInfo102 rfl) rfl rfl (fill_1 (zc := flat [(1, [vi 0]), (32, List.replicate 32 (vu8 0)), (1, [vi 0]), (1, [.slice none 0 0]), (32, List.replicate 32 (vu8 0))]) (by kernel_rfl) (sC (s := (67, flat [(1, [vi 0]), (32, List.replicate 32 (vu8 0)), (1, [vi 0]), (1, [.slice none 0 0]), (32, List.replicate 32 (vu8 0))])) ⟨by decide, SsOk.one (sC sV (sC (SOk.rep rfl) (sC sV (sC sV (sC (SOk.rep rfl) sN)))))⟩ sN) (aC_ok (q := (kd, key, dm, data)) (s := (.slice a_124 qn c_125)) (d := cd) hq.1 hcdl rfl)) ((aC_ok (q := (kd, key, dm, data)) (s := (.slice a_124 qn c_125)) (d := cd) hq.1 hcdl rfl)).head.len ((aC_ok (q := (kd, key, dm, data)) (s := (.slice a_124 qn c_125)) (d := cd) hq.1 hcdl rfl)).head.one rfl rfl (fun b_134 w_135 h_136 => ?_)
     refine WL.nil ?_
     refine ⟨(N1_2_3_4_5_8_9_10 h_136.ok), ?_⟩
     refine WT.s (oN rfl ?_)
     refine WL.append (km := lg.length + 1) (xs := lx) (ys := aC (kd, key, dm, data) (.slice a_124 qn c_125) cd) (zs := lx ++ aC (kd, key, dm, data) (.slice a_124 qn c_125) cd) h_136 rfl rfl el58 (viewB (h_136.ok _ M0) Sg.h) ((aC_ok (q := (kd, key, dm, data)) (s := (.slice a_124 qn c_125)) (d := cd) hq.1 hcdl rfl)).head.len ((aC_ok (q := (kd, key, dm, data)) (s := (.slice a_124 qn c_125)) (d := cd) hq.1 hcdl rfl)).head.one rfl (by omega) (by omega) (by omega) (fun _ _ => Y7) rfl (fun a_137 c_138 w_139 h_140 => ?_)
     refine WL.nil ?_
     refine ⟨(N1_2_3_4_5_8_9_10 h_140.ok), ?_⟩
     refine qT rfl rfl (fun wq hS => R.nilCheck rfl) ?_
     refine qT rfl rfl (fun wq hS => R.fieldAddr (off' := 35) rfl underlying61 rfl sizeOf58 rfl rfl) ?_
     refine WT.s (oN rfl ?_)
     refine WL.store1 h_140 rfl rfl sizeOf58 rfl Y6 (by decide) (Sg.t rfl (Sg.t rfl (Sg.t rfl (Sg.t rfl Sg.h)))) (fun w_141 h_142 => ?_)
     refine WL.nil ?_
     refine ⟨(N1_2_3_4_5_8_9_10 h_142.ok), ?_⟩
     refine WT.nil (thn_n ?_)
     exact ⟨(b_134, a_137, c_138), (U4 rfl rfl rfl rfl (U4 rfl rfl rfl rfl (U4 rfl rfl rfl rfl (Ag.refl _ _)))), ⟨rfl, rfl, rfl, rfl, rfl, rfl, rfl, rfl, rfl, rfl, rfl, rfl, trivial⟩, h_142⟩
    ·refine oN rfl ?_
     refine WL.buildSl (vs := [(0, (.agg ⟨flat [(1, [(vi kd)]), (32, key.map vu8), (1, [(vi dm)]), (1, [(.slice a_124 qn c_125)]), (32, cd.map vu8)]⟩))]) (cs := aC (kd, key, dm, data) (.slice a_124 qn c_125) cd) h_131 underlying58 sizeOf102 (zv typeInfo102 rfl) rfl rfl (fill_1 (zc := flat [(1, [vi 0]), (32, List.replicate 32 (vu8 0)), (1, [vi 0]), (1, [.slice none 0 0]), (32, List.replicate 32 (vu8 0))]) (by kernel_rfl) (sC (s := (67, flat [(1, [vi 0]), (32, List.replicate 32 (vu8 0)), (1, [vi 0]), (1, [.slice none 0 0]), (32, List.replicate 32 (vu8 0))])) ⟨by decide, SsOk.one (sC sV (sC (SOk.rep rfl) (sC sV (sC sV (sC (SOk.rep rfl) sN)))))⟩ sN) (aC_ok (q := (kd, key, dm, data)) (s := (.slice a_124 qn c_125)) (d := cd) hq.1 hcdl rfl)) ((aC_ok (q := (kd, key, dm, data)) (s := (.slice a_124 qn c_125)) (d := cd) hq.1 hcdl rfl)).head.len ((aC_ok (q := (kd, key, dm, data)) (s := (.slice a_124 qn c_125)) (d := cd) hq.1 hcdl rfl)).head.one rfl rfl (fun b_143 w_144 h_145 => ?_)
     refine WL.nil ?_
     refine ⟨(N1_2_3_4_5_8_9_10 h_145.ok), ?_⟩
     refine WT.s (oN rfl ?_)
     refine qV rfl (R.load1 rfl isAgg58 (h_145.ok _ M6) (Sg.t rfl (Sg.t rfl (Sg.t rfl (Sg.t rfl Sg.h))))) ?_
     refine WL.nil ?_
     refine ⟨(N1_2_3_4_5_8_9_10 h_145.ok), ?_⟩
     refine WT.s (oN rfl ?_)
     refine WL.append (km := lg.length + 1) (xs := lx) (ys := aC (kd, key, dm, data) (.slice a_124 qn c_125) cd) (zs := lx ++ aC (kd, key, dm, data) (.slice a_124 qn c_125) cd) h_145 rfl rfl el58 (viewB (h_145.ok _ M0) Sg.h) ((aC_ok (q := (kd, key, dm, data)) (s := (.slice a_124 qn c_125)) (d := cd) hq.1 hcdl rfl)).head.len ((aC_ok (q := (kd, key, dm, data)) (s := (.slice a_124 qn c_125)) (d := cd) hq.1 hcdl rfl)).head.one rfl (by omega) (by omega) (by omega) (fun _ _ => Y7) rfl (fun a_146 c_147 w_148 h_149 => ?_)
     refine WL.nil ?_
     refine ⟨(N1_2_3_4_5_8_9_10 h_149.ok), ?_⟩
     refine qT rfl rfl (fun wq hS => R.nilCheck rfl) ?_
     refine qT rfl rfl (fun wq hS => R.fieldAddr (off' := 35) rfl underlying61 rfl sizeOf58 rfl rfl) ?_
     refine WT.s (oN rfl ?_)
     refine WL.store1 h_149 rfl rfl sizeOf58 rfl Y6 (by decide) (Sg.t rfl (Sg.t rfl (Sg.t rfl (Sg.t rfl Sg.h)))) (fun w_150 h_151 => ?_)
     refine WL.nil ?_
     refine ⟨(N1_2_3_4_5_8_9_10 h_151.ok), ?_⟩
     refine WT.nil (thn_n ?_)
     exact ⟨(b_143, a_146, c_147), (U4 rfl rfl rfl rfl (U4 rfl rfl rfl rfl (U4 rfl rfl rfl rfl (Ag.refl _ _)))), ⟨rfl, rfl, rfl, rfl, rfl, rfl, rfl, rfl, rfl, rfl, rfl, rfl, trivial⟩, h_151⟩
   ·rintro ⟨b_155, a_156, c_157⟩ J_152 w_153 h_154
    refine thn_n (WP.seq (WP.reg ?_))
    refine qV rfl (R.loadA [] [(32, cd.map vu8)] [] (cs := cd.map vu8) rfl isAgg23 sizeOf23 (h_154.ok _ M2) rfl rfl rfl rfl) ?_
    refine WL.storeA [] [(32, (zB 32).map vu8)] [(32, cd.map vu8)] [] h_154 rfl rfl sizeOf23 Y3 (by decide) rfl rfl rfl rfl rfl rfl (sC (s8 hcdl) sN) (fun w_158 h_159 => ?_)
    refine WL.nil (thn_n (WP.ret ?_))
    refine ret_of results79 (RV.cell rfl (h_159.loadA (cs := cd.map vu8) isAgg23 sizeOf23 M3 rfl rfl) RV.nil) ?_
    have h_174 := ((((((((((((((h_159.drop rfl).up J1).drop rfl).up J1).drop rfl).up J1).drop rfl).up J1).drop rfl).up J5).up J5).up J4).up J4).up J5).up J5
    have h_175 := HP_logPush (q := (kd, key, dm, data)) (d := cd) h_174 hq hcdl (lenApp (a := 0) (b := qn) (rfl : List.length ([] : List UInt8) = 0) hdl (by omega) : List.length (([] : List UInt8) ++ data) = qn)
    have h_185 := ((((((((h_175.up J1).drop rfl).up J1).drop rfl).up J4).up J4).up J2).up J4).up J4
    have hmf : mF id df dn u (kd, key, dm, data) = cd := by rw [mF, c_52]; exact (hcd c_52).symm
    have hu2 : (bif id then u + 1 else u) = u := by rw [c_52]; rfl
    have hse : lg.length + 1 = (lg ++ [((kd, key, dm, data), cd)]).length := snoc_len.symm
    have h_176 := h_185
    rw [hse] at h_176
    exact ⟨_, _, _, by rw [anD_miss hfd, hmf]; rfl, by rw [anU_miss hfd, anL_miss hfd, hmf, hu2]; exact h_176⟩

theorem c_rAsk {w00 : World} {L : List Ent} (id : Bool) (ob : Nat) (ms df : List UInt8) (hms : ms.length = 32) (da : Option Addr) (dn dc u : Nat) (hdf : df.length = 32 * dn) (la : Option Addr) (lc : Nat) (lx : List Value) (lg : Lg) (hu : u ≤ 1000000) (hlg : lg.length ≤ 1000000) (kd dm : Int) (key data : List UInt8) (qa : Option Addr) (qn qc : Nat) (hq : okQ (kd, key, dm, data)) (hdl : data.length = qn) (w : World) (h_0 : HP w00 w (Ent.blk ob .nw 61 [(1, [(.bool id)]), (32, ms.map vu8), (1, [(.slice da dn dc)]), (1, [(vi ((u : Nat) : Int))]), (1, [(.slice la lg.length lc)])] :: Ent.row la lg.length lc 102 67 lx :: Ent.pin (sblks lx) (fun w => Lgs w lx lg) :: Ent.view da (df.map vu8) :: Ent.view qa (data.map vu8) :: L)) :
  Cs Tryz.prog 65 [(.pointer (some ⟨ob, 0, none⟩)), (.agg ⟨flat [(1, [(vi kd)]), (32, key.map vu8), (1, [(vi dm)]), (1, [(.slice qa qn qc)])]⟩)].toArray w (fun v w1 => ∃ la' lc' lx', v = (.agg ⟨(anD id df dn u lg (kd, key, dm, data)).map vu8⟩) ∧ HP w00 w1 (Ent.blk ob .nw 61 [(1, [(.bool id)]), (32, ms.map vu8), (1, [(.slice da dn dc)]), (1, [(vi (((anU id u lg (kd, key, dm, data)) : Nat) : Int))]), (1, [(.slice la' ((anL id df dn u lg (kd, key, dm, data)).length) lc')])] :: Ent.row la' ((anL id df dn u lg (kd, key, dm, data)).length) lc' 102 67 lx' :: Ent.pin (sblks lx') (fun w => Lgs w lx' (anL id df dn u lg (kd, key, dm, data))) :: Ent.view da (df.map vu8) :: Ent.view qa (data.map vu8) :: L)) := by
 have hk1 : 1 ≤ kd ∧ kd ≤ 4 := hq.2.1
 have hd1 : 1 ≤ dm ∧ dm ≤ 16 := hq.2.2.1
 have hqn : data.length ≤ 1000000000 := hq.2.2.2
 refine Cs.of (n := 26) (args := [(pO ob 0), (.agg ⟨flat [(1, [(vi kd)]), (32, key.map vu8), (1, [(vi dm)]), (1, [(.slice qa qn qc)])]⟩)]) Tryz.func65 rfl rfl rfl ?_
 refine WP.seq (WP.reg ?_)
 refine WL.box (segs := [(1, [(vi kd)]), (32, key.map vu8), (1, [(vi dm)]), (1, [(.slice qa qn qc)])]) h_0 rfl rfl (sC sV (sC (s8 hq.1) (sC sV (sC sV sN)))) rfl (fun b_1 w_2 h_3 => ?_)
 refine WL.alloc (segs := [(32, (zB 32).map vu8)]) h_3 (zv typeInfo23 rfl) rfl (sC (s8 lr) sN) rfl (fun b_4 w_5 h_6 => ?_)
 refine WL.nil (thn_n (WP.seq (WP.reg ?_)))
 refine WL.alloc (segs := [(32, (zB 32).map vu8)]) h_6 (zv typeInfo23 rfl) rfl (sC (s8 lr) sN) rfl (fun b_7 w_8 h_9 => ?_)
 refine WL.nil (thn_n (WP.seq (WP.seq (WP.reg ?_))))
 refine qM (pO ob 0) rfl rfl (qV rfl (R.nilCheck rfl) (qV rfl (R.fieldAddr (off' := 0) rfl underlying61 rfl sizeOf4 rfl rfl) (qV rfl (R.load1 rfl isAgg4 (h_9.ok _ M3) Sg.h) (qV rfl (R.not (b := id) rfl) ?_))))
 refine WL.nil (thn_n ?_)
 refine WP.cond (b := !id) rfl (fun c_10 => ?_) (fun c_10 => ?_)
 ·refine WP.seq (WP.reg ?_)
  refine qV rfl (R.fieldAddr (off' := 0) rfl underlying100 rfl sizeOf98 rfl rfl) (qV rfl (R.load1 rfl isAgg98 (h_9.ok _ M2) Sg.h) (qV rfl (R.bin rfl rfl (bi_eql (r := decide ((kd : Int) = 1)) rfl)) ?_))
  refine WL.nil (thn_n ?_)
  refine WP.cond (b := decide ((kd : Int) = 1)) rfl (fun c_11 => ?_) (fun c_11 => ?_)
  ·have p_12 := of_decide_eq_true c_11
   refine WP.reg ?_
   refine qV rfl (R.loadA [] [(1, [(vi kd)]), (32, key.map vu8), (1, [(vi dm)]), (1, [(.slice qa qn qc)])] [] rfl isAgg100 sizeOf100 (h_9.ok _ M2) rfl rfl rfl rfl) ?_
   refine WL.call Tryz.call77 rfl rfl (c_rText kd dm key data qa qn qc hq hdl _ (viewV (h_9.ok _ M7))) rfl ?_
   rintro _ w_15 ⟨a_13, cap_14, rfl, hc_16, ho_17⟩
   have h_18 := h_9.gotRow hc_16 ho_17
   refine WL.call Tryz.call76 rfl rfl (c_SumR a_13 (34 + qn) cap_14 (cT (kd, key, dm, data)) (cT_len hq hdl) (by omega) _ (ownView (h_18.ok _ M0))) rfl ?_
   rintro _ w_20 ⟨rfl, hc_19⟩
   have h_21 := h_18.same hc_19
   refine WL.storeA [] [(32, (zB 32).map vu8)] [(32, (sumL (cT (kd, key, dm, data))).map vu8)] [] h_21 rfl rfl sizeOf23 Y1 (by decide) rfl rfl rfl rfl rfl rfl (sC (s8 (sumL_len _)) sN) (fun w_22 h_23 => ?_)
   refine WL.nil (thn_n (WP.seq (WP.reg ?_)))
   refine qM (pO ob 0) rfl rfl (qV rfl (R.loadA [] [(1, [(vi kd)]), (32, key.map vu8), (1, [(vi dm)]), (1, [(.slice qa qn qc)])] [] rfl isAgg100 sizeOf100 (h_23.ok _ M3) rfl rfl rfl rfl) (qV rfl (R.loadA [] [(32, (sumL (cT (kd, key, dm, data))).map vu8)] [] (cs := (sumL (cT (kd, key, dm, data))).map vu8) rfl isAgg23 sizeOf23 (h_23.ok _ M1) rfl rfl rfl rfl) ?_))
   have h_28 := ((((h_23.up J8).up J8).up J8).up J8).up J8
   have h32_w_32 := (Lgs.ok32 (h_28.ok _ M2).1)
   refine WL.call Tryz.call79 rfl rfl (c_rAns id ob ms df hms da dn dc u hdf la lc lx lg hu hlg kd dm key data qa qn qc hq hdl (sumL (cT (kd, key, dm, data))) (sumL_len _) (fun _ => by rw [cF, if_pos p_12]) _ h_28) rfl ?_
   rintro _ w_32 ⟨la_29, lc_30, lx_31, rfl, h_33⟩
   refine WL.storeA [] [(32, (zB 32).map vu8)] [(32, (anD id df dn u lg (kd, key, dm, data)).map vu8)] [] h_33 rfl rfl sizeOf23 Y7 (by decide) rfl rfl rfl rfl rfl rfl (sC (s8 (anD_len hdf h32_w_32)) sN) (fun w_34 h_35 => ?_)
   refine WL.nil (thn_n (WP.ret ?_))
   refine ret_of results65 (RV.cell rfl (h_35.loadA (cs := (anD id df dn u lg (kd, key, dm, data)).map vu8) isAgg23 sizeOf23 M7 rfl rfl) RV.nil) ?_
   have h_48 := ((((((((((((h_35.up J5).drop rfl).up J5).drop rfl).up J5).drop rfl).up J5).drop rfl).up J4).up J4).up J4).up J4).up J4
   exact ⟨_, _, _, rfl, h_48⟩
  ·have p_49 := of_decide_eq_false c_11
   refine WP.drawZ 5 (SL w00.heap.size [.blk b_7 .nw 23 [(32, (zB 32).map vu8)], .blk b_4 .nw 23 [(32, (zB 32).map vu8)], .blk b_1 .nw 100 [(1, [(vi kd)]), (32, key.map vu8), (1, [(vi dm)]), (1, [(.slice qa qn qc)])], .blk ob .nw 61 [(1, [(.bool id)]), (32, ms.map vu8), (1, [(.slice da dn dc)]), (1, [(vn u)]), (1, [(.slice la lg.length lc)])], .row la lg.length lc 102 67 lx, .pin (sblks lx) (fun w => Lgs w lx lg), .view da (df.map vu8), .view qa (data.map vu8)]) (.q 0 (.q 1 (.q 2 (.s 3 (.s 4 (.s 5 .nil)))))) (by kernel_rfl) (by kernel_rfl) rfl (by kernel_rfl) (fun w_50 hc_52 => (SL.cons ((h_9.same hc_52).ok _ M0) (SL.cons ((h_9.same hc_52).ok _ M1) (SL.cons ((h_9.same hc_52).ok _ M2) (SL.cons ((h_9.same hc_52).ok _ M3) (SL.cons ((h_9.same hc_52).ok _ M4) (SL.cons ((h_9.same hc_52).ok _ M5) (SL.cons ((h_9.same hc_52).ok _ M6) (SL.cons ((h_9.same hc_52).ok _ M7) (SL.nil _ _)))))))))) (fun w_50 hc_52 => ?_)
   have h_51 := h_9.same hc_52
   refine ZT.q rfl (Wn.no rfl) rfl rfl (fun wq hS => R.fieldAddr (off' := 1) rfl underlying100 rfl sizeOf23 rfl rfl) ?_
   refine ZT.q rfl (Wn.no rfl) rfl rfl (fun wq hS => R.sliceA (b := b_1) (off := 1) (off' := 1) (l := 0) (h := 32) rfl EvB.dflt EvB.dflt (by decide) (by decide) underlying23 sizeOf5 rfl) ?_
   refine ZT.q rfl (Wn.no rfl) rfl rfl (fun wq hS => R.loadA [] [(1, [(vi kd)]), (32, key.map vu8), (1, [(vi dm)]), (1, [(.slice qa qn qc)])] [] rfl isAgg100 sizeOf100 (hS _ M2) rfl rfl rfl rfl) ?_
   refine ZT.s ?_
   refine OpZ.one rfl (Wn.no rfl) ?_
   refine WL.call Tryz.call77 rfl rfl (c_rText kd dm key data qa qn qc hq hdl _ (viewV (h_51.ok _ M7))) rfl ?_
   rintro _ w_55 ⟨a_53, cap_54, rfl, hc_56, ho_57⟩
   have h_58 := h_51.gotRow hc_56 ho_57
   refine WL.nil ?_
   refine ⟨(N1_2_3_4_5_6_7_8 h_58.ok), ?_⟩
   refine ZT.s ?_
   refine OpZ.one rfl (Wn.no rfl) ?_
   refine WL.call Tryz.call78 rfl rfl (c_TagR (some ⟨b_1, 1, none⟩) 32 32 key hq.1 (by decide) (by decide) a_53 (34 + qn) cap_54 (cT (kd, key, dm, data)) (cT_len hq hdl) (h_58.own M0).2.2.1 (by omega) _ (viewB (h_58.ok _ M3) (Sg.t rfl Sg.h)) (ownView (h_58.ok _ M0))) rfl ?_
   rintro _ w_60 ⟨rfl, hc_59⟩
   have h_61 := h_58.same hc_59
   refine WL.nil ?_
   refine ⟨(N1_2_3_4_5_6_7_8 h_61.ok), ?_⟩
   refine ZT.s ?_
   refine OpZ.last rfl (Wn.no rfl) ?_
   refine WL.storeA [] [(32, (zB 32).map vu8)] [(32, (tagL key (cT (kd, key, dm, data))).map vu8)] [] h_61 rfl rfl sizeOf23 Y1 (by decide) rfl rfl rfl rfl rfl rfl (sC (s8 (tagL_len _ _)) sN) (fun w_62 h_63 => ?_)
   refine WL.nil (ZT.nil (thn_n (WP.seq (WP.reg ?_))))
   refine qM (pO ob 0) rfl rfl (qV rfl (R.loadA [] [(1, [(vi kd)]), (32, key.map vu8), (1, [(vi dm)]), (1, [(.slice qa qn qc)])] [] rfl isAgg100 sizeOf100 (h_63.ok _ M3) rfl rfl rfl rfl) (qV rfl (R.loadA [] [(32, (tagL key (cT (kd, key, dm, data))).map vu8)] [] (cs := (tagL key (cT (kd, key, dm, data))).map vu8) rfl isAgg23 sizeOf23 (h_63.ok _ M1) rfl rfl rfl rfl) ?_))
   have h_68 := ((((h_63.up J8).up J8).up J8).up J8).up J8
   have h32_w_72 := (Lgs.ok32 (h_68.ok _ M2).1)
   refine WL.call Tryz.call79 rfl rfl (c_rAns id ob ms df hms da dn dc u hdf la lc lx lg hu hlg kd dm key data qa qn qc hq hdl (tagL key (cT (kd, key, dm, data))) (tagL_len _ _) (fun _ => by rw [cF, if_neg p_49]) _ h_68) rfl ?_
   rintro _ w_72 ⟨la_69, lc_70, lx_71, rfl, h_73⟩
   refine WL.storeA [] [(32, (zB 32).map vu8)] [(32, (anD id df dn u lg (kd, key, dm, data)).map vu8)] [] h_73 rfl rfl sizeOf23 Y7 (by decide) rfl rfl rfl rfl rfl rfl (sC (s8 (anD_len hdf h32_w_72)) sN) (fun w_74 h_75 => ?_)
   refine WL.nil (thn_n (WP.ret ?_))
   refine ret_of results65 (RV.cell rfl (h_75.loadA (cs := (anD id df dn u lg (kd, key, dm, data)).map vu8) isAgg23 sizeOf23 M7 rfl rfl) RV.nil) ?_
   have h_88 := ((((((((((((h_75.up J5).drop rfl).up J5).drop rfl).up J5).drop rfl).up J5).drop rfl).up J4).up J4).up J4).up J4).up J4
   exact ⟨_, _, _, rfl, h_88⟩
 ·refine WP.skip (thn_n (WP.seq (WP.reg ?_)))
  refine qM (pO ob 0) rfl rfl (qV rfl (R.loadA [] [(1, [(vi kd)]), (32, key.map vu8), (1, [(vi dm)]), (1, [(.slice qa qn qc)])] [] rfl isAgg100 sizeOf100 (h_9.ok _ M2) rfl rfl rfl rfl) (qV rfl (R.loadA [] [(32, (zB 32).map vu8)] [] (cs := (zB 32).map vu8) rfl isAgg23 sizeOf23 (h_9.ok _ M0) rfl rfl rfl rfl) ?_))
  have h_93 := ((((h_9.up J7).up J7).up J7).up J7).up J7
  have h32_w_97 := (Lgs.ok32 (h_93.ok _ M2).1)
  refine WL.call Tryz.call79 rfl rfl (c_rAns id ob ms df hms da dn dc u hdf la lc lx lg hu hlg kd dm key data qa qn qc hq hdl (zB 32) lr (fun h => by rw [h] at c_10; cases c_10) _ h_93) rfl ?_
  rintro _ w_97 ⟨la_94, lc_95, lx_96, rfl, h_98⟩
  refine WL.storeA [] [(32, (zB 32).map vu8)] [(32, (anD id df dn u lg (kd, key, dm, data)).map vu8)] [] h_98 rfl rfl sizeOf23 Y6 (by decide) rfl rfl rfl rfl rfl rfl (sC (s8 (anD_len hdf h32_w_97)) sN) (fun w_99 h_100 => ?_)
  refine WL.nil (thn_n (WP.ret ?_))
  refine ret_of results65 (RV.cell rfl (h_100.loadA (cs := (anD id df dn u lg (kd, key, dm, data)).map vu8) isAgg23 sizeOf23 M6 rfl rfl) RV.nil) ?_
  have h_111 := ((((((((((h_100.up J5).drop rfl).up J5).drop rfl).up J5).drop rfl).up J4).up J4).up J4).up J4).up J4
  exact ⟨_, _, _, rfl, h_111⟩

theorem c_rAsk_r {w00 : World} {L : List Ent} (id : Bool) (ob : Nat) (ms df : List UInt8) (hms : ms.length = 32) (da : Option Addr) (dn dc u : Nat) (hdf : df.length = 32 * dn) (la : Option Addr) (lc : Nat) (lx : List Value) (lg : Lg) (hu : u ≤ 1000000) (hlg : lg.length ≤ 1000000) (kd dm : Int) (key data : List UInt8) (qa : Option Addr) (qn qc : Nat) (hq : okQ (kd, key, dm, data)) (hdl : data.length = qn) (w : World) (h_0 : HP w00 w (Ent.blk ob .nw 61 [(1, [(.bool id)]), (32, ms.map vu8), (1, [(.slice da dn dc)]), (1, [(vi ((u : Nat) : Int))]), (1, [(.slice la lg.length lc)])] :: Ent.row la lg.length lc 102 67 lx :: Ent.pin (sblks lx) (fun w => Lgs w lx lg) :: Ent.view da (df.map vu8) :: Ent.row qa qn qc 5 1 (data.map vu8) :: L)) :
  Cs Tryz.prog 65 [(.pointer (some ⟨ob, 0, none⟩)), (.agg ⟨flat [(1, [(vi kd)]), (32, key.map vu8), (1, [(vi dm)]), (1, [(.slice qa qn qc)])]⟩)].toArray w (fun v w1 => ∃ la' lc' lx', v = (.agg ⟨(anD id df dn u lg (kd, key, dm, data)).map vu8⟩) ∧ HP w00 w1 (Ent.blk ob .nw 61 [(1, [(.bool id)]), (32, ms.map vu8), (1, [(.slice da dn dc)]), (1, [(vi (((anU id u lg (kd, key, dm, data)) : Nat) : Int))]), (1, [(.slice la' ((anL id df dn u lg (kd, key, dm, data)).length) lc')])] :: Ent.row la' ((anL id df dn u lg (kd, key, dm, data)).length) lc' 102 67 lx' :: Ent.pin (sblks lx') (fun w => Lgs w lx' (anL id df dn u lg (kd, key, dm, data))) :: Ent.view da (df.map vu8) :: Ent.row qa qn qc 5 1 (data.map vu8) :: L)) := by
 have hk1 : 1 ≤ kd ∧ kd ≤ 4 := hq.2.1
 have hd1 : 1 ≤ dm ∧ dm ≤ 16 := hq.2.2.1
 have hqn : data.length ≤ 1000000000 := hq.2.2.2
 refine Cs.of (n := 26) (args := [(pO ob 0), (.agg ⟨flat [(1, [(vi kd)]), (32, key.map vu8), (1, [(vi dm)]), (1, [(.slice qa qn qc)])]⟩)]) Tryz.func65 rfl rfl rfl ?_
 refine WP.seq (WP.reg ?_)
 refine WL.box (segs := [(1, [(vi kd)]), (32, key.map vu8), (1, [(vi dm)]), (1, [(.slice qa qn qc)])]) h_0 rfl rfl (sC sV (sC (s8 hq.1) (sC sV (sC sV sN)))) rfl (fun b_1 w_2 h_3 => ?_)
 refine WL.alloc (segs := [(32, (zB 32).map vu8)]) h_3 (zv typeInfo23 rfl) rfl (sC (s8 lr) sN) rfl (fun b_4 w_5 h_6 => ?_)
 refine WL.nil (thn_n (WP.seq (WP.reg ?_)))
 refine WL.alloc (segs := [(32, (zB 32).map vu8)]) h_6 (zv typeInfo23 rfl) rfl (sC (s8 lr) sN) rfl (fun b_7 w_8 h_9 => ?_)
 refine WL.nil (thn_n (WP.seq (WP.seq (WP.reg ?_))))
 refine qM (pO ob 0) rfl rfl (qV rfl (R.nilCheck rfl) (qV rfl (R.fieldAddr (off' := 0) rfl underlying61 rfl sizeOf4 rfl rfl) (qV rfl (R.load1 rfl isAgg4 (h_9.ok _ M3) Sg.h) (qV rfl (R.not (b := id) rfl) ?_))))
 refine WL.nil (thn_n ?_)
 refine WP.cond (b := !id) rfl (fun c_10 => ?_) (fun c_10 => ?_)
 ·refine WP.seq (WP.reg ?_)
  refine qV rfl (R.fieldAddr (off' := 0) rfl underlying100 rfl sizeOf98 rfl rfl) (qV rfl (R.load1 rfl isAgg98 (h_9.ok _ M2) Sg.h) (qV rfl (R.bin rfl rfl (bi_eql (r := decide ((kd : Int) = 1)) rfl)) ?_))
  refine WL.nil (thn_n ?_)
  refine WP.cond (b := decide ((kd : Int) = 1)) rfl (fun c_11 => ?_) (fun c_11 => ?_)
  ·have p_12 := of_decide_eq_true c_11
   refine WP.reg ?_
   refine qV rfl (R.loadA [] [(1, [(vi kd)]), (32, key.map vu8), (1, [(vi dm)]), (1, [(.slice qa qn qc)])] [] rfl isAgg100 sizeOf100 (h_9.ok _ M2) rfl rfl rfl rfl) ?_
   refine WL.call Tryz.call77 rfl rfl (c_rText kd dm key data qa qn qc hq hdl _ (ownView (h_9.ok _ M7))) rfl ?_
   rintro _ w_15 ⟨a_13, cap_14, rfl, hc_16, ho_17⟩
   have h_18 := h_9.gotRow hc_16 ho_17
   refine WL.call Tryz.call76 rfl rfl (c_SumR a_13 (34 + qn) cap_14 (cT (kd, key, dm, data)) (cT_len hq hdl) (by omega) _ (ownView (h_18.ok _ M0))) rfl ?_
   rintro _ w_20 ⟨rfl, hc_19⟩
   have h_21 := h_18.same hc_19
   refine WL.storeA [] [(32, (zB 32).map vu8)] [(32, (sumL (cT (kd, key, dm, data))).map vu8)] [] h_21 rfl rfl sizeOf23 Y1 (by decide) rfl rfl rfl rfl rfl rfl (sC (s8 (sumL_len _)) sN) (fun w_22 h_23 => ?_)
   refine WL.nil (thn_n (WP.seq (WP.reg ?_)))
   refine qM (pO ob 0) rfl rfl (qV rfl (R.loadA [] [(1, [(vi kd)]), (32, key.map vu8), (1, [(vi dm)]), (1, [(.slice qa qn qc)])] [] rfl isAgg100 sizeOf100 (h_23.ok _ M3) rfl rfl rfl rfl) (qV rfl (R.loadA [] [(32, (sumL (cT (kd, key, dm, data))).map vu8)] [] (cs := (sumL (cT (kd, key, dm, data))).map vu8) rfl isAgg23 sizeOf23 (h_23.ok _ M1) rfl rfl rfl rfl) ?_))
   have h_28 := ((((h_23.up J8).up J8).up J8).up J8).up J8
   have h32_w_32 := (Lgs.ok32 (h_28.ok _ M2).1)
   refine WL.call Tryz.call79 rfl rfl (c_rAns_r id ob ms df hms da dn dc u hdf la lc lx lg hu hlg kd dm key data qa qn qc hq hdl (sumL (cT (kd, key, dm, data))) (sumL_len _) (fun _ => by rw [cF, if_pos p_12]) _ h_28) rfl ?_
   rintro _ w_32 ⟨la_29, lc_30, lx_31, rfl, h_33⟩
   refine WL.storeA [] [(32, (zB 32).map vu8)] [(32, (anD id df dn u lg (kd, key, dm, data)).map vu8)] [] h_33 rfl rfl sizeOf23 Y7 (by decide) rfl rfl rfl rfl rfl rfl (sC (s8 (anD_len hdf h32_w_32)) sN) (fun w_34 h_35 => ?_)
   refine WL.nil (thn_n (WP.ret ?_))
   refine ret_of results65 (RV.cell rfl (h_35.loadA (cs := (anD id df dn u lg (kd, key, dm, data)).map vu8) isAgg23 sizeOf23 M7 rfl rfl) RV.nil) ?_
   have h_48 := ((((((((((((h_35.up J5).drop rfl).up J5).drop rfl).up J5).drop rfl).up J5).drop rfl).up J4).up J4).up J4).up J4).up J4
   exact ⟨_, _, _, rfl, h_48⟩
  ·have p_49 := of_decide_eq_false c_11
   refine WP.drawZ 5 (SL w00.heap.size [.blk b_7 .nw 23 [(32, (zB 32).map vu8)], .blk b_4 .nw 23 [(32, (zB 32).map vu8)], .blk b_1 .nw 100 [(1, [(vi kd)]), (32, key.map vu8), (1, [(vi dm)]), (1, [(.slice qa qn qc)])], .blk ob .nw 61 [(1, [(.bool id)]), (32, ms.map vu8), (1, [(.slice da dn dc)]), (1, [(vn u)]), (1, [(.slice la lg.length lc)])], .row la lg.length lc 102 67 lx, .pin (sblks lx) (fun w => Lgs w lx lg), .view da (df.map vu8), .row qa qn qc 5 1 (data.map vu8)]) (.q 0 (.q 1 (.q 2 (.s 3 (.s 4 (.s 5 .nil)))))) (by kernel_rfl) (by kernel_rfl) rfl (by kernel_rfl) (fun w_50 hc_52 => (SL.cons ((h_9.same hc_52).ok _ M0) (SL.cons ((h_9.same hc_52).ok _ M1) (SL.cons ((h_9.same hc_52).ok _ M2) (SL.cons ((h_9.same hc_52).ok _ M3) (SL.cons ((h_9.same hc_52).ok _ M4) (SL.cons ((h_9.same hc_52).ok _ M5) (SL.cons ((h_9.same hc_52).ok _ M6) (SL.cons ((h_9.same hc_52).ok _ M7) (SL.nil _ _)))))))))) (fun w_50 hc_52 => ?_)
   have h_51 := h_9.same hc_52
   refine ZT.q rfl (Wn.no rfl) rfl rfl (fun wq hS => R.fieldAddr (off' := 1) rfl underlying100 rfl sizeOf23 rfl rfl) ?_
   refine ZT.q rfl (Wn.no rfl) rfl rfl (fun wq hS => R.sliceA (b := b_1) (off := 1) (off' := 1) (l := 0) (h := 32) rfl EvB.dflt EvB.dflt (by decide) (by decide) underlying23 sizeOf5 rfl) ?_
   refine ZT.q rfl (Wn.no rfl) rfl rfl (fun wq hS => R.loadA [] [(1, [(vi kd)]), (32, key.map vu8), (1, [(vi dm)]), (1, [(.slice qa qn qc)])] [] rfl isAgg100 sizeOf100 (hS _ M2) rfl rfl rfl rfl) ?_
   refine ZT.s ?_
   refine OpZ.one rfl (Wn.no rfl) ?_
   refine WL.call Tryz.call77 rfl rfl (c_rText kd dm key data qa qn qc hq hdl _ (ownView (h_51.ok _ M7))) rfl ?_
   rintro _ w_55 ⟨a_53, cap_54, rfl, hc_56, ho_57⟩
   have h_58 := h_51.gotRow hc_56 ho_57
   refine WL.nil ?_
   refine ⟨(N1_2_3_4_5_6_7_8 h_58.ok), ?_⟩
   refine ZT.s ?_
   refine OpZ.one rfl (Wn.no rfl) ?_
   refine WL.call Tryz.call78 rfl rfl (c_TagR (some ⟨b_1, 1, none⟩) 32 32 key hq.1 (by decide) (by decide) a_53 (34 + qn) cap_54 (cT (kd, key, dm, data)) (cT_len hq hdl) (h_58.own M0).2.2.1 (by omega) _ (viewB (h_58.ok _ M3) (Sg.t rfl Sg.h)) (ownView (h_58.ok _ M0))) rfl ?_
   rintro _ w_60 ⟨rfl, hc_59⟩
   have h_61 := h_58.same hc_59
   refine WL.nil ?_
   refine ⟨(N1_2_3_4_5_6_7_8 h_61.ok), ?_⟩
   refine ZT.s ?_
   refine OpZ.last rfl (Wn.no rfl) ?_
   refine WL.storeA [] [(32, (zB 32).map vu8)] [(32, (tagL key (cT (kd, key, dm, data))).map vu8)] [] h_61 rfl rfl sizeOf23 Y1 (by decide) rfl rfl rfl rfl rfl rfl (sC (s8 (tagL_len _ _)) sN) (fun w_62 h_63 => ?_)
   refine WL.nil (ZT.nil (thn_n (WP.seq (WP.reg ?_))))
   refine qM (pO ob 0) rfl rfl (qV rfl (R.loadA [] [(1, [(vi kd)]), (32, key.map vu8), (1, [(vi dm)]), (1, [(.slice qa qn qc)])] [] rfl isAgg100 sizeOf100 (h_63.ok _ M3) rfl rfl rfl rfl) (qV rfl (R.loadA [] [(32, (tagL key (cT (kd, key, dm, data))).map vu8)] [] (cs := (tagL key (cT (kd, key, dm, data))).map vu8) rfl isAgg23 sizeOf23 (h_63.ok _ M1) rfl rfl rfl rfl) ?_))
   have h_68 := ((((h_63.up J8).up J8).up J8).up J8).up J8
   have h32_w_72 := (Lgs.ok32 (h_68.ok _ M2).1)
   refine WL.call Tryz.call79 rfl rfl (c_rAns_r id ob ms df hms da dn dc u hdf la lc lx lg hu hlg kd dm key data qa qn qc hq hdl (tagL key (cT (kd, key, dm, data))) (tagL_len _ _) (fun _ => by rw [cF, if_neg p_49]) _ h_68) rfl ?_
   rintro _ w_72 ⟨la_69, lc_70, lx_71, rfl, h_73⟩
   refine WL.storeA [] [(32, (zB 32).map vu8)] [(32, (anD id df dn u lg (kd, key, dm, data)).map vu8)] [] h_73 rfl rfl sizeOf23 Y7 (by decide) rfl rfl rfl rfl rfl rfl (sC (s8 (anD_len hdf h32_w_72)) sN) (fun w_74 h_75 => ?_)
   refine WL.nil (thn_n (WP.ret ?_))
   refine ret_of results65 (RV.cell rfl (h_75.loadA (cs := (anD id df dn u lg (kd, key, dm, data)).map vu8) isAgg23 sizeOf23 M7 rfl rfl) RV.nil) ?_
   have h_88 := ((((((((((((h_75.up J5).drop rfl).up J5).drop rfl).up J5).drop rfl).up J5).drop rfl).up J4).up J4).up J4).up J4).up J4
   exact ⟨_, _, _, rfl, h_88⟩
 ·refine WP.skip (thn_n (WP.seq (WP.reg ?_)))
  refine qM (pO ob 0) rfl rfl (qV rfl (R.loadA [] [(1, [(vi kd)]), (32, key.map vu8), (1, [(vi dm)]), (1, [(.slice qa qn qc)])] [] rfl isAgg100 sizeOf100 (h_9.ok _ M2) rfl rfl rfl rfl) (qV rfl (R.loadA [] [(32, (zB 32).map vu8)] [] (cs := (zB 32).map vu8) rfl isAgg23 sizeOf23 (h_9.ok _ M0) rfl rfl rfl rfl) ?_))
  have h_93 := ((((h_9.up J7).up J7).up J7).up J7).up J7
  have h32_w_97 := (Lgs.ok32 (h_93.ok _ M2).1)
  refine WL.call Tryz.call79 rfl rfl (c_rAns_r id ob ms df hms da dn dc u hdf la lc lx lg hu hlg kd dm key data qa qn qc hq hdl (zB 32) lr (fun h => by rw [h] at c_10; cases c_10) _ h_93) rfl ?_
  rintro _ w_97 ⟨la_94, lc_95, lx_96, rfl, h_98⟩
  refine WL.storeA [] [(32, (zB 32).map vu8)] [(32, (anD id df dn u lg (kd, key, dm, data)).map vu8)] [] h_98 rfl rfl sizeOf23 Y6 (by decide) rfl rfl rfl rfl rfl rfl (sC (s8 (anD_len hdf h32_w_97)) sN) (fun w_99 h_100 => ?_)
  refine WL.nil (thn_n (WP.ret ?_))
  refine ret_of results65 (RV.cell rfl (h_100.loadA (cs := (anD id df dn u lg (kd, key, dm, data)).map vu8) isAgg23 sizeOf23 M6 rfl rfl) RV.nil) ?_
  have h_111 := ((((((((((h_100.up J5).drop rfl).up J5).drop rfl).up J5).drop rfl).up J4).up J4).up J4).up J4).up J4
  exact ⟨_, _, _, rfl, h_111⟩

theorem c_rDig {w00 : World} {L : List Ent} (id : Bool) (ob : Nat) (ms df : List UInt8) (hms : ms.length = 32) (da : Option Addr) (dn dc u : Nat) (hdf : df.length = 32 * dn) (la : Option Addr) (lc : Nat) (lx : List Value) (lg : Lg) (hu : u ≤ 1000000) (hlg : lg.length ≤ 1000000) (dm : Int) (data : List UInt8) (qa : Option Addr) (qn qc : Nat) (hdm : 1 ≤ dm ∧ dm ≤ 16) (hqn : data.length ≤ 1000000000) (hdl : data.length = qn) (w : World) (h_0 : HP w00 w (Ent.blk ob .nw 61 [(1, [(.bool id)]), (32, ms.map vu8), (1, [(.slice da dn dc)]), (1, [(vi ((u : Nat) : Int))]), (1, [(.slice la lg.length lc)])] :: Ent.row la lg.length lc 102 67 lx :: Ent.pin (sblks lx) (fun w => Lgs w lx lg) :: Ent.view da (df.map vu8) :: Ent.view qa (data.map vu8) :: L)) :
  Cs Tryz.prog 43 [(.pointer (some ⟨ob, 0, none⟩)), (vi dm), (.slice qa qn qc)].toArray w (fun v w1 => ∃ la' lc' lx', v = (.agg ⟨(anD id df dn u lg (1, (List.replicate 32 (0 : UInt8)), dm, data)).map vu8⟩) ∧ HP w00 w1 (Ent.blk ob .nw 61 [(1, [(.bool id)]), (32, ms.map vu8), (1, [(.slice da dn dc)]), (1, [(vi (((anU id u lg (1, (List.replicate 32 (0 : UInt8)), dm, data)) : Nat) : Int))]), (1, [(.slice la' ((anL id df dn u lg (1, (List.replicate 32 (0 : UInt8)), dm, data)).length) lc')])] :: Ent.row la' ((anL id df dn u lg (1, (List.replicate 32 (0 : UInt8)), dm, data)).length) lc' 102 67 lx' :: Ent.pin (sblks lx') (fun w => Lgs w lx' (anL id df dn u lg (1, (List.replicate 32 (0 : UInt8)), dm, data))) :: Ent.view da (df.map vu8) :: Ent.view qa (data.map vu8) :: L)) := by
 refine Cs.of (n := 12) (args := [(pO ob 0), (vi dm), (.slice qa qn qc)]) Tryz.func43 rfl rfl rfl ?_
 refine WP.seq (WP.reg ?_)
 refine WL.alloc (segs := [(32, (zB 32).map vu8)]) h_0 (zv typeInfo23 rfl) rfl (sC (s8 lr) sN) rfl (fun b_1 w_2 h_3 => ?_)
 refine WL.nil (thn_n (WP.seq (WP.reg ?_)))
 refine qM (pO ob 0) rfl rfl (qM (vi dm) rfl rfl (qM (.slice qa qn qc) rfl rfl (qV rfl (R.buildS (pl := [(0, 1), (1, 32), (33, 1), (34, 1)]) (zs := [(1, [(vi 0)]), (32, (zB 32).map vu8), (1, [(vi 0)]), (1, [(.slice none 0 0)])]) (vs := [(0, (vi 1)), (2, (vi dm)), (3, (.slice qa qn qc))]) (out := [(1, [(vi 1)]), (32, (zB 32).map vu8), (1, [(vi dm)]), (1, [(.slice qa qn qc)])]) underlying100 (zv typeInfo100 rfl) rfl (sC sV (sC (s8 lr) (sC sV (sC sV sN)))) (pl100 _ underlying100) rfl (FillR.cons [] [(1, [(vi 0)])] [(1, [(vi 1)])] [(32, (zB 32).map vu8), (1, [(vi 0)]), (1, [(.slice none 0 0)])] rfl rfl rfl rfl (sC sV sN) rfl rfl rfl (FillR.cons [(1, [(vi 1)]), (32, (zB 32).map vu8)] [(1, [(vi 0)])] [(1, [(vi dm)])] [(1, [(.slice none 0 0)])] rfl rfl rfl rfl (sC sV sN) rfl rfl rfl (FillR.cons [(1, [(vi 1)]), (32, (zB 32).map vu8), (1, [(vi dm)])] [(1, [(.slice none 0 0)])] [(1, [(.slice qa qn qc)])] [] rfl rfl rfl rfl (sC sV sN) rfl rfl rfl FillR.nil))) rfl) ?_)))
 have h_9 := ((((h_3.up J5).up J5).up J5).up J5).up J5
 have h32_w_13 := (Lgs.ok32 (h_9.ok _ M2).1)
 refine WL.call Tryz.call65 rfl rfl (c_rAsk id ob ms df hms da dn dc u hdf la lc lx lg hu hlg 1 dm (zB 32) data qa qn qc ⟨lr, by show (1 : Int) ≤ 1 ∧ (1 : Int) ≤ 4; omega, by show (1 : Int) ≤ dm ∧ (dm : Int) ≤ 16; omega, by show List.length data ≤ 1000000000; first | decide | (simp only [List.length_append, leN_len]; omega) | omega⟩ hdl  _ h_9) rfl ?_
 rintro _ w_13 ⟨la_10, lc_11, lx_12, rfl, h_14⟩
 refine WL.storeA [] [(32, (zB 32).map vu8)] [(32, (anD id df dn u lg (1, List.replicate 32 (0 : UInt8), dm, data)).map vu8)] [] h_14 rfl rfl sizeOf23 Y5 (by decide) rfl rfl rfl rfl rfl rfl (sC (s8 (anD_len hdf h32_w_13)) sN) (fun w_15 h_16 => ?_)
 refine WL.nil (thn_n (WP.ret ?_))
 refine ret_of results43 (RV.cell rfl (h_16.loadA (cs := (anD id df dn u lg (1, List.replicate 32 (0 : UInt8), dm, data)).map vu8) isAgg23 sizeOf23 M5 rfl rfl) RV.nil) ?_
 have h_23 := ((((((h_16.up J5).drop rfl).up J4).up J4).up J4).up J4).up J4
 exact ⟨_, _, _, rfl, h_23⟩

theorem c_rDig_r {w00 : World} {L : List Ent} (id : Bool) (ob : Nat) (ms df : List UInt8) (hms : ms.length = 32) (da : Option Addr) (dn dc u : Nat) (hdf : df.length = 32 * dn) (la : Option Addr) (lc : Nat) (lx : List Value) (lg : Lg) (hu : u ≤ 1000000) (hlg : lg.length ≤ 1000000) (dm : Int) (data : List UInt8) (qa : Option Addr) (qn qc : Nat) (hdm : 1 ≤ dm ∧ dm ≤ 16) (hqn : data.length ≤ 1000000000) (hdl : data.length = qn) (w : World) (h_0 : HP w00 w (Ent.blk ob .nw 61 [(1, [(.bool id)]), (32, ms.map vu8), (1, [(.slice da dn dc)]), (1, [(vi ((u : Nat) : Int))]), (1, [(.slice la lg.length lc)])] :: Ent.row la lg.length lc 102 67 lx :: Ent.pin (sblks lx) (fun w => Lgs w lx lg) :: Ent.view da (df.map vu8) :: Ent.row qa qn qc 5 1 (data.map vu8) :: L)) :
  Cs Tryz.prog 43 [(.pointer (some ⟨ob, 0, none⟩)), (vi dm), (.slice qa qn qc)].toArray w (fun v w1 => ∃ la' lc' lx', v = (.agg ⟨(anD id df dn u lg (1, (List.replicate 32 (0 : UInt8)), dm, data)).map vu8⟩) ∧ HP w00 w1 (Ent.blk ob .nw 61 [(1, [(.bool id)]), (32, ms.map vu8), (1, [(.slice da dn dc)]), (1, [(vi (((anU id u lg (1, (List.replicate 32 (0 : UInt8)), dm, data)) : Nat) : Int))]), (1, [(.slice la' ((anL id df dn u lg (1, (List.replicate 32 (0 : UInt8)), dm, data)).length) lc')])] :: Ent.row la' ((anL id df dn u lg (1, (List.replicate 32 (0 : UInt8)), dm, data)).length) lc' 102 67 lx' :: Ent.pin (sblks lx') (fun w => Lgs w lx' (anL id df dn u lg (1, (List.replicate 32 (0 : UInt8)), dm, data))) :: Ent.view da (df.map vu8) :: Ent.row qa qn qc 5 1 (data.map vu8) :: L)) := by
 refine Cs.of (n := 12) (args := [(pO ob 0), (vi dm), (.slice qa qn qc)]) Tryz.func43 rfl rfl rfl ?_
 refine WP.seq (WP.reg ?_)
 refine WL.alloc (segs := [(32, (zB 32).map vu8)]) h_0 (zv typeInfo23 rfl) rfl (sC (s8 lr) sN) rfl (fun b_1 w_2 h_3 => ?_)
 refine WL.nil (thn_n (WP.seq (WP.reg ?_)))
 refine qM (pO ob 0) rfl rfl (qM (vi dm) rfl rfl (qM (.slice qa qn qc) rfl rfl (qV rfl (R.buildS (pl := [(0, 1), (1, 32), (33, 1), (34, 1)]) (zs := [(1, [(vi 0)]), (32, (zB 32).map vu8), (1, [(vi 0)]), (1, [(.slice none 0 0)])]) (vs := [(0, (vi 1)), (2, (vi dm)), (3, (.slice qa qn qc))]) (out := [(1, [(vi 1)]), (32, (zB 32).map vu8), (1, [(vi dm)]), (1, [(.slice qa qn qc)])]) underlying100 (zv typeInfo100 rfl) rfl (sC sV (sC (s8 lr) (sC sV (sC sV sN)))) (pl100 _ underlying100) rfl (FillR.cons [] [(1, [(vi 0)])] [(1, [(vi 1)])] [(32, (zB 32).map vu8), (1, [(vi 0)]), (1, [(.slice none 0 0)])] rfl rfl rfl rfl (sC sV sN) rfl rfl rfl (FillR.cons [(1, [(vi 1)]), (32, (zB 32).map vu8)] [(1, [(vi 0)])] [(1, [(vi dm)])] [(1, [(.slice none 0 0)])] rfl rfl rfl rfl (sC sV sN) rfl rfl rfl (FillR.cons [(1, [(vi 1)]), (32, (zB 32).map vu8), (1, [(vi dm)])] [(1, [(.slice none 0 0)])] [(1, [(.slice qa qn qc)])] [] rfl rfl rfl rfl (sC sV sN) rfl rfl rfl FillR.nil))) rfl) ?_)))
 have h_9 := ((((h_3.up J5).up J5).up J5).up J5).up J5
 have h32_w_13 := (Lgs.ok32 (h_9.ok _ M2).1)
 refine WL.call Tryz.call65 rfl rfl (c_rAsk_r id ob ms df hms da dn dc u hdf la lc lx lg hu hlg 1 dm (zB 32) data qa qn qc ⟨lr, by show (1 : Int) ≤ 1 ∧ (1 : Int) ≤ 4; omega, by show (1 : Int) ≤ dm ∧ (dm : Int) ≤ 16; omega, by show List.length data ≤ 1000000000; first | decide | (simp only [List.length_append, leN_len]; omega) | omega⟩ hdl  _ h_9) rfl ?_
 rintro _ w_13 ⟨la_10, lc_11, lx_12, rfl, h_14⟩
 refine WL.storeA [] [(32, (zB 32).map vu8)] [(32, (anD id df dn u lg (1, List.replicate 32 (0 : UInt8), dm, data)).map vu8)] [] h_14 rfl rfl sizeOf23 Y5 (by decide) rfl rfl rfl rfl rfl rfl (sC (s8 (anD_len hdf h32_w_13)) sN) (fun w_15 h_16 => ?_)
 refine WL.nil (thn_n (WP.ret ?_))
 refine ret_of results43 (RV.cell rfl (h_16.loadA (cs := (anD id df dn u lg (1, List.replicate 32 (0 : UInt8), dm, data)).map vu8) isAgg23 sizeOf23 M5 rfl rfl) RV.nil) ?_
 have h_23 := ((((((h_16.up J5).drop rfl).up J4).up J4).up J4).up J4).up J4
 exact ⟨_, _, _, rfl, h_23⟩
end Go.Proofs.YtbhllplbbkmndaaGreat

namespace Go.Proofs.YtbhllplbbkmndaaGreat
open Go.Proofs.Tryz
open Go.Vc Go.Orc Go.Sh Go.RowKit
set_option maxRecDepth 20000

theorem c_CloneA (a : Option Addr) (n cap : Nat) (xs : List Value) (lg : Lg) (hn : lg.length = n) (hlg : n ≤ 1000000) (w : World) (hv : View w a xs) (hp : Lgs w xs lg) :
  Cs Tryz.prog 55 [(.slice a n cap)].toArray w (fun v w1 => ∃ a cap, v = .slice a n cap ∧ Chg w w1 [] ∧ Own w.heap.size w1 102 67 a n cap xs) := by
 refine Cs.of (n := 8) (args := [(.slice a n cap)]) Tryz.func55 rfl rfl rfl ?_
 have h_0 := HP.init w
 have h_01 := h_0.oldV (View.arg hv) rfl (by simp [Ent.mut])
 have h_00 := h_01.oldV (Lgs.pin hp) rfl (by simp [Ent.mut])
 refine WP.seq (WP.reg ?_)
 refine qA (.slice none 0 0) rfl rfl ?_
 refine WL.nil (thn_n (WP.seq (WP.seq (WP.reg ?_))))
 refine qM (.slice a n cap) rfl rfl (qV rfl (R.eqNilS rfl rfl underlying58) ?_)
 refine WL.nil (thn_n ?_)
 refine WP.cond (b := a.isNone) rfl (fun c_1 => ?_) (fun c_1 => ?_)
 ·refine WP.seq (WP.reg ?_)
  refine qA (.slice none 0 0) rfl rfl ?_
  refine WL.nil (thn_n (WP.ret (thn_r ?_)))
  refine ret_of results55 (RV.tmp (v := (.slice none 0 0)) rfl RV.nil) ?_
  obtain rfl : xs = [] := view_noneV c_1 hv
  obtain rfl : n = 0 := by have := Lgs.len hp; simp at this; omega
  exact ⟨none, 0, rfl, h_00.chgS, Own.nil ..⟩
 ·refine WP.skip (thn_n (WP.seq (WP.reg ?_)))
  refine WL.buildSl0 h_00 underlying58 sizeOf102 rfl (fun b_2 w_3 h_4 => ?_)
  refine qM (.slice a n cap) rfl rfl ?_
  refine WL.append (km := n) (xs := []) (ys := xs) (zs := xs) h_4 rfl rfl el58 (viewV (h_4.ok _ M2)) (by rw [Lgs.len hp, hn]) (Lgs.one hp) rfl (by omega) (by omega) (by omega) (fun _ _ => At.h) rfl (fun a_5 c_6 w_7 h_8 => ?_)
  refine qA (.slice a_5 n c_6) rfl rfl ?_
  refine WL.nil (thn_n (WP.ret ?_))
  refine ret_of results55 (RV.tmp (v := (.slice a_5 n c_6)) rfl RV.nil) ?_
  exact ⟨_, _, rfl, h_8.chgS, h_8.ok _ M0⟩

theorem c_oLog {w00 : World} {L : List Ent} (id : Bool) (ob mp : Nat) (ms df : List UInt8) (hms : ms.length = 32) (da : Option Addr) (dn dc u : Nat) (hdf : df.length = 32 * dn) (la : Option Addr) (lc : Nat) (lx : List Value) (lg : Lg) (hu : u ≤ 1000000) (hlg : lg.length ≤ 1000000) (w : World) (h_0 : HP w00 w (Ent.blk ob .nw 106 [(1, [(.bool id)]), (32, ms.map vu8), (1, [(.slice da dn dc)]), (1, [(vi ((u : Nat) : Int))]), (1, [(.map (some mp))]), (1, [(.slice la lg.length lc)])] :: Ent.row la lg.length lc 102 67 lx :: Ent.obj mp .nw (.map (mArr lg) lg.length) :: Ent.pin (sblks lx) (fun w => Lgs w lx lg) :: Ent.view da (df.map vu8) :: L)) :
  Cs Tryz.prog 27 [(.pointer (some ⟨ob, 0, none⟩))].toArray w (fun v w1 => ∃ a cap ys, v = .slice a lg.length cap ∧ HP w00 w1 (.row a lg.length cap 102 67 ys :: .pin (sblks ys) (fun w => Lgs w ys lg) :: Ent.blk ob .nw 106 [(1, [(.bool id)]), (32, ms.map vu8), (1, [(.slice da dn dc)]), (1, [(vi ((u : Nat) : Int))]), (1, [(.map (some mp))]), (1, [(.slice la lg.length lc)])] :: Ent.row la lg.length lc 102 67 lx :: Ent.obj mp .nw (.map (mArr lg) lg.length) :: Ent.pin (sblks lx) (fun w => Lgs w lx lg) :: Ent.view da (df.map vu8) :: L)) := by
 refine Cs.of (n := 32) (args := [(pO ob 0)]) Tryz.func27 rfl rfl rfl ?_
 refine WP.seq (WP.reg ?_)
 refine qA (.slice none 0 0) rfl rfl ?_
 refine WL.nil (thn_n (WP.seq (WP.seq (WP.reg ?_))))
 refine qM (pO ob 0) rfl rfl ?_
 refine WL.call Tryz.call54 rfl rfl (c_othere id ob mp ms hms da dn dc u la lg.length lc _ (h_0.argR M0)) rfl ?_
 rintro _ w_2 ⟨rfl, hc_1⟩
 have h_3 := h_0.same hc_1
 refine qV rfl (R.not (b := true) rfl) ?_
 refine WL.nil (thn_n ?_)
 refine WP.condF rfl ?_
 refine WP.skip (thn_n (WP.seq (WP.reg ?_)))
 refine qM (pO ob 0) rfl rfl (qV rfl (R.nilCheck rfl) (qV rfl (R.fieldAddr (off' := 36) rfl underlying106 rfl sizeOf58 rfl rfl) (qV rfl (R.load1 rfl isAgg58 (h_3.ok _ M0) (Sg.t rfl (Sg.t rfl (Sg.t rfl (Sg.t rfl (Sg.t rfl Sg.h)))))) ?_)))
 refine WL.call Tryz.call55 rfl rfl (c_CloneA la lg.length lc lx lg rfl (by omega) _ (ownView (h_3.ok _ M1)) (h_3.ok _ M3).1) rfl ?_
 rintro _ w_6 ⟨a_4, cap_5, rfl, hc_7, ho_8⟩
 have h_9 := h_3.gotRow hc_7 ho_8
 refine qA (.slice a_4 lg.length cap_5) rfl rfl ?_
 refine WL.nil (thn_n (WP.seq (WP.seq (WP.reg ?_))))
 refine qM (.slice a_4 lg.length cap_5) rfl rfl (qV rfl (R.lenS (a := a_4) (m := lg.length) rfl rfl underlying58) (qM (vi 0) rfl rfl ?_))
 refine WL.nil (thn_n (WP.block ?_))
 have h_10 := h_9.within M4 rfl (h_9.ok _ M4) rfl rfl (fun b hb => hb)
 have h_17 := ((((((h_10.up J6).up J6).up J6).up J6).up J6).up J5).up J6
 refine WP.loopG (G := Nat × List Value) [4, 15, 16, 17, 18, 19, 20, 21, 22, 23, 24, 25, 26, 27, 28, 29, 30] (fun (k, ys) => [(15, (vn k))]) (fun (k, ys) m w1 => HP w00 w1 (Ent.row a_4 lg.length cap_5 102 67 ys :: Ent.pin (sblks ys) (fun w => Lgs w ys lg) :: Ent.blk ob .nw 106 [(1, [(.bool id)]), (32, ms.map vu8), (1, [(.slice da dn dc)]), (1, [(vn u)]), (1, [(.map (some mp))]), (1, [(.slice la lg.length lc)])] :: Ent.row la lg.length lc 102 67 lx :: Ent.obj mp .nw (.map (mArr lg) lg.length) :: Ent.pin (sblks lx) (fun w => Lgs w lx lg) :: Ent.view da (df.map vu8) :: L) ∧ (k ≤ lg.length) ∧ m = lg.length + 1 - k) ⟨(0, lx), _, ⟨rfl, trivial⟩, h_17, Nat.zero_le _, rfl⟩ ?_
 rintro ⟨k, ys⟩ m_20 J_21 w_18 ⟨h_19, hk, rfl⟩
 refine WP.seq (WP.reg ?_)
 refine qV rfl (R.bin rfl rfl (bi_lss (r := decide ((((k : Nat) : Int) : Int) < ((lg.length : Nat) : Int))) rfl)) ?_
 refine WL.nil (thn_n (WP.seq ?_))
 refine WP.cond (b := decide ((((k : Nat) : Int) : Int) < ((lg.length : Nat) : Int))) rfl (fun c_22 => ?_) (fun c_22 => ?_)
 ·have p_23 := of_decide_eq_true c_22
  refine WP.skip (thn_n (WP.seq (WP.block (WP.seq (WP.reg ?_)))))
  refine qM (vn k) rfl rfl (qA (vn k) rfl rfl ?_)
  refine WL.nil (thn_n ?_)
  have hkl : k < lg.length := by omega
  have hyl := Lgs.len (h_19.ok _ M1).1
  obtain ⟨ka, kn, kc, khx, khq, khn, khc, khv, khb⟩ := Lgs.qget (i := k) (z := ((0, [], 0, []), [])) (h_19.ok _ M1).1 hkl
  have kbd : kn ≤ 1000000000 := by have hq4 := khq.2.2.2; rw [khn] at hq4; exact hq4
  have h_24 := h_19.within (e' := .view ka ((lg.getD k ((0, [], 0, []), [])).1.2.2.2.map vu8)) M1 rfl (View.arg khv) rfl rfl (fun b hb_ => khb _ (view_sblk khn b hb_))
  refine WP.reg ?_
  refine qM (.slice a_4 lg.length cap_5) rfl rfl (qM (vn k) rfl rfl (qM (.slice a_4 lg.length cap_5) rfl rfl (qM (vn k) rfl rfl (qV rfl (R.indexS (a := a_4) (i := k) (off := k * 67) (xs := ys) rfl rfl rfl (by omega) (ownView (h_24.ok _ M1)) (by rw [hyl]; omega) underlying58 sizeOf102 rfl) (qV rfl (R.fieldG (a := a_4) (i := k * 67) (off' := k * 67) rfl underlying102 rfl sizeOf100 rfl rfl) (qV rfl (R.fieldG (a := a_4) (i := k * 67) (off' := k * 67 + 34) rfl underlying100 rfl sizeOf81 rfl rfl) (qV rfl (R.loadG rfl (ownView (h_24.ok _ M1)) isAgg81 (q34 khq.1 khx)) ?_)))))))
  refine WL.call Tryz.call56 rfl rfl (c_Clone ka kn kc ((lg.getD k ((0, [], 0, []), [])).1.2.2.2) khn (by omega) _ (viewV (h_24.ok _ M0))) rfl ?_
  rintro _ w_27 ⟨a_25, cap_26, rfl, hc_28, ho_29⟩
  have h_30 := h_24.gotRow hc_28 ho_29
  refine qV rfl (R.indexS (a := a_4) (i := k) (off := k * 67) (xs := ys) rfl rfl rfl (by omega) (ownView (h_30.ok _ M2)) (by rw [hyl]; omega) underlying58 sizeOf102 rfl) (qV rfl (R.fieldG (a := a_4) (i := k * 67) (off' := k * 67) rfl underlying102 rfl sizeOf100 rfl rfl) (qV rfl (R.fieldG (a := a_4) (i := k * 67) (off' := k * 67 + 34) rfl underlying100 rfl sizeOf81 rfl rfl) ?_))
  refine WL.storeR (a := a_4) (i := k * 67 + 34) (v := (.slice a_25 kn cap_26)) (xs' := ys.set (k * 67 + 34) (.slice a_25 kn cap_26)) h_30 rfl rfl sizeOf81 rfl Y2 (by rw [hyl]; omega) rfl (fun w_31 h_32 => ?_)
  refine WL.nil (inb_n (thn_n (WP.reg ?_)))
  refine qV rfl (R.bin rfl rfl (bi_add (c := ((k + 1 : Nat) : Int)) (by omega) (by omega))) (qM (vn (k + 1)) rfl rfl ?_)
  refine WL.nil (thn_n ?_)
  have h_42 := (((((((((h_32.up J1).drop rfl).up J7).up J7).up J7).up J7).up J7).up J6).up J7).up J7
  have h_43 := HP_logSet (z := ((0, [], 0, []), [])) h_42 hkl khn
  have h_54 := ((((((((((h_43.up J1).drop rfl).up J1).drop rfl).up J6).up J6).up J6).up J6).up J6).up J5).up J6
  exact ⟨(k + 1, _), _, (by omega), (Ag.upd rfl (U4 rfl rfl rfl rfl (U4 rfl rfl rfl rfl (U4 rfl rfl rfl rfl (U4 rfl rfl rfl rfl (Ag.updL rfl (Ag.mix _ _ _))))))), ⟨rfl, trivial⟩, h_54, (by omega), rfl⟩
 ·have p_55 := of_decide_eq_false c_22
  refine WP.exit (thn_x (thn_x (inb_hit (thn_n (WP.seq (WP.reg ?_))))))
  refine qM (.slice a_4 lg.length cap_5) rfl rfl (qA (.slice a_4 lg.length cap_5) rfl rfl ?_)
  refine WL.nil (thn_n (WP.ret ?_))
  refine ret_of results27 (RV.tmp (v := (.slice a_4 lg.length cap_5)) rfl RV.nil) ?_
  have h_62 := ((((((h_19.up J6).up J6).up J6).up J6).up J6).up J6).up J6
  exact ⟨_, _, _, rfl, h_62⟩

theorem c_rSameLog (a : Option Addr) (n cap : Nat) (xs : List Value) (lg : Lg) (hn : lg.length = n) (hlg : n ≤ 1000000) (a2 : Option Addr) (cap2 : Nat) (ys : List Value) (w : World) (hv : View w a xs) (hp : Lgs w xs lg) (hv2 : View w a2 ys) (hp2 : Lgs w ys lg) :
  Cs Tryz.prog 26 [(.slice a n cap), (.slice a2 n cap2)].toArray w (fun v w1 => v = (.bool true) ∧ Chg w w1 []) := by
 refine Cs.of (n := 42) (args := [(.slice a n cap), (.slice a2 n cap2)]) Tryz.func26 rfl rfl rfl ?_
 have h_0 := HP.init w
 have h_01 := h_0.oldV (View.arg hv) rfl (by simp [Ent.mut])
 have h_02 := h_01.oldV (Lgs.pin hp) rfl (by simp [Ent.mut])
 have h_03 := h_02.oldV (View.arg hv2) rfl (by simp [Ent.mut])
 have h_00 := h_03.oldV (Lgs.pin hp2) rfl (by simp [Ent.mut])
 refine WP.seq (WP.reg ?_)
 refine qA (.bool false) rfl rfl ?_
 refine WL.nil (thn_n (WP.seq (WP.seq (WP.reg ?_))))
 refine qM (.slice a n cap) rfl rfl (qV rfl (R.lenS (a := a) (m := n) rfl rfl underlying58) (qM (.slice a2 n cap2) rfl rfl (qV rfl (R.lenS (a := a2) (m := n) rfl rfl underlying58) (qV rfl (R.bin rfl rfl (bi_neq (r := false) (by simp))) ?_))))
 refine WL.nil (thn_n ?_)
 refine WP.condF rfl ?_
 refine WP.skip (thn_n (WP.seq (WP.seq (WP.reg ?_))))
 refine qA (vi 0) rfl rfl ?_
 refine WL.nil (thn_n (WP.block ?_))
 refine WP.loopG (G := Nat) [4, 5, 11, 12, 13, 14, 15, 16, 17, 18, 19, 20, 21, 22, 23, 24, 25, 26, 27, 28, 29, 30, 31, 32, 33, 34, 35, 36, 37, 38, 39, 40, 41] (fun k => [(5, (vn k))]) (fun k m w1 => HP w w1 [.pin (sblks ys) (fun w => Lgs w ys lg), .view a2 ys, .pin (sblks xs) (fun w => Lgs w xs lg), .view a xs] ∧ (k ≤ n) ∧ m = n + 1 - k) ⟨0, _, ⟨rfl, trivial⟩, h_00, Nat.zero_le _, rfl⟩ ?_
 rintro k m_3 J_4 w_1 ⟨h_2, hk, rfl⟩
 refine WP.seq (WP.seq (WP.reg ?_))
 refine qM (vn k) rfl rfl (qM (.slice a n cap) rfl rfl (qV rfl (R.lenS (a := a) (m := n) rfl rfl underlying58) (qV rfl (R.bin rfl rfl (bi_lss (r := decide ((((k : Nat) : Int) : Int) < ((n : Nat) : Int))) rfl)) ?_)))
 refine WL.nil (thn_n ?_)
 refine WP.cond (b := decide ((((k : Nat) : Int) : Int) < ((n : Nat) : Int))) rfl (fun c_5 => ?_) (fun c_5 => ?_)
 ·have p_6 := of_decide_eq_true c_5
  refine WP.skip (thn_n (WP.seq (WP.block (WP.seq ?_))))
  have hkl : k < lg.length := by omega
  obtain ⟨ka, kn, kc, khx, khq, khn, khc, khv, khb⟩ := Lgs.qget (i := k) (z := ((0, [], 0, []), [])) (h_2.ok _ M2).1 hkl
  have kbd : kn ≤ 1000000000 := by have hq4 := khq.2.2.2; rw [khn] at hq4; exact hq4
  have h_7 := h_2.within (e' := .view ka ((lg.getD k ((0, [], 0, []), [])).1.2.2.2.map vu8)) M2 rfl (View.arg khv) rfl rfl (fun b hb_ => khb _ (view_sblk khn b hb_))
  obtain ⟨ga, gn, gc, ghx, ghq, ghn, ghc, ghv, ghb⟩ := Lgs.qget (i := k) (z := ((0, [], 0, []), [])) (h_7.ok _ M1).1 hkl
  have gbd : gn ≤ 1000000000 := by have hq4 := ghq.2.2.2; rw [ghn] at hq4; exact hq4
  have h_8 := h_7.within (e' := .view ga ((lg.getD k ((0, [], 0, []), [])).1.2.2.2.map vu8)) M1 rfl (View.arg ghv) rfl rfl (fun b hb_ => ghb _ (view_sblk ghn b hb_))
  refine WP.drawT (SL w.heap.size [.view ga ((lg.getD k ((0, [], 0, []), [])).1.2.2.2.map vu8), .view ka ((lg.getD k ((0, [], 0, []), [])).1.2.2.2.map vu8), .pin (sblks ys) (fun w => Lgs w ys lg), .view a2 ys, .pin (sblks xs) (fun w => Lgs w xs lg), .view a xs]) (.q 0 (.q 1 (.q 2 (.q 3 (.q 4 (.q 5 (.q 6 (.q 7 (.q 8 (.q 9 (.s 10 (.q 11 (.q 12 (.q 13 (.q 14 (.q 15 (.q 16 (.q 17 (.q 18 (.q 19 (.q 20 (.q 21 (.q 22 (.q 23 (.q 24 .nil))))))))))))))))))))))))) (by kernel_rfl) (by kernel_rfl) rfl (by kernel_rfl) (fun w_9 hc_11 => (SL.cons ((h_8.same hc_11).ok _ M0) (SL.cons ((h_8.same hc_11).ok _ M1) (SL.cons ((h_8.same hc_11).ok _ M2) (SL.cons ((h_8.same hc_11).ok _ M3) (SL.cons ((h_8.same hc_11).ok _ M4) (SL.cons ((h_8.same hc_11).ok _ M5) (SL.nil _ _)))))))) (fun w_9 hc_11 => ?_)
  have h_10 := h_8.same hc_11
  refine qT rfl rfl (fun wq hS => R.move (v := (.slice a n cap)) rfl) ?_
  refine qT rfl rfl (fun wq hS => R.move (v := (vn k)) rfl) ?_
  refine qT rfl rfl (fun wq hS => R.indexS (a := a) (i := k) (off := k * 67) (xs := xs) rfl rfl rfl (by omega) (viewV (hS _ M5)) (by rw [Lgs.len hp, hn]; omega) underlying58 sizeOf102 rfl) ?_
  refine qT rfl rfl (fun wq hS => R.fieldG (a := a) (i := k * 67) (off' := k * 67) rfl underlying102 rfl sizeOf100 rfl rfl) ?_
  refine qT rfl rfl (fun wq hS => R.loadGA (a := a) (i := k * 67) (xs := xs) (cs := flat [(1, [(vi (((lg.getD k ((0, [], 0, []), [])).1).1))]), (32, (((lg.getD k ((0, [], 0, []), [])).1).2.1).map vu8), (1, [(vi (((lg.getD k ((0, [], 0, []), [])).1).2.2.1))]), (1, [(.slice ka kn kc)])]) rfl (viewV (hS _ M5)) isAgg100 sizeOf100 khx ((sC sV (sC (s8 khq.1) (sC sV (sC sV sN))))).len (by decide)) ?_
  refine qT rfl rfl (fun wq hS => R.move (v := (.slice a2 n cap2)) rfl) ?_
  refine qT rfl rfl (fun wq hS => R.move (v := (vn k)) rfl) ?_
  refine qT rfl rfl (fun wq hS => R.indexS (a := a2) (i := k) (off := k * 67) (xs := ys) rfl rfl rfl (by omega) (viewV (hS _ M3)) (by rw [Lgs.len hp2, hn]; omega) underlying58 sizeOf102 rfl) ?_
  refine qT rfl rfl (fun wq hS => R.fieldG (a := a2) (i := k * 67) (off' := k * 67) rfl underlying102 rfl sizeOf100 rfl rfl) ?_
  refine qT rfl rfl (fun wq hS => R.loadGA (a := a2) (i := k * 67) (xs := ys) (cs := flat [(1, [(vi (((lg.getD k ((0, [], 0, []), [])).1).1))]), (32, (((lg.getD k ((0, [], 0, []), [])).1).2.1).map vu8), (1, [(vi (((lg.getD k ((0, [], 0, []), [])).1).2.2.1))]), (1, [(.slice ga gn gc)])]) rfl (viewV (hS _ M3)) isAgg100 sizeOf100 ghx ((sC sV (sC (s8 ghq.1) (sC sV (sC sV sN))))).len (by decide)) ?_
  refine WT.s (oN rfl ?_)
  refine WL.call Tryz.call53 rfl rfl (c_rSame ((lg.getD k ((0, [], 0, []), [])).1) ((lg.getD k ((0, [], 0, []), [])).1) khq.1 ghq.1 ka kn kc khn ga gn gc ghn _ (viewV (h_10.ok _ M1)) (viewV (h_10.ok _ M0))) rfl ?_
  rintro _ w_13 ⟨rfl, hc_12⟩
  have h_14 := h_10.same hc_12
  refine WL.nil ?_
  refine ⟨(N0_1_2_3_4_5 h_14.ok), ?_⟩
  refine qT rfl rfl (fun wq hS => R.not (b := true) (congrArg Value.bool (decide_eq_true rfl))) ?_
  refine qT rfl rfl (fun wq hS => R.move (v := (.bool false)) rfl) ?_
  refine WT.q rfl (Wn.yes rfl rfl rfl) rfl rfl (fun wq hS => R.move (v := (.slice a n cap)) rfl) ?_
  refine WT.q rfl (Wn.yes rfl rfl rfl) rfl rfl (fun wq hS => R.move (v := (vn k)) rfl) ?_
  refine WT.q rfl (Wn.yes rfl rfl rfl) rfl rfl (fun wq hS => R.indexS (a := a) (i := k) (off := k * 67) (xs := xs) rfl rfl rfl (by omega) (viewV (hS _ M5)) (by rw [Lgs.len hp, hn]; omega) underlying58 sizeOf102 rfl) ?_
  refine WT.q rfl (Wn.yes rfl rfl rfl) rfl rfl (fun wq hS => R.fieldG (a := a) (i := k * 67) (off' := k * 67 + 35) rfl underlying102 rfl sizeOf23 rfl rfl) ?_
  refine WT.q rfl (Wn.yes rfl rfl rfl) rfl rfl (fun wq hS => R.loadGA (a := a) (i := k * 67 + 35) (xs := xs) (cs := ((lg.getD k ((0, [], 0, []), [])).2).map vu8) rfl (viewV (hS _ M5)) isAgg23 sizeOf23 (Lgs.ans (z := ((0, [], 0, []), [])) hp (i := k) hkl).1 (len_map (Lgs.ans (z := ((0, [], 0, []), [])) hp (i := k) hkl).2) (by decide)) ?_
  refine WT.q rfl (Wn.yes rfl rfl rfl) rfl rfl (fun wq hS => R.move (v := (.slice a2 n cap2)) rfl) ?_
  refine WT.q rfl (Wn.yes rfl rfl rfl) rfl rfl (fun wq hS => R.move (v := (vn k)) rfl) ?_
  refine WT.q rfl (Wn.yes rfl rfl rfl) rfl rfl (fun wq hS => R.indexS (a := a2) (i := k) (off := k * 67) (xs := ys) rfl rfl rfl (by omega) (viewV (hS _ M3)) (by rw [Lgs.len hp2, hn]; omega) underlying58 sizeOf102 rfl) ?_
  refine WT.q rfl (Wn.yes rfl rfl rfl) rfl rfl (fun wq hS => R.fieldG (a := a2) (i := k * 67) (off' := k * 67 + 35) rfl underlying102 rfl sizeOf23 rfl rfl) ?_
  refine WT.q rfl (Wn.yes rfl rfl rfl) rfl rfl (fun wq hS => R.loadGA (a := a2) (i := k * 67 + 35) (xs := ys) (cs := ((lg.getD k ((0, [], 0, []), [])).2).map vu8) rfl (viewV (hS _ M3)) isAgg23 sizeOf23 (Lgs.ans (z := ((0, [], 0, []), [])) hp2 (i := k) hkl).1 (len_map (Lgs.ans (z := ((0, [], 0, []), [])) hp2 (i := k) hkl).2) (by decide)) ?_
  refine WT.q rfl (Wn.yes rfl rfl rfl) rfl rfl (fun wq hS => R.neA (xs := ((lg.getD k ((0, [], 0, []), [])).2).map vu8) (ys := ((lg.getD k ((0, [], 0, []), [])).2).map vu8) (r := false) rfl rfl eqGuardType23 kt23 (by decide) ag23 (Typ.u8s underlying23 ce23 underlying5 ce5 ((Lgs.ans (z := ((0, [], 0, []), [])) hp (i := k) hkl).2)) (Typ.u8s underlying23 ce23 underlying5 ce5 ((Lgs.ans (z := ((0, [], 0, []), [])) hp2 (i := k) hkl).2)) (neT rfl)) ?_
  refine qT rfl rfl (fun wq hS => R.pickF (v := (.bool false)) rfl rfl) ?_
  refine WT.nil (thn_n ?_)
  refine WP.condF rfl ?_
  refine WP.skip (inb_n (thn_n (WP.reg ?_)))
  refine qM (vn k) rfl rfl (qV rfl (R.bin rfl rfl (bi_add (c := ((k + 1 : Nat) : Int)) (by omega) (by omega))) (qA (vn (k + 1)) rfl rfl ?_))
  refine WL.nil (thn_n ?_)
  have h_20 := (((((h_14.drop rfl).drop rfl).up J3).up J3).up J3).up J3
  exact ⟨k + 1, _, (by omega), (U4 rfl rfl rfl rfl (U4 rfl rfl rfl rfl (U4 rfl rfl rfl rfl (U4 rfl rfl rfl rfl (U4 rfl rfl rfl rfl (U4 rfl rfl rfl rfl (U4 rfl rfl rfl rfl (U4 rfl rfl rfl rfl (Ag.updL rfl (Ag.mix _ _ _)))))))))), ⟨rfl, trivial⟩, h_20, (by omega), rfl⟩
 ·have p_21 := of_decide_eq_false c_5
  refine WP.exit (thn_x (thn_x (inb_hit (thn_n (WP.seq (WP.reg ?_))))))
  refine qA (.bool true) rfl rfl ?_
  refine WL.nil (thn_n (WP.ret ?_))
  refine ret_of results26 (RV.tmp (v := (.bool true)) rfl RV.nil) ?_
  exact ⟨rfl, h_2.chgS⟩
end Go.Proofs.YtbhllplbbkmndaaGreat

namespace Go.Proofs.YtbhllplbbkmndaaGreat
open Go.Vc Go.Orc Go.Sh Go.RowKit
set_option maxRecDepth 20000
theorem pl95 : ∀ fs, Tryz.prog.underlying 95 = some (.struct fs) → Places Tryz.prog fs [(0, 1)] := by
  intro fs h w; rw [Tryz.underlying95] at h; cases h; simp
theorem c_MNewG {w00 : World} {L : List Ent} (n : Nat) (h1 : 1 ≤ n) (h2 : n ≤ 100) (w : World) (h_0 : HP w00 w (L)) :
    Cs Tryz.prog 35 [(vi ((n : Nat) : Int))].toArray w (fun v w1 => ∃ bm ma, v = .tuple [.pointer (some ⟨bm, 0, none⟩), vi 0].toArray ∧ HP w00 w1 (Ent.blk bm .nw 112 [(1, [(.slice ma n n)])] :: Ent.row ma n n 76 128 ((List.replicate (128 * n) (0 : UInt8)).map vu8) :: L)) := by
  refine Cs.of (n := 14) (args := [(vi ((n : Nat) : Int))]) Tryz.func35 rfl rfl rfl ?_
  refine WP.seq ?_
  refine WP.reg ?_
  refine WL.q (Wn.no rfl) rfl rfl (R.assign (v := (.pointer none)) rfl) ?_
  refine WL.q (Wn.no rfl) rfl rfl (R.assign (v := (vi 0)) rfl) ?_
  refine WL.nil ?_
  refine thn_n ?_
  refine WP.seq ?_
  refine WP.seq ?_
  refine WP.reg ?_
  refine WL.q (Wn.no rfl) rfl rfl (R.move (v := (vi ((n : Nat) : Int))) rfl) ?_
  refine WL.q (Wn.no rfl) rfl rfl (R.bin (v := (.bool (decide ((((n : Nat) : Int) : Int) < 1)))) rfl rfl (bi_lss (r := decide ((((n : Nat) : Int) : Int) < 1)) rfl)) ?_
  refine WL.q (Wn.no rfl) rfl rfl (R.move (v := (.bool (decide ((((n : Nat) : Int) : Int) < 1)))) rfl) ?_
  refine WL.want rfl (congrArg Value.bool (decide_eq_false (by omega))) ?_
  refine WL.q (Wn.no rfl) rfl rfl (R.move (v := (vi ((n : Nat) : Int))) rfl) ?_
  refine WL.want rfl (congrArg Value.bool (decide_eq_false (by omega))) ?_
  refine WL.q (Wn.no rfl) rfl rfl (R.bin (v := (.bool (decide ((((n : Nat) : Int) : Int) > 4096)))) rfl rfl (bi_gtr (r := decide ((((n : Nat) : Int) : Int) > 4096)) rfl)) ?_
  refine WL.q (Wn.no rfl) rfl rfl (R.pickF (v := (.bool (decide ((((n : Nat) : Int) : Int) > 4096)))) (congrArg Value.bool (decide_eq_false (by omega))) rfl) ?_
  refine WL.nil ?_
  refine thn_n ?_
  refine WP.condF (congrArg Value.bool (decide_eq_false (by omega))) ?_
  refine WP.skip ?_
  refine thn_n ?_
  refine WP.seq ?_
  refine WP.reg ?_
  refine WL.q (Wn.no rfl) rfl rfl (R.move (v := (vi ((n : Nat) : Int))) rfl) ?_
  refine WL_makeSlA (m := n) (s := 128) (i := Tryz.t76) (z := vu8 0) h_0 rfl rfl Tryz.underlying25 rfl rfl rfl (by decide) rfl (by show 128 * _ ≤ _; omega) (by omega) rfl (fun b_1 w_2 h_3 => ?_)
  rw [zeros_mul] at h_3
  refine WL.q (Wn.no rfl) rfl rfl (R.buildS (pl := [(0, 1)]) (zs := [(1, [(.slice none 0 0)])]) (vs := [(0, (.slice (some ⟨b_1, 0, none⟩) n n))]) (out := [(1, [(.slice (some ⟨b_1, 0, none⟩) n n)])]) (cs := [(.slice (some ⟨b_1, 0, none⟩) n n)]) Tryz.underlying112 (zv Tryz.typeInfo112 rfl) rfl (SsOk.cons (SOk.v rfl) SsOk.nil) (pl112 _ Tryz.underlying112) rfl (FillR.cons [] [(1, [(.slice none 0 0)])] [(1, [(.slice (some ⟨b_1, 0, none⟩) n n)])] [] rfl rfl rfl rfl (SsOk.cons (SOk.v rfl) SsOk.nil) rfl rfl rfl FillR.nil) rfl) ?_
  refine WL.box (v := (.agg ⟨[(.slice (some ⟨b_1, 0, none⟩) n n)]⟩)) (segs := [(1, [(.slice (some ⟨b_1, 0, none⟩) n n)])]) h_3 rfl rfl (SsOk.cons (SOk.v rfl) SsOk.nil) rfl (fun b_5 w_6 h_7 => ?_)
  refine WL.q (Wn.no rfl) rfl rfl (R.assign (v := (.pointer (some ⟨b_5, 0, none⟩))) rfl) ?_
  refine WL.q (Wn.no rfl) rfl rfl (R.assign (v := (vi 0)) rfl) ?_
  refine WL.nil ?_
  refine thn_n ?_
  refine WP.ret ?_
  refine ret_of Tryz.results35 (RV.tmp (v := (.pointer (some ⟨b_5, 0, none⟩))) rfl (RV.tmp (v := (vi 0)) rfl RV.nil)) ?_
  have h_8 := h_7.up (Pick.t Pick.h)
  have h_9 := h_8.up (Pick.t Pick.h)
  exact ⟨_, _, rfl, h_9⟩

theorem c_KNew {w00 : World} {L : List Ent} (n : Nat) (h1 : 1 ≤ n) (h2 : n ≤ 100) (w : World) (h_0 : HP w00 w (L)) :
    Cs Tryz.prog 36 [(vi ((n : Nat) : Int))].toArray w (fun v w1 => ∃ bk ka, v = .pointer (some ⟨bk, 0, none⟩) ∧ HP w00 w1 (Ent.blk bk .nw 95 [(1, [(.slice ka (128 * n) (128 * n))])] :: Ent.row ka (128 * n) (128 * n) 5 1 ((List.replicate (128 * n) (0 : UInt8)).map vu8) :: L)) := by
  refine Cs.of (n := 8) (args := [(vi ((n : Nat) : Int))]) Tryz.func36 rfl rfl rfl ?_
  refine WP.seq ?_
  refine WP.reg ?_
  refine WL.q (Wn.no rfl) rfl rfl (R.assign (v := (.pointer none)) rfl) ?_
  refine WL.nil ?_
  refine thn_n ?_
  refine WP.seq ?_
  refine WP.reg ?_
  refine WL.q (Wn.no rfl) rfl rfl (R.move (v := (vi ((n : Nat) : Int))) rfl) ?_
  refine WL.q (Wn.no rfl) rfl rfl (R.bin (v := (vi ((128 * n : Nat) : Int))) rfl rfl (bi_mul (c := ((128 * n : Nat) : Int)) (by omega) (by omega))) ?_
  refine WL.makeSl (m := 128 * n) (i := Tryz.t5) (z := vu8 0) h_0 rfl rfl Tryz.underlying81 rfl rfl rfl rfl (by show 1 * _ ≤ _; omega) (by omega) rfl (fun b_1 w_2 h_3 => ?_)
  rw [show List.replicate (128 * n) (vu8 0) = (List.replicate (128 * n) (0 : UInt8)).map vu8 from (List.map_replicate ..).symm] at h_3
  refine WL.q (Wn.no rfl) rfl rfl (R.buildS (pl := [(0, 1)]) (zs := [(1, [(.slice none 0 0)])]) (vs := [(0, (.slice (some ⟨b_1, 0, none⟩) (128 * n) (128 * n)))]) (out := [(1, [(.slice (some ⟨b_1, 0, none⟩) (128 * n) (128 * n))])]) (cs := [(.slice (some ⟨b_1, 0, none⟩) (128 * n) (128 * n))]) Tryz.underlying95 (zv Tryz.typeInfo95 rfl) rfl (SsOk.cons (SOk.v rfl) SsOk.nil) (pl95 _ Tryz.underlying95) rfl (FillR.cons [] [(1, [(.slice none 0 0)])] [(1, [(.slice (some ⟨b_1, 0, none⟩) (128 * n) (128 * n))])] [] rfl rfl rfl rfl (SsOk.cons (SOk.v rfl) SsOk.nil) rfl rfl rfl FillR.nil) rfl) ?_
  refine WL.box (v := (.agg ⟨[(.slice (some ⟨b_1, 0, none⟩) (128 * n) (128 * n))]⟩)) (segs := [(1, [(.slice (some ⟨b_1, 0, none⟩) (128 * n) (128 * n))])]) h_3 rfl rfl (SsOk.cons (SOk.v rfl) SsOk.nil) rfl (fun b_6 w_7 h_8 => ?_)
  refine WL.q (Wn.no rfl) rfl rfl (R.assign (v := (.pointer (some ⟨b_6, 0, none⟩))) rfl) ?_
  refine WL.nil ?_
  refine thn_n ?_
  refine WP.ret ?_
  refine ret_of Tryz.results36 (RV.tmp (v := (.pointer (some ⟨b_6, 0, none⟩))) rfl RV.nil) ?_
  have h_9 := h_8.up (Pick.t Pick.h)
  have h_10 := h_9.up (Pick.t Pick.h)
  exact ⟨_, _, rfl, h_10⟩

theorem c_wrong (bm : Nat) (ma : Option Addr) (mn k : Nat) (hk : k < mn) (w : World) (hcm : (Ent.blk bm .ro 112 [(1, [(.slice ma mn mn)])]).ok w.heap.size w) :
    Cs Tryz.prog 61 [(.pointer (some ⟨bm, 0, none⟩)), (vi ((k : Nat) : Int))].toArray w (fun v w1 => v = (vi 0) ∧ Chg w w1 []) := by
  refine Cs.of (n := 21) (args := [(.pointer (some ⟨bm, 0, none⟩)), (vi ((k : Nat) : Int))]) Tryz.func61 rfl rfl rfl ?_
  have h_0 := HP.init w
  have h_00 := h_0.old hcm (fun f hf => by cases hf)
  refine WP.seq ?_
  refine WP.reg ?_
  refine WL.q (Wn.no rfl) rfl rfl (R.assign (v := (vi 0)) rfl) ?_
  refine WL.nil ?_
  refine thn_n ?_
  refine WP.seq ?_
  refine WP.block ?_
  refine WP.seq ?_
  refine WP.reg ?_
  refine WL.q (Wn.no rfl) rfl rfl (R.move (v := (.pointer (some ⟨bm, 0, none⟩))) rfl) ?_
  refine WL.call (al := [(.pointer (some ⟨bm, 0, none⟩))]) Tryz.call49 rfl rfl (c_gran bm ma mn _ (h_00.argR (.head _))) rfl ?_
  rintro _ w_2 ⟨rfl, hc_1⟩
  have h_3 := h_00.same hc_1
  refine WL.q (Wn.no rfl) rfl rfl (R.bin (v := (.bool (decide ((((mn : Nat) : Int) : Int) = 0)))) rfl rfl (bi_eql (r := decide ((((mn : Nat) : Int) : Int) = 0)) rfl)) ?_
  refine WL.q (Wn.no rfl) rfl rfl (R.assign (v := (.bool (decide ((((mn : Nat) : Int) : Int) = 0)))) rfl) ?_
  refine WL.nil ?_
  refine thn_n ?_
  refine WP.condF (congrArg Value.bool (decide_eq_false (by omega))) ?_
  refine WP.seq ?_
  refine WP.reg ?_
  refine WL.q (Wn.no rfl) rfl rfl (R.move (v := (vi ((k : Nat) : Int))) rfl) ?_
  refine WL.q (Wn.no rfl) rfl rfl (R.bin (v := (.bool (decide ((((k : Nat) : Int) : Int) < 0)))) rfl rfl (bi_lss (r := decide ((((k : Nat) : Int) : Int) < 0)) rfl)) ?_
  refine WL.q (Wn.no rfl) rfl rfl (R.move (v := (.bool (decide ((((k : Nat) : Int) : Int) < 0)))) rfl) ?_
  refine WL.want rfl (congrArg Value.bool (decide_eq_false (by omega))) ?_
  refine WL.q (Wn.no rfl) rfl rfl (R.move (v := (vi ((k : Nat) : Int))) rfl) ?_
  refine WL.want rfl (congrArg Value.bool (decide_eq_false (by omega))) ?_
  refine WL.q (Wn.no rfl) rfl rfl (R.move (v := (.pointer (some ⟨bm, 0, none⟩))) rfl) ?_
  refine WL.want rfl (congrArg Value.bool (decide_eq_false (by omega))) ?_
  refine WL.q (Wn.no rfl) rfl rfl (R.nilCheck rfl) ?_
  refine WL.want rfl (congrArg Value.bool (decide_eq_false (by omega))) ?_
  refine WL.q (Wn.no rfl) rfl rfl (R.fieldAddr (b := bm) (off := 0) (off' := 0) rfl Tryz.underlying112 rfl Tryz.sizeOf25 rfl rfl) ?_
  refine WL.want rfl (congrArg Value.bool (decide_eq_false (by omega))) ?_
  refine WL.q (Wn.no rfl) rfl rfl (R.load1 (b := bm) (off := 0) (v := (.slice ma mn mn)) rfl Tryz.isAgg25 (h_3.ok _ (.head _)) Sg.h) ?_
  refine WL.want rfl (congrArg Value.bool (decide_eq_false (by omega))) ?_
  refine WL.q (Wn.no rfl) rfl rfl (R.lenS (a := ma) (m := mn) rfl rfl Tryz.underlying25) ?_
  refine WL.want rfl (congrArg Value.bool (decide_eq_false (by omega))) ?_
  refine WL.q (Wn.no rfl) rfl rfl (R.bin (v := (.bool (decide ((((k : Nat) : Int) : Int) ≥ ((mn : Nat) : Int))))) rfl rfl (bi_geq (r := decide ((((k : Nat) : Int) : Int) ≥ ((mn : Nat) : Int))) rfl)) ?_
  refine WL.q (Wn.no rfl) rfl rfl (R.pickF (v := (.bool (decide ((((k : Nat) : Int) : Int) ≥ ((mn : Nat) : Int))))) (congrArg Value.bool (decide_eq_false (by omega))) rfl) ?_
  refine WL.q (Wn.no rfl) rfl rfl (R.assign (v := (.bool (decide ((((k : Nat) : Int) : Int) ≥ ((mn : Nat) : Int))))) rfl) ?_
  refine WL.nil ?_
  refine thn_n ?_
  refine WP.condF (congrArg Value.bool (decide_eq_false (by omega))) ?_
  refine WP.skip ?_
  refine inb_n ?_
  refine thn_n ?_
  refine WP.seq ?_
  refine WP.reg ?_
  refine WL.q (Wn.no rfl) rfl rfl (R.assign (v := (vi 0)) rfl) ?_
  refine WL.nil ?_
  refine thn_n ?_
  refine WP.ret ?_
  refine ret_of Tryz.results61 (RV.tmp (v := (vi 0)) rfl RV.nil) ?_
  exact ⟨rfl, h_3.chgS⟩

theorem c_MPut {w00 : World} {L : List Ent} (bm : Nat) (ma : Option Addr) (n g : Nat) (hg : g < n) (hn : n ≤ 100) (l c : List UInt8) (hl : l.length = 128 * n) (hc : c.length = 128) (w : World) (h_0 : HP w00 w (Ent.blk bm .nw 112 [(1, [(.slice ma n n)])] :: Ent.row ma n n 76 128 (l.map vu8) :: L)) :
    Cs Tryz.prog 37 [(.pointer (some ⟨bm, 0, none⟩)), (vi ((g : Nat) : Int)), (.agg ⟨c.map vu8⟩)].toArray w (fun v w1 => v = vi 0 ∧ HP w00 w1 (Ent.blk bm .nw 112 [(1, [(.slice ma n n)])] :: Ent.row ma n n 76 128 ((ovr l (g * 128) c).map vu8) :: L)) := by
  refine Cs.of (n := 21) (args := [(.pointer (some ⟨bm, 0, none⟩)), (vi ((g : Nat) : Int)), (.agg ⟨c.map vu8⟩)]) Tryz.func37 rfl rfl rfl ?_
  refine WP.seq ?_
  refine WP.reg ?_
  refine WL.box (v := (.agg ⟨c.map vu8⟩)) (segs := [(128, c.map vu8)]) h_0 rfl rfl (SsOk.cons (SOk.u8 hc) SsOk.nil) rfl (fun b_1 w_2 h_3 => ?_)
  refine WL.q (Wn.no rfl) rfl rfl (R.assign (v := (vi 0)) rfl) ?_
  refine WL.nil ?_
  refine thn_n ?_
  refine WP.seq ?_
  refine WP.seq ?_
  refine WP.reg ?_
  refine WL.q (Wn.no rfl) rfl rfl (R.move (v := (.pointer (some ⟨bm, 0, none⟩))) rfl) ?_
  refine WL.q (Wn.no rfl) rfl rfl (R.move (v := (vi ((g : Nat) : Int))) rfl) ?_
  refine WL.call (al := [(.pointer (some ⟨bm, 0, none⟩)), (vi ((g : Nat) : Int))]) Tryz.call61 rfl rfl (c_wrong bm ma n g (by omega) _ (h_3.argR (.tail _ (.head _)))) rfl ?_
  rintro _ w_5 ⟨rfl, hc_4⟩
  have h_6 := h_3.same hc_4
  refine WL.q (Wn.no rfl) rfl rfl (R.assign (v := (vi 0)) rfl) ?_
  refine WL.nil ?_
  refine thn_n ?_
  refine WP.seq ?_
  refine WP.reg ?_
  refine WL.q (Wn.no rfl) rfl rfl (R.move (v := (vi 0)) rfl) ?_
  refine WL.q (Wn.no rfl) rfl rfl (R.bin (v := (.bool false)) rfl rfl (bi_neq (r := false) (by decide))) ?_
  refine WL.nil ?_
  refine thn_n ?_
  refine WP.condF rfl ?_
  refine WP.skip ?_
  refine thn_n ?_
  refine WP.seq ?_
  refine WP.drawZ 7 (SL w00.heap.size [.blk b_1 .nw 76 [(128, c.map vu8)], .blk bm .nw 112 [(1, [(.slice ma n n)])], .row ma n n 76 128 (l.map vu8)]) (.q 0 (.q 1 (.q 2 (.q 3 (.q 4 (.q 5 (.q 6 (.s 7 .nil)))))))) (by kernel_rfl) (by kernel_rfl) rfl (by kernel_rfl) (fun w_7 hc_9 => (SL.cons ((h_6.same hc_9).ok _ (.head _)) (SL.cons ((h_6.same hc_9).ok _ (.tail _ (.head _))) (SL.cons ((h_6.same hc_9).ok _ (.tail _ (.tail _ (.head _)))) (SL.nil _ _))))) (fun w_7 hc_9 => ?_)
  have h_8 := h_6.same hc_9
  refine ZT.q rfl (Wn.no rfl) rfl rfl (fun wq hS => R.move (v := (.pointer (some ⟨bm, 0, none⟩))) rfl) ?_
  refine ZT.q rfl (Wn.no rfl) rfl rfl (fun wq hS => R.nilCheck rfl) ?_
  refine ZT.q rfl (Wn.no rfl) rfl rfl (fun wq hS => R.fieldAddr (b := bm) (off := 0) (off' := 0) rfl Tryz.underlying112 rfl Tryz.sizeOf25 rfl rfl) ?_
  refine ZT.q rfl (Wn.no rfl) rfl rfl (fun wq hS => R.load1 (b := bm) (off := 0) (v := (.slice ma n n)) rfl Tryz.isAgg25 (hS _ (.tail _ (.head _))) Sg.h) ?_
  refine ZT.q rfl (Wn.no rfl) rfl rfl (fun wq hS => R.move (v := (vi ((g : Nat) : Int))) rfl) ?_
  refine ZT.q rfl (Wn.no rfl) rfl rfl (fun wq hS => R.loadA (b := b_1) (off := 0) [] [(128, c.map vu8)] [] (cs := c.map vu8) rfl Tryz.isAgg76 Tryz.sizeOf76 (hS _ (.head _)) rfl rfl rfl rfl) ?_
  refine ZT.q rfl (Wn.no rfl) rfl rfl (fun wq hS => R.indexS (a := ma) (i := g) (off := g * 128) (xs := l.map vu8) rfl rfl rfl (by omega) (ownView (hS _ (.tail _ (.tail _ (.head _))))) (lt_len (K := 128 * n) (len_map hl) (by omega)) Tryz.underlying25 Tryz.sizeOf76 rfl) ?_
  refine ZT.s ?_
  refine OpZ.last rfl (Wn.no rfl) ?_
  refine WL.storeRA (a := ma) (i := g * 128) (ys := c.map vu8) (xs' := (ovr l (g * 128) c).map vu8) h_8 rfl rfl Tryz.sizeOf76 (len_map hc) (by decide) (one_u8 _) (At.t (At.t At.h)) (by rw [len_map hl]; omega) (ovr_map hc) (fun w_10 h_11 => ?_)
  refine WL.nil ?_
  refine ZT.nil ?_
  refine thn_n ?_
  refine WP.seq ?_
  refine WP.reg ?_
  refine WL.q (Wn.no rfl) rfl rfl (R.assign (v := (vi 0)) rfl) ?_
  refine WL.nil ?_
  refine thn_n ?_
  refine WP.ret ?_
  refine ret_of Tryz.results37 (RV.tmp (v := (vi 0)) rfl RV.nil) ?_
  have h_12 := h_11.drop rfl
  have h_13 := h_12.up (Pick.t Pick.h)
  have h_14 := h_13.up (Pick.t Pick.h)
  exact ⟨rfl, h_14⟩

theorem c_KPut {w00 : World} {L : List Ent} (bk : Nat) (ka : Option Addr) (n g : Nat) (hg : g < n) (hn : n ≤ 100) (l c : List UInt8) (hl : l.length = 128 * n) (hc : c.length = 128) (w : World) (h_0 : HP w00 w (Ent.blk bk .nw 95 [(1, [(.slice ka (128 * n) (128 * n))])] :: Ent.row ka (128 * n) (128 * n) 5 1 (l.map vu8) :: L)) :
    Cs Tryz.prog 38 [(.pointer (some ⟨bk, 0, none⟩)), (vi ((g : Nat) : Int)), (.agg ⟨c.map vu8⟩)].toArray w (fun v w1 => v = .tuple [].toArray ∧ HP w00 w1 (Ent.blk bk .nw 95 [(1, [(.slice ka (128 * n) (128 * n))])] :: Ent.row ka (128 * n) (128 * n) 5 1 ((ovr l (g * 128) c).map vu8) :: L)) := by
  refine Cs.of (n := 15) (args := [(.pointer (some ⟨bk, 0, none⟩)), (vi ((g : Nat) : Int)), (.agg ⟨c.map vu8⟩)]) Tryz.func38 rfl rfl rfl ?_
  refine WP.seq ?_
  refine WP.reg ?_
  refine WL.box (v := (.agg ⟨c.map vu8⟩)) (segs := [(128, c.map vu8)]) h_0 rfl rfl (SsOk.cons (SOk.u8 hc) SsOk.nil) rfl (fun b_1 w_2 h_3 => ?_)
  refine WL.nil ?_
  refine thn_n ?_
  refine WP.drawT (SL w00.heap.size [.blk b_1 .nw 76 [(128, c.map vu8)], .blk bk .nw 95 [(1, [(.slice ka (128 * n) (128 * n))])]]) (.q 0 (.q 1 (.q 2 (.q 3 (.q 4 (.q 5 (.q 6 (.q 7 (.s 8 .nil))))))))) (by kernel_rfl) (by kernel_rfl) rfl (by kernel_rfl) (fun w_4 hc_6 => (SL.cons ((h_3.same hc_6).ok _ (.head _)) (SL.cons ((h_3.same hc_6).ok _ (.tail _ (.head _))) (SL.nil _ _)))) (fun w_4 hc_6 => ?_)
  have h_5 := h_3.same hc_6
  refine WT.q rfl (Wn.no rfl) rfl rfl (fun wq hS => R.move (v := (.pointer (some ⟨bk, 0, none⟩))) rfl) ?_
  refine WT.q rfl (Wn.no rfl) rfl rfl (fun wq hS => R.nilCheck rfl) ?_
  refine WT.q rfl (Wn.no rfl) rfl rfl (fun wq hS => R.fieldAddr (b := bk) (off := 0) (off' := 0) rfl Tryz.underlying95 rfl Tryz.sizeOf81 rfl rfl) ?_
  refine WT.q rfl (Wn.no rfl) rfl rfl (fun wq hS => R.load1 (b := bk) (off := 0) (v := (.slice ka (128 * n) (128 * n))) rfl Tryz.isAgg81 (hS _ (.tail _ (.head _))) Sg.h) ?_
  refine WT.q rfl (Wn.no rfl) rfl rfl (fun wq hS => R.move (v := (vi ((g : Nat) : Int))) rfl) ?_
  refine WT.q rfl (Wn.no rfl) rfl rfl (fun wq hS => R.bin (v := (vi ((128 * g : Nat) : Int))) rfl rfl (bi_mul (c := ((128 * g : Nat) : Int)) (by omega) (by omega))) ?_
  refine WT.q rfl (Wn.no rfl) rfl rfl (fun wq hS => R.sliceS (a := ka) (len := (128 * n)) (l := 128 * g) (h := (128 * n)) rfl (EvB.it (l := 128 * g) rfl rfl) EvB.dflt (by omega) (by omega) Tryz.underlying81 Tryz.sizeOf5) ?_
  refine WT.q rfl (Wn.no rfl) rfl rfl (fun wq hS => R.sliceA (b := b_1) (off := 0) (off' := 0) (l := 0) (h := 128) rfl EvB.dflt EvB.dflt (by decide) (by decide) Tryz.underlying76 Tryz.sizeOf5 rfl) ?_
  refine WT.s ?_
  refine Op1.one rfl (Wn.no rfl) ?_
  refine WL.copyR (q := 128) (i := 128 * g) (ys := c.map vu8) (xs' := (ovr l (128 * g) c).map vu8) h_5 rfl rfl Tryz.underlying81 Tryz.sizeOf5 (viewB (h_5.ok _ (.head _)) Sg.h) (len_map hc) (one_u8 _) (At.t (At.t At.h)) (slA_at (by omega)) (Nat.min_eq_left (by omega)) (by omega) (by rw [len_map hl]; omega) (ovr_mapQ hc) rfl (fun w_7 h_8 => ?_)
  refine WL.nil ?_
  refine ⟨(SL.cons (h_8.ok _ (.head _)) (SL.cons (h_8.ok _ (.tail _ (.head _))) (SL.nil _ _))), ?_⟩
  refine WT.nil ?_
  refine ret_n ?_
  refine ret_of Tryz.results38 RV.nil ?_
  have h_9 := h_8.drop rfl
  have h_10 := h_9.up (Pick.t Pick.h)
  have h_11 := h_10.up (Pick.t Pick.h)
  rw [Nat.mul_comm 128 g] at h_11
  exact ⟨rfl, h_11⟩
end Go.Proofs.YtbhllplbbkmndaaGreat

namespace Go.Proofs.YtbhllplbbkmndaaGreat
open Go.Proofs.Tryz
open Go.Vc Go.Orc Go.Sh Go.RowKit
set_option maxRecDepth 20000

theorem c_Of (a : Nat) (ha : a < 1099511627776) (w : World) :
  Cs Tryz.prog 68 [(vu64 (UInt64.ofNat a))].toArray w (fun v w1 => v = (.tuple [(vi ((a / 128 : Nat) : Int)), (vi ((a % 128 : Nat) : Int))].toArray) ∧ Chg w w1 []) := by
 refine Cs.of (n := 10) (args := [(vu64 (UInt64.ofNat a))]) Tryz.func68 rfl rfl rfl ?_
 have h_0 := HP.init w
 refine WP.seq (WP.reg ?_)
 refine qA (vi 0) rfl rfl (qA (vi 0) rfl rfl ?_)
 refine WL.nil (thn_n (WP.seq (WP.reg ?_)))
 refine qM (vu64 (UInt64.ofNat a)) rfl rfl (qV rfl (R.binR (v := vu64 (shr64 (UInt64.ofNat a) 7)) rfl rfl (run_shr64 _ _ _ (UInt64.ofNat a) _ 7)) (qV rfl (R.conv (b := u2i (shr64 (UInt64.ofNat a) 7)) rfl underlying26 underlying3 (wi64_u (shr64 (UInt64.ofNat a) 7))) (qM (vu64 (UInt64.ofNat a)) rfl rfl (qV rfl (R.bin rfl rfl (b64_and (UInt64.ofNat a) 127)) (qV rfl (R.conv (b := u2i ((UInt64.ofNat a) &&& 127)) rfl underlying26 underlying3 (wi64_u ((UInt64.ofNat a) &&& 127))) (qA (vi (u2i (shr64 (UInt64.ofNat a) 7))) rfl rfl (qA (vi (u2i ((UInt64.ofNat a) &&& 127))) rfl rfl ?_)))))))
 refine WL.nil (thn_n (WP.ret ?_))
 refine ret_of results68 (RV.tmp (v := (vi (u2i (shr64 (UInt64.ofNat a) 7)))) rfl (RV.tmp (v := (vi (u2i ((UInt64.ofNat a) &&& 127)))) rfl RV.nil)) ?_
 exact ⟨by rw [of_gi ha, of_ai ha]; rfl, h_0.chgS⟩

theorem c_place (p i : Nat) (w : World) :
  Cs Tryz.prog 48 [(vu64 (UInt64.ofNat p)), (vi ((i : Nat) : Int))].toArray w (fun v w1 => v = (vu64 (UInt64.ofNat (p + 32 * i))) ∧ Chg w w1 []) := by
 refine Cs.of (n := 10) (args := [(vu64 (UInt64.ofNat p)), (vn i)]) Tryz.func48 rfl rfl rfl ?_
 have h_0 := HP.init w
 refine WP.seq (WP.reg ?_)
 refine qA (vu64 0) rfl rfl ?_
 refine WL.nil (thn_n (WP.seq (WP.reg ?_)))
 refine qM (vu64 (UInt64.ofNat p)) rfl rfl (qM (vn i) rfl rfl (qV rfl (R.conv (b := ((UInt64.ofNat i) : UInt64).toNat) rfl underlying3 underlying26 (w64_nat i)) (qV rfl (R.bin rfl rfl (b64_mul 32 (UInt64.ofNat i))) (qV rfl (R.bin rfl rfl (b64_add (UInt64.ofNat p) ((32 : UInt64) * (UInt64.ofNat i)))) (qA (vu64 ((UInt64.ofNat p) + ((32 : UInt64) * (UInt64.ofNat i)))) rfl rfl ?_)))))
 refine WL.nil (thn_n (WP.ret ?_))
 refine ret_of results48 (RV.tmp (v := (vu64 ((UInt64.ofNat p) + ((32 : UInt64) * (UInt64.ofNat i))))) rfl RV.nil) ?_
 exact ⟨congrArg vu64 place_of, h_0.chgS⟩

theorem c_mwin (bm : Nat) (ma : Option Addr) (mn : Nat) (a k : Nat) (h : a + k ≤ 128 * mn) (hm : mn ≤ 100) (w : World) (hcm : (Ent.blk bm .ro 112 [(1, [(.slice ma mn mn)])]).ok w.heap.size w) :
  Cs Tryz.prog 67 [(.pointer (some ⟨bm, 0, none⟩)), (vu64 (UInt64.ofNat a)), (vi ((k : Nat) : Int))].toArray w (fun v w1 => v = (.bool true) ∧ Chg w w1 []) := by
 refine Cs.of (n := 28) (args := [(pO bm 0), (vu64 (UInt64.ofNat a)), (vn k)]) Tryz.func67 rfl rfl rfl ?_
 have h_0 := HP.init w
 have h_00 := h_0.old hcm (fun f hf => by cases hf)
 refine WP.seq (WP.reg ?_)
 refine qA (.bool false) rfl rfl ?_
 refine WL.nil (thn_n (WP.seq (WP.reg ?_)))
 refine qM (pO bm 0) rfl rfl ?_
 refine WL.call Tryz.call49 rfl rfl (c_gran bm ma mn _ (h_00.argR M0)) rfl ?_
 rintro _ w_2 ⟨rfl, hc_1⟩
 have h_3 := h_00.same hc_1
 refine qV rfl (R.conv (b := ((UInt64.ofNat mn) : UInt64).toNat) rfl underlying3 underlying26 (w64_nat mn)) (qV rfl (R.bin rfl rfl (b64_mul (UInt64.ofNat mn) 128)) (qA (vu64 ((UInt64.ofNat mn) * 128)) rfl rfl ?_))
 refine WL.nil (thn_n (WP.seq (WP.reg ?_)))
 refine qM (vn k) rfl rfl (qV rfl (R.bin rfl rfl (bi_eql (r := decide ((((k : Nat) : Int) : Int) = 0)) rfl)) (qM (.bool (decide ((((k : Nat) : Int) : Int) = 0))) rfl rfl ?_))
 rcases Bool.eq_false_or_eq_true (decide ((((k : Nat) : Int) : Int) = 0)) with c_4 | c_4
 ·have p_5 := of_decide_eq_true c_4
  refine WL.skip rfl (congrArg Value.bool c_4) rfl ?_
  refine WL.skip rfl (congrArg Value.bool c_4) rfl ?_
  refine WL.skip rfl (congrArg Value.bool c_4) rfl ?_
  refine WL.skip rfl (congrArg Value.bool c_4) rfl ?_
  refine WL.skip rfl (congrArg Value.bool c_4) rfl ?_
  refine WL.skipU rfl rfl rfl ?_
  refine WL.skipU rfl rfl rfl ?_
  refine WL.skipU rfl rfl rfl ?_
  refine WL.skipU rfl rfl rfl ?_
  refine WL.skipU rfl rfl rfl ?_
  refine WL.skipU rfl rfl rfl ?_
  refine WL.skip rfl (congrArg Value.bool c_4) rfl ?_
  refine qV rfl (R.pickT (v := (.bool true)) (congrArg Value.bool c_4) rfl) (qA (.bool true) rfl rfl ?_)
  refine WL.nil (thn_n (WP.ret ?_))
  refine ret_of results67 (RV.tmp (v := (.bool true)) rfl RV.nil) ?_
  exact ⟨rfl, h_3.chgS⟩
 ·have p_6 := of_decide_eq_false c_4
  refine WL.want rfl (congrArg Value.bool c_4) ?_
  refine qM (vn k) rfl rfl ?_
  refine WL.want rfl (congrArg Value.bool c_4) ?_
  refine qV rfl (R.conv (b := ((UInt64.ofNat k) : UInt64).toNat) rfl underlying3 underlying26 (w64_nat k)) ?_
  refine WL.want rfl (congrArg Value.bool c_4) ?_
  refine qM (vu64 ((UInt64.ofNat mn) * 128)) rfl rfl ?_
  refine WL.want rfl (congrArg Value.bool c_4) ?_
  refine qV rfl (R.bin (v := (.bool (decide ((UInt64.ofNat k : UInt64) ≤ ((UInt64.ofNat mn) * 128))))) rfl rfl (b64_leq (UInt64.ofNat k) ((UInt64.ofNat mn) * 128) (r := decide ((UInt64.ofNat k : UInt64) ≤ ((UInt64.ofNat mn) * 128))) rfl)) ?_
  refine WL.want rfl (congrArg Value.bool c_4) ?_
  refine qM (.bool (decide ((UInt64.ofNat k : UInt64) ≤ ((UInt64.ofNat mn) * 128)))) rfl rfl ?_
  refine WL.want rfl (congrArg Value.bool (decide_eq_true (wi_1 h hm))) ?_
  refine qM (vu64 (UInt64.ofNat a)) rfl rfl ?_
  refine WL.want rfl (congrArg Value.bool (decide_eq_true (wi_1 h hm))) ?_
  refine qM (vu64 ((UInt64.ofNat mn) * 128)) rfl rfl ?_
  refine WL.want rfl (congrArg Value.bool (decide_eq_true (wi_1 h hm))) ?_
  refine qM (vn k) rfl rfl ?_
  refine WL.want rfl (congrArg Value.bool (decide_eq_true (wi_1 h hm))) ?_
  refine qV rfl (R.conv (b := ((UInt64.ofNat k) : UInt64).toNat) rfl underlying3 underlying26 (w64_nat k)) ?_
  refine WL.want rfl (congrArg Value.bool (decide_eq_true (wi_1 h hm))) ?_
  refine qV rfl (R.bin rfl rfl (b64_sub ((UInt64.ofNat mn) * 128) (UInt64.ofNat k))) ?_
  refine WL.want rfl (congrArg Value.bool (decide_eq_true (wi_1 h hm))) ?_
  refine qV rfl (R.bin (v := (.bool (decide ((UInt64.ofNat a : UInt64) ≤ (((UInt64.ofNat mn) * 128) - (UInt64.ofNat k)))))) rfl rfl (b64_leq (UInt64.ofNat a) (((UInt64.ofNat mn) * 128) - (UInt64.ofNat k)) (r := decide ((UInt64.ofNat a : UInt64) ≤ (((UInt64.ofNat mn) * 128) - (UInt64.ofNat k)))) rfl)) ?_
  refine WL.want rfl (congrArg Value.bool c_4) ?_
  refine qV rfl (R.pickT (v := (.bool (decide ((UInt64.ofNat a : UInt64) ≤ (((UInt64.ofNat mn) * 128) - (UInt64.ofNat k)))))) (congrArg Value.bool (decide_eq_true (wi_1 h hm))) rfl) (qV rfl (R.pickF (v := (.bool (decide ((UInt64.ofNat a : UInt64) ≤ (((UInt64.ofNat mn) * 128) - (UInt64.ofNat k)))))) (congrArg Value.bool c_4) rfl) (qA (.bool (decide ((UInt64.ofNat a : UInt64) ≤ (((UInt64.ofNat mn) * 128) - (UInt64.ofNat k))))) rfl rfl ?_))
  refine WL.nil (thn_n (WP.ret ?_))
  refine ret_of results67 (RV.tmp (v := (.bool (decide ((UInt64.ofNat a : UInt64) ≤ (((UInt64.ofNat mn) * 128) - (UInt64.ofNat k)))))) rfl RV.nil) ?_
  exact ⟨congrArg Value.bool (decide_eq_true (wi_2 h hm)), h_3.chgS⟩

theorem c_Read (bm : Nat) (ma : Option Addr) (mn : Nat) (a k : Nat) (h : a + k ≤ 128 * mn) (hm : mn ≤ 100) (hm1 : 1 ≤ mn) (l : List UInt8) (hl : l.length = 128 * mn) (w : World) (hcm : (Ent.blk bm .ro 112 [(1, [(.slice ma mn mn)])]).ok w.heap.size w) (hv : View w ma (l.map vu8)) :
  Cs Tryz.prog 51 [(.pointer (some ⟨bm, 0, none⟩)), (vu64 (UInt64.ofNat a)), (vi ((k : Nat) : Int))].toArray w (fun v w1 => ∃ a2 cap, v = .tuple [.slice a2 k cap, vi 0].toArray ∧ Chg w w1 [] ∧ Own w.heap.size w1 5 1 a2 k cap (((l.drop a).take k).map vu8)) := by
 refine Cs.of (n := 55) (args := [(pO bm 0), (vu64 (UInt64.ofNat a)), (vn k)]) Tryz.func51 rfl rfl rfl ?_
 have h_0 := HP.init w
 have h_01 := h_0.oldV (View.arg hv) rfl (by simp [Ent.mut])
 have h_00 := h_01.oldV hcm rfl (by simp [Ent.mut])
 refine WP.seq (WP.reg ?_)
 refine qA (.slice none 0 0) rfl rfl (qA (vi 0) rfl rfl ?_)
 refine WL.nil (thn_n (WP.seq (WP.block (WP.seq (WP.reg ?_)))))
 refine qM (pO bm 0) rfl rfl ?_
 refine WL.call Tryz.call49 rfl rfl (c_gran bm ma mn _ (h_00.argR M0)) rfl ?_
 rintro _ w_2 ⟨rfl, hc_1⟩
 have h_3 := h_00.same hc_1
 refine qV rfl (R.bin rfl rfl (bi_eql (r := decide ((((mn : Nat) : Int) : Int) = 0)) rfl)) (qA (.bool (decide ((((mn : Nat) : Int) : Int) = 0))) rfl rfl ?_)
 refine WL.nil (thn_n ?_)
 refine WP.condF (congrArg Value.bool (decide_eq_false (by omega))) ?_
 refine WP.seq (WP.reg ?_)
 refine qM (vn k) rfl rfl (qV rfl (R.bin rfl rfl (bi_lss (r := decide ((((k : Nat) : Int) : Int) < 0)) rfl)) (qA (.bool (decide ((((k : Nat) : Int) : Int) < 0))) rfl rfl ?_))
 refine WL.nil (thn_n ?_)
 refine WP.condF (congrArg Value.bool (decide_eq_false (by omega))) ?_
 refine WP.seq (WP.reg ?_)
 refine qM (pO bm 0) rfl rfl (qM (vu64 (UInt64.ofNat a)) rfl rfl (qM (vn k) rfl rfl ?_))
 refine WL.call Tryz.call67 rfl rfl (c_mwin bm ma mn a k (by omega) (by omega) _ (h_3.argR M0)) rfl ?_
 rintro _ w_5 ⟨rfl, hc_4⟩
 have h_6 := h_3.same hc_4
 refine qV rfl (R.not (b := true) rfl) (qA (.bool false) rfl rfl ?_)
 refine WL.nil (thn_n ?_)
 refine WP.condF rfl ?_
 refine WP.skip (inb_n (thn_n (WP.seq (WP.reg ?_))))
 refine qA (.slice none 0 0) rfl rfl ?_
 refine WL.nil (thn_n (WP.seq (WP.block ?_)))
 have h_7 := h_6.rowNil 5 1
 refine WP.loopG (G := Nat × Option Addr × Nat) [8, 9, 10, 24, 25, 26, 27, 28, 29, 30, 31, 32, 33, 34, 35, 36, 37, 38, 39, 40, 41, 42, 43, 44, 45, 46, 47, 48, 49, 50, 51, 52, 53] (fun (j, ra, rc) => [(8, (.slice ra j rc))]) (fun (j, ra, rc) m w1 => HP w w1 [.row ra j rc 5 1 (((l.drop a).take j).map vu8), .blk bm .ro 112 [(1, [(.slice ma mn mn)])], .view ma (l.map vu8)] ∧ (j ≤ k) ∧ m = k - j) ⟨(0, none, 0), _, ⟨rfl, trivial⟩, h_7, Nat.zero_le _, rfl⟩ ?_
 rintro ⟨j, ra, rc⟩ m_10 J_11 w_8 ⟨h_9, hj, rfl⟩
 refine WP.seq (WP.seq (WP.reg ?_))
 refine qM (.slice ra j rc) rfl rfl (qV rfl (R.lenS (a := ra) (m := j) rfl rfl underlying81) (qM (vn k) rfl rfl (qV rfl (R.bin rfl rfl (bi_lss (r := decide ((((j : Nat) : Int) : Int) < ((k : Nat) : Int))) rfl)) ?_)))
 refine WL.nil (thn_n ?_)
 refine WP.cond (b := decide ((((j : Nat) : Int) : Int) < ((k : Nat) : Int))) rfl (fun c_12 => ?_) (fun c_12 => ?_)
 ·have p_13 := of_decide_eq_true c_12
  refine WP.skip (thn_n (WP.block (WP.seq (WP.reg ?_))))
  refine qM (vu64 (UInt64.ofNat a)) rfl rfl (qM (.slice ra j rc) rfl rfl (qV rfl (R.lenS (a := ra) (m := j) rfl rfl underlying81) (qV rfl (R.conv (b := ((UInt64.ofNat j) : UInt64).toNat) rfl underlying3 underlying26 (w64_nat j)) (qV rfl (R.bin rfl rfl (b64_add (UInt64.ofNat a) (UInt64.ofNat j))) ?_))))
  refine WL.call Tryz.call68 rfl rfl ((show ∀ w, Cs Tryz.prog 68 [vu64 ((UInt64.ofNat a) + (UInt64.ofNat j))].toArray w _ from fun w => by rw [add_of]; exact c_Of (a + j) (by omega) w)  _ ) rfl ?_
  rintro _ w_15 ⟨rfl, hc_14⟩
  have h_16 := h_9.same hc_14
  refine qM (.tuple [(vn ((a + j) / 128)), (vn ((a + j) % 128))].toArray) rfl rfl (qV rfl (R.extract rfl rfl) (qV rfl (R.extract rfl rfl) (qA (vn ((a + j) / 128)) rfl rfl (qA (vn ((a + j) % 128)) rfl rfl ?_))))
  refine WL.nil (thn_n (WP.reg ?_))
  refine qM (.slice ra j rc) rfl rfl (qM (pO bm 0) rfl rfl (qV rfl (R.nilCheck rfl) (qV rfl (R.fieldAddr (off' := 0) rfl underlying112 rfl sizeOf25 rfl rfl) (qV rfl (R.load1 rfl isAgg25 (h_16.ok _ M1) Sg.h) (qM (vn ((a + j) / 128)) rfl rfl (qV rfl (R.indexS (a := ma) (i := (a + j) / 128) (off := ((a + j) / 128) * 128) (xs := l.map vu8) rfl rfl rfl (by omega) (viewV (h_16.ok _ M2)) (lt_len (K := 128 * mn) (len_map hl) (by omega)) underlying25 sizeOf76 rfl) (qM (vn ((a + j) % 128)) rfl rfl (qM (vn ((a + j) % 128)) rfl rfl (qM (vn k) rfl rfl (qV rfl (R.bin rfl rfl (bi_add (c := (((a + j) % 128 + k : Nat) : Int)) (by omega) (by omega))) (qM (.slice ra j rc) rfl rfl ?_)))))))))))
  refine qV rfl (R.lenS (a := ra) (m := j) rfl rfl underlying81) (qV rfl (R.bin rfl rfl (bi_sub (c := (((a + j) % 128 + k - j : Nat) : Int)) (by omega) (by omega))) (qV rfl (R.minI (c := ((min 128 ((a + j) % 128 + k - j) : Nat) : Int)) rfl rfl (by split <;> omega)) (qV rfl (R.sliceG (l := (a + j) % 128) (h := min 128 ((a + j) % 128 + k - j)) rfl (EvB.it (l := (a + j) % 128) rfl rfl) (EvB.it (l := min 128 ((a + j) % 128 + k - j)) rfl rfl) (by omega) (by omega) (by omega) underlying76 sizeOf5) ?_)))
  refine WL.append (km := j + (min 128 ((a + j) % 128 + k - j) - ((a + j) % 128))) (xs := ((l.drop a).take j).map vu8) (ys := ((l.drop (((a + j) / 128) * 128 + (a + j) % 128)).take (min 128 ((a + j) % 128 + k - j) - ((a + j) % 128))).map vu8) (zs := (((l.drop a).take j) ++ ((l.drop (((a + j) / 128) * 128 + (a + j) % 128)).take (min 128 ((a + j) % 128 + k - j) - ((a + j) % 128)))).map vu8) h_16 rfl rfl el81 (show View _ (some ((gA ma (((a + j) / 128) * 128)).add ((a + j) % 128))) (((l.drop (((a + j) / 128) * 128 + (a + j) % 128)).take (min 128 ((a + j) % 128 + k - j) - ((a + j) % 128))).map vu8) from by rw [gA_add, List.map_take, List.map_drop]; exact View.gA (viewV (h_16.ok _ M2)) _ _) ((len_map (subLen (K := 128 * mn) hl (by omega) : List.length ((l.drop (((a + j) / 128) * 128 + (a + j) % 128)).take (min 128 ((a + j) % 128 + k - j) - ((a + j) % 128))) = (min 128 ((a + j) % 128 + k - j) - ((a + j) % 128)))).trans (Nat.mul_one _).symm) (one_u8 _) (by simp only [List.map_append, List.map_nil]) (by omega) (by omega) (by omega) (fun _ _ => At.h) rfl (fun a_17 c_18 w_19 h_20 => ?_)
  refine qA (.slice a_17 (j + (min 128 ((a + j) % 128 + k - j) - ((a + j) % 128))) c_18) rfl rfl ?_
  refine WL.nil (inb_n (thn_n ?_))
  have h_23 := ((h_20.up J2).up J2).up J2
  rw [rd_step (by omega)] at h_23
  exact ⟨(j + (min 128 ((a + j) % 128 + k - j) - ((a + j) % 128)), a_17, c_18), _, (by omega), (Ag.upd rfl (U4 rfl rfl rfl rfl (U4 rfl rfl rfl rfl (U4 rfl rfl rfl rfl (U4 rfl rfl rfl rfl (U4 rfl rfl rfl rfl (U4 rfl rfl rfl rfl (U4 rfl rfl rfl rfl (U4 rfl rfl rfl rfl (Ag.updL rfl (Ag.mix _ _ _))))))))))), ⟨rfl, trivial⟩, h_23, (by omega), rfl⟩
 ·have p_24 := of_decide_eq_false c_12
  refine WP.exit (thn_x (thn_x (inb_hit (thn_n (WP.seq (WP.reg ?_))))))
  refine qM (.slice ra j rc) rfl rfl (qA (.slice ra j rc) rfl rfl (qA (vi 0) rfl rfl ?_))
  refine WL.nil (thn_n (WP.ret ?_))
  refine ret_of results51 (RV.tmp (v := (.slice ra j rc)) rfl (RV.tmp (v := (vi 0)) rfl RV.nil)) ?_
  have hjk : j = k := by omega
  subst hjk
  exact ⟨_, _, rfl, h_9.chgS, h_9.ok _ M0⟩

theorem c_MWrite {w00 : World} {L : List Ent} (bm : Nat) (ma : Option Addr) (mn : Nat) (a : Nat) (h : a + 32 ≤ 128 * mn) (ha : a % 32 = 0) (hm : mn ≤ 100) (hm1 : 1 ≤ mn) (l c : List UInt8) (hl : l.length = 128 * mn) (hc : c.length = 32) (qa : Option Addr) (qc : Nat) (hqc : 32 ≤ qc) (w : World) (h_0 : HP w00 w (Ent.blk bm .nw 112 [(1, [(.slice ma mn mn)])] :: Ent.row ma mn mn 76 128 (l.map vu8) :: Ent.view qa (c.map vu8) :: L)) :
  Cs Tryz.prog 47 [(.pointer (some ⟨bm, 0, none⟩)), (vu64 (UInt64.ofNat a)), (.slice qa 32 qc)].toArray w (fun v w1 => v = vi 0 ∧ HP w00 w1 (Ent.blk bm .nw 112 [(1, [(.slice ma mn mn)])] :: Ent.row ma mn mn 76 128 ((ovr l a c).map vu8) :: Ent.view qa (c.map vu8) :: L)) := by
 refine Cs.of (n := 47) (args := [(pO bm 0), (vu64 (UInt64.ofNat a)), (.slice qa 32 qc)]) Tryz.func47 rfl rfl rfl ?_
 refine WP.seq (WP.reg ?_)
 refine qA (vi 0) rfl rfl ?_
 refine WL.nil (thn_n (WP.seq (WP.block (WP.seq (WP.reg ?_)))))
 refine qM (pO bm 0) rfl rfl ?_
 refine WL.call Tryz.call49 rfl rfl (c_gran bm ma mn _ (h_0.argR M0)) rfl ?_
 rintro _ w_2 ⟨rfl, hc_1⟩
 have h_3 := h_0.same hc_1
 refine qV rfl (R.bin rfl rfl (bi_eql (r := decide ((((mn : Nat) : Int) : Int) = 0)) rfl)) (qA (.bool (decide ((((mn : Nat) : Int) : Int) = 0))) rfl rfl ?_)
 refine WL.nil (thn_n ?_)
 refine WP.condF (congrArg Value.bool (decide_eq_false (by omega))) ?_
 refine WP.seq (WP.reg ?_)
 refine qM (pO bm 0) rfl rfl (qM (vu64 (UInt64.ofNat a)) rfl rfl (qM (.slice qa 32 qc) rfl rfl (qV rfl (R.lenS (a := qa) (m := 32) rfl rfl underlying81) ?_)))
 refine WL.call Tryz.call67 rfl rfl (c_mwin bm ma mn a 32 (by omega) (by omega) _ (h_3.argR M0)) rfl ?_
 rintro _ w_5 ⟨rfl, hc_4⟩
 have h_6 := h_3.same hc_4
 refine qV rfl (R.not (b := true) rfl) (qA (.bool false) rfl rfl ?_)
 refine WL.nil (thn_n ?_)
 refine WP.condF rfl ?_
 refine WP.skip (inb_n (thn_n (WP.seq (WP.seq (WP.reg ?_)))))
 refine qA (vi 0) rfl rfl ?_
 refine WL.nil (thn_n (WP.block ?_))
 refine WP.loopU (WI.round ?_)
 refine WP.seq (WP.seq (WP.reg ?_))
 refine qM (vi 0) rfl rfl (qM (.slice qa 32 qc) rfl rfl (qV rfl (R.lenS (a := qa) (m := 32) rfl rfl underlying81) (qV rfl (R.bin rfl rfl (bi_lss (r := true) (by decide))) ?_)))
 refine WL.nil (thn_n ?_)
 refine WP.condT rfl ?_
 refine WP.skip (thn_n (WP.block (WP.seq (WP.reg ?_))))
 refine qM (vu64 (UInt64.ofNat a)) rfl rfl (qM (vi 0) rfl rfl (qV rfl (R.conv (b := (0 : UInt64).toNat) rfl underlying3 underlying26 (by decide)) (qV rfl (R.bin rfl rfl (b64_add (UInt64.ofNat a) 0)) ?_)))
 refine WL.call Tryz.call68 rfl rfl ((show ∀ w, Cs Tryz.prog 68 [vu64 ((UInt64.ofNat a) + 0)].toArray w _ from fun w => by rw [UInt64.add_zero]; exact c_Of a (by omega) w)  _ ) rfl ?_
 rintro _ w_8 ⟨rfl, hc_7⟩
 have h_9 := h_6.same hc_7
 refine qM (.tuple [(vn (a / 128)), (vn (a % 128))].toArray) rfl rfl (qV rfl (R.extract rfl rfl) (qV rfl (R.extract rfl rfl) (qA (vn (a / 128)) rfl rfl (qA (vn (a % 128)) rfl rfl ?_))))
 refine WL.nil (thn_n ?_)
 refine WP.drawT (SL w00.heap.size [.blk bm .nw 112 [(1, [(.slice ma mn mn)])], .view qa (c.map vu8)]) (.q 0 (.q 1 (.q 2 (.q 3 (.q 4 (.q 5 (.q 7 (.q 9 (.q 10 (.q 11 (.s 6 (.s 8 (.s 12 (.q 13 (.q 14 .nil))))))))))))))) (by kernel_rfl) (by kernel_rfl) rfl (by kernel_rfl) (fun w_10 hc_12 => (SL.cons ((h_9.same hc_12).ok _ M0) (SL.cons ((h_9.same hc_12).ok _ M2) (SL.nil _ _)))) (fun w_10 hc_12 => ?_)
 have h_11 := h_9.same hc_12
 refine qT rfl rfl (fun wq hS => R.move (v := (vi 0)) rfl) ?_
 refine qT rfl rfl (fun wq hS => R.move (v := (pO bm 0)) rfl) ?_
 refine qT rfl rfl (fun wq hS => R.nilCheck rfl) ?_
 refine qT rfl rfl (fun wq hS => R.fieldAddr (off' := 0) rfl underlying112 rfl sizeOf25 rfl rfl) ?_
 refine qT rfl rfl (fun wq hS => R.load1 rfl isAgg25 (hS _ M0) Sg.h) ?_
 refine qT rfl rfl (fun wq hS => R.move (v := (vn (a / 128))) rfl) ?_
 refine qT rfl rfl (fun wq hS => R.move (v := (vn (a % 128))) rfl) ?_
 refine qT rfl rfl (fun wq hS => R.move (v := (.slice qa 32 qc)) rfl) ?_
 refine qT rfl rfl (fun wq hS => R.move (v := (vi 0)) rfl) ?_
 refine qT rfl rfl (fun wq hS => R.sliceS (a := qa) (len := 32) (l := 0) (h := 32) rfl (EvB.it (l := 0) rfl rfl) EvB.dflt (by decide) (by omega) underlying81 sizeOf5) ?_
 refine WT.s (oN rfl ?_)
 refine qV rfl (R.indexS (a := ma) (i := a / 128) (off := (a / 128) * 128) (xs := l.map vu8) rfl rfl rfl (by omega) (ownView (h_11.ok _ M1)) (lt_len (K := 128 * mn) (len_map hl) (by omega)) underlying25 sizeOf76 rfl) ?_
 refine WL.nil ?_
 refine ⟨(N0_2 h_11.ok), ?_⟩
 refine WT.s (oN rfl ?_)
 refine qV rfl (R.sliceG (l := a % 128) (h := 128) rfl (EvB.it (l := a % 128) rfl rfl) EvB.dflt (by omega) (by omega) (by omega) underlying76 sizeOf5) ?_
 refine WL.nil ?_
 refine ⟨(N0_2 h_11.ok), ?_⟩
 refine WT.s (oN rfl ?_)
 refine WL.copyR (q := 32) (i := ((a / 128) * 128 + a % 128)) (ys := ((c.drop 0).take 32).map vu8) (xs' := (ovr l ((a / 128) * 128 + a % 128) ((c.drop 0).take 32)).map vu8) h_11 rfl rfl underlying81 sizeOf5 (View.slM (l := 0) (m := qc) (k := 32) (viewV (h_11.ok _ M2)) (by omega)) (len_map (subLen (K := 32) hc (by omega) : List.length ((c.drop 0).take 32) = 32)) (one_u8 _) Y1 gA_at2 (Nat.min_eq_left (by omega)) (by omega) (by rw [len_map hl]; omega) (ovr_mapQ (subLen (K := 32) hc (by omega) : List.length ((c.drop 0).take 32) = 32)) rfl (fun w_13 h_14 => ?_)
 refine WL.nil ?_
 refine ⟨(N0_2 h_14.ok), ?_⟩
 refine qT rfl rfl (fun wq hS => R.bin rfl rfl (bi_add (c := 32) (by omega) (by omega))) ?_
 refine qT rfl rfl (fun wq hS => R.assign (v := (vi 32)) rfl) ?_
 refine WT.nil (inb_n (thn_n ?_))
 refine WI.round ?_
 refine WP.seq (WP.seq (WP.reg ?_))
 refine qM (vi 32) rfl rfl (qM (.slice qa 32 qc) rfl rfl (qV rfl (R.lenS (a := qa) (m := 32) rfl rfl underlying81) (qV rfl (R.bin rfl rfl (bi_lss (r := false) (by decide))) ?_)))
 refine WL.nil (thn_n ?_)
 refine WP.condF rfl ?_
 refine WP.exit (thn_x (thn_x (inb_hit (thn_n (WP.seq (WP.reg ?_))))))
 refine qA (vi 0) rfl rfl ?_
 refine WL.nil (thn_n (WP.ret ?_))
 refine ret_of results47 (RV.tmp (v := (vi 0)) rfl RV.nil) ?_
 have h_17 := ((h_14.up J2).up J2).up J2
 rw [show a / 128 * 128 + a % 128 = a by omega] at h_17
 simp only [List.drop_zero, List.take_of_length_le (Nat.le_of_eq hc)] at h_17
 exact ⟨rfl, h_17⟩
end Go.Proofs.YtbhllplbbkmndaaGreat

namespace Go.Proofs.YtbhllplbbkmndaaGreat
open Go.Vc Go.Orc Go.Sh Go.RowKit
set_option maxRecDepth 20000

theorem c_tword (i : Nat) (w : World) :
    Cs Tryz.prog 42 [(vi ((i : Nat) : Int))].toArray w (fun v w1 => ∃ a cap, v = .slice a 8 cap ∧ Chg w w1 [] ∧ Own w.heap.size w1 5 1 a 8 cap ((leN 8 (UInt64.ofNat i).toNat).map vu8)) := by
  refine Cs.of (n := 12) (args := [(vi ((i : Nat) : Int))]) Tryz.func42 rfl rfl rfl ?_
  have h_0 := HP.init w
  refine WP.seq ?_
  refine WP.reg ?_
  refine WL.q (Wn.no rfl) rfl rfl (R.assign (v := (.slice none 0 0)) rfl) ?_
  refine WL.nil ?_
  refine thn_n ?_
  refine WP.seq ?_
  refine WP.reg ?_
  refine WL.q (Wn.no rfl) rfl rfl (R.move (v := (vi ((i : Nat) : Int))) rfl) ?_
  refine WL.q (Wn.no rfl) rfl rfl (R.conv (b := ((UInt64.ofNat i) : UInt64).toNat) rfl Tryz.underlying3 Tryz.underlying26 (w64_nat i)) ?_
  refine WL.call (al := [(vu64 (UInt64.ofNat i)), (vi 8)]) Tryz.call64 rfl rfl (c_Put_b (UInt64.ofNat i) 8 rfl _) rfl ?_
  rintro _ w_3 ⟨a_1, cap_2, rfl, hc_4, ho_5⟩
  have h_6 := h_0.gotRow hc_4 ho_5
  refine WL.q (Wn.no rfl) rfl rfl (R.move (v := (.tuple [(.slice a_1 8 cap_2), (vi 0)].toArray)) rfl) ?_
  refine WL.q (Wn.no rfl) rfl rfl (R.extract (l := [(.slice a_1 8 cap_2), (vi 0)]) (v := (.slice a_1 8 cap_2)) rfl rfl) ?_
  refine WL.q (Wn.no rfl) rfl rfl (R.extract (l := [(.slice a_1 8 cap_2), (vi 0)]) (v := (vi 0)) rfl rfl) ?_
  refine WL.q (Wn.no rfl) rfl rfl (R.assign (v := (.slice a_1 8 cap_2)) rfl) ?_
  refine WL.q (Wn.no rfl) rfl rfl (R.assign (v := (vi 0)) rfl) ?_
  refine WL.nil ?_
  refine thn_n ?_
  refine WP.seq ?_
  refine WP.reg ?_
  refine WL.q (Wn.no rfl) rfl rfl (R.move (v := (.slice a_1 8 cap_2)) rfl) ?_
  refine WL.q (Wn.no rfl) rfl rfl (R.assign (v := (.slice a_1 8 cap_2)) rfl) ?_
  refine WL.nil ?_
  refine thn_n ?_
  refine WP.ret ?_
  refine ret_of Tryz.results42 (RV.tmp (v := (.slice a_1 8 cap_2)) rfl RV.nil) ?_
  exact ⟨_, _, rfl, h_6.chgS, h_6.ok _ (.head _)⟩

theorem c_rword (i : Nat) (w : World) :
    Cs Tryz.prog 44 [(vi ((i : Nat) : Int))].toArray w (fun v w1 => ∃ a cap, v = .slice a 8 cap ∧ Chg w w1 [] ∧ Own w.heap.size w1 5 1 a 8 cap ((leN 8 (UInt64.ofNat i).toNat).map vu8)) := by
  refine Cs.of (n := 6) (args := [(vi ((i : Nat) : Int))]) Tryz.func44 rfl rfl rfl ?_
  have h_0 := HP.init w
  refine WP.seq ?_
  refine WP.reg ?_
  refine WL.q (Wn.no rfl) rfl rfl (R.assign (v := (.slice none 0 0)) rfl) ?_
  refine WL.nil ?_
  refine thn_n ?_
  refine WP.seq ?_
  refine WP.reg ?_
  refine WL.q (Wn.no rfl) rfl rfl (R.move (v := (vi ((i : Nat) : Int))) rfl) ?_
  refine WL.q (Wn.no rfl) rfl rfl (R.conv (b := ((UInt64.ofNat i) : UInt64).toNat) rfl Tryz.underlying3 Tryz.underlying26 (w64_nat i)) ?_
  refine WL.call (al := [(vu64 (UInt64.ofNat i)), (vi 8)]) Tryz.call66 rfl rfl (c_PutR (UInt64.ofNat i) 8 (by omega) _) rfl ?_
  rintro _ w_3 ⟨a_1, cap_2, rfl, hc_4, ho_5⟩
  have h_6 := h_0.gotRow hc_4 ho_5
  refine WL.q (Wn.no rfl) rfl rfl (R.assign (v := (.slice a_1 8 cap_2)) rfl) ?_
  refine WL.nil ?_
  refine thn_n ?_
  refine WP.ret ?_
  refine ret_of Tryz.results44 (RV.tmp (v := (.slice a_1 8 cap_2)) rfl RV.nil) ?_
  exact ⟨_, _, rfl, h_6.chgS, h_6.ok _ (.head _)⟩

theorem c_TNone_t {w00 : World} {L : List Ent} (id : Bool) (ob mp : Nat) (ms df : List UInt8) (hms : ms.length = 32) (da : Option Addr) (dn dc u : Nat) (hdf : df.length = 32 * dn) (la : Option Addr) (lc : Nat) (lx : List Value) (lg : Lg) (hu : u ≤ 1000000) (hlg : lg.length ≤ 1000000) (pg : Nat) (h : pg < 128) (w : World) (h_0 : HP w00 w (Ent.blk ob .nw 106 [(1, [(.bool id)]), (32, ms.map vu8), (1, [(.slice da dn dc)]), (1, [(vi ((u : Nat) : Int))]), (1, [(.map (some mp))]), (1, [(.slice la lg.length lc)])] :: Ent.row la lg.length lc 102 67 lx :: Ent.obj mp .nw (.map (mArr lg) lg.length) :: Ent.pin (sblks lx) (fun w => Lgs w lx lg) :: Ent.view da (df.map vu8) :: L)) :
    Cs Tryz.prog 9 [(.pointer (some ⟨ob, 0, none⟩)), (vi ((pg : Nat) : Int))].toArray w (fun v w1 => ∃ la' lc' lx', v = (.tuple [(.agg ⟨(anD id df dn u lg (1, (List.replicate 32 (0 : UInt8)), 6, leN 8 (UInt64.ofNat pg).toNat)).map vu8⟩), (vi 0)].toArray) ∧ HP w00 w1 (Ent.blk ob .nw 106 [(1, [(.bool id)]), (32, ms.map vu8), (1, [(.slice da dn dc)]), (1, [(vi (((anU id u lg (1, (List.replicate 32 (0 : UInt8)), 6, leN 8 (UInt64.ofNat pg).toNat)) : Nat) : Int))]), (1, [(.map (some mp))]), (1, [(.slice la' ((anL id df dn u lg (1, (List.replicate 32 (0 : UInt8)), 6, leN 8 (UInt64.ofNat pg).toNat)).length) lc')])] :: Ent.row la' ((anL id df dn u lg (1, (List.replicate 32 (0 : UInt8)), 6, leN 8 (UInt64.ofNat pg).toNat)).length) lc' 102 67 lx' :: Ent.obj mp .nw (.map (mArr (anL id df dn u lg (1, (List.replicate 32 (0 : UInt8)), 6, leN 8 (UInt64.ofNat pg).toNat))) ((anL id df dn u lg (1, (List.replicate 32 (0 : UInt8)), 6, leN 8 (UInt64.ofNat pg).toNat)).length)) :: Ent.pin (sblks lx') (fun w => Lgs w lx' (anL id df dn u lg (1, (List.replicate 32 (0 : UInt8)), 6, leN 8 (UInt64.ofNat pg).toNat))) :: Ent.view da (df.map vu8) :: L)) := by
  refine Cs.of (n := 23) (args := [(.pointer (some ⟨ob, 0, none⟩)), (vi ((pg : Nat) : Int))]) Tryz.func9 rfl rfl rfl ?_
  refine WP.seq ?_
  refine WP.reg ?_
  refine WL.alloc (segs := [(32, (List.replicate 32 (0 : UInt8)).map vu8)]) h_0 (zv Tryz.typeInfo23 rfl) rfl (SsOk.cons (SOk.u8 (List.length_replicate ..)) SsOk.nil) rfl (fun b_1 w_2 h_3 => ?_)
  refine WL.q (Wn.no rfl) rfl rfl (R.assign (v := (vi 0)) rfl) ?_
  refine WL.nil ?_
  refine thn_n ?_
  refine WP.seq ?_
  refine WP.block ?_
  refine WP.seq ?_
  refine WP.reg ?_
  refine WL.q (Wn.no rfl) rfl rfl (R.move (v := (.pointer (some ⟨ob, 0, none⟩))) rfl) ?_
  refine WL.call (al := [(.pointer (some ⟨ob, 0, none⟩))]) Tryz.call39 rfl rfl (c_tth id ob mp ms hms da dn dc u la lg.length lc _ (h_3.argR (.tail _ (.head _)))) rfl ?_
  rintro _ w_5 ⟨rfl, hc_4⟩
  have h_6 := h_3.same hc_4
  refine WL.q (Wn.no rfl) rfl rfl (R.not (b := true) rfl) ?_
  refine WL.q (Wn.no rfl) rfl rfl (R.assign (v := (.bool false)) rfl) ?_
  refine WL.nil ?_
  refine thn_n ?_
  refine WP.condF rfl ?_
  refine WP.seq ?_
  refine WP.reg ?_
  refine WL.q (Wn.no rfl) rfl rfl (R.move (v := (vi ((pg : Nat) : Int))) rfl) ?_
  refine WL.call (al := [(vi ((pg : Nat) : Int))]) Tryz.call40 rfl rfl (c_prot_t pg (by omega) _ ) rfl ?_
  rintro _ w_8 ⟨rfl, hc_7⟩
  have h_9 := h_6.same hc_7
  refine WL.q (Wn.no rfl) rfl rfl (R.not (b := true) rfl) ?_
  refine WL.q (Wn.no rfl) rfl rfl (R.assign (v := (.bool false)) rfl) ?_
  refine WL.nil ?_
  refine thn_n ?_
  refine WP.condF rfl ?_
  refine WP.skip ?_
  refine inb_n ?_
  refine thn_n ?_
  refine WP.seq ?_
  refine WP.reg ?_
  refine WL.q (Wn.no rfl) rfl rfl (R.move (v := (.pointer (some ⟨ob, 0, none⟩))) rfl) ?_
  refine WL.q (Wn.no rfl) rfl rfl (R.move (v := (vi ((pg : Nat) : Int))) rfl) ?_
  refine WL.call (al := [(vi ((pg : Nat) : Int))]) Tryz.call42 rfl rfl (c_tword pg _) rfl ?_
  rintro _ w_12 ⟨a_10, cap_11, rfl, hc_13, ho_14⟩
  have h_15 := h_9.gotRow hc_13 ho_14
  refine WL.buildSl (vs := [(0, (.slice a_10 8 cap_11))]) (cs := [(.slice a_10 8 cap_11)]) h_15 Tryz.underlying85 Tryz.sizeOf81 (zv Tryz.typeInfo81 rfl) rfl rfl (by kernel_rfl) rfl (by simp [Value.oneCell']) rfl rfl (fun b_16 w_17 h_18 => ?_)
  have hcp_19 := (h_18.own (.tail _ (.head _))).2.2.1
  have h_20 := h_18.up (Pick.t Pick.h)
  have h_21 := h_20.rowView
  have h_22 := h_21.up (Pick.t Pick.h)
  have h_23 := HP_blkView h_22
  have hbl_24 : ∀ b ∈ sblks [(.slice a_10 8 cap_11)], ∃ e ∈ ((Ent.view (some ⟨b_16, 0, none⟩) [(.slice a_10 8 cap_11)] :: Ent.view a_10 ((leN 8 (UInt64.ofNat pg).toNat).map vu8) :: Ent.blk b_1 .nw 23 [(32, (List.replicate 32 (0 : UInt8)).map vu8)] :: Ent.blk ob .nw 106 [(1, [(.bool id)]), (32, ms.map vu8), (1, [(.slice da dn dc)]), (1, [(vi ((u : Nat) : Int))]), (1, [(.map (some mp))]), (1, [(.slice la lg.length lc)])] :: Ent.row la lg.length lc 102 67 lx :: Ent.obj mp .nw (.map (mArr lg) lg.length) :: Ent.pin (sblks lx) (fun w => Lgs w lx lg) :: Ent.view da (df.map vu8) :: L) : List Ent), e.mut = false ∧ b ∈ e.blocks := by
    intro b hb
    rcases List.mem_append.1 hb with hb | hb
    · exact ⟨_, (.tail _ (.head _)), rfl, sblk_in_view (leN_len ..) b hb⟩
    cases hb
  have h_25 := HP_within (e' := .pin (sblks [(.slice a_10 8 cap_11)]) (fun w => Sls w [(.slice a_10 8 cap_11)] [leN 8 (UInt64.ofNat pg).toNat])) h_23 (Sls.pin (Sls.cons (leN_len ..) hcp_19 (viewV (h_23.ok _ (.tail _ (.head _)))) Sls.nil)) rfl rfl hbl_24
  have h_26 := h_25.up (Pick.t Pick.h)
  have h_27 := h_26.up (Pick.t Pick.h)
  have h_28 := h_27.up (Pick.t (Pick.t (Pick.t (Pick.t (Pick.t (Pick.t (Pick.t (Pick.t Pick.h))))))))
  have h_29 := h_28.up (Pick.t (Pick.t (Pick.t (Pick.t (Pick.t (Pick.t (Pick.t (Pick.t Pick.h))))))))
  have h_30 := h_29.up (Pick.t (Pick.t (Pick.t (Pick.t (Pick.t (Pick.t (Pick.t (Pick.t Pick.h))))))))
  have h_31 := h_30.up (Pick.t (Pick.t (Pick.t (Pick.t (Pick.t (Pick.t (Pick.t (Pick.t Pick.h))))))))
  have h_32 := h_31.up (Pick.t (Pick.t (Pick.t (Pick.t (Pick.t (Pick.t (Pick.t (Pick.t Pick.h))))))))
  have h32_w_36 := Lgs.ok32 (h_32.ok _ (.tail _ (.tail _ (.tail _ (.head _))))).1
  refine WL.call (al := [(.pointer (some ⟨ob, 0, none⟩)), (vi 6), (.slice (some ⟨b_16, 0, none⟩) 1 1)]) Tryz.call41 rfl rfl (c_oDigest id ob mp ms df hms da dn dc u hdf la lc lx lg hu hlg (some ⟨b_16, 0, none⟩) 1 1 [(.slice a_10 8 cap_11)] [leN 8 (UInt64.ofNat pg).toNat] rfl 6 (by omega) (by simp only [List.flatten_cons, List.flatten_nil, List.length_append, List.length_nil, leN_len]; omega) (by omega) _ h_32) rfl ?_
  rintro _ w_36 ⟨la_33, lc_34, lx_35, rfl, h_37⟩
  refine WL.q (Wn.no rfl) rfl rfl (R.extract (l := [(.agg ⟨(anD id df dn u lg (1, (List.replicate 32 (0 : UInt8)), 6, [leN 8 (UInt64.ofNat pg).toNat].flatten)).map vu8⟩), (vi 0)]) (v := (.agg ⟨(anD id df dn u lg (1, (List.replicate 32 (0 : UInt8)), 6, [leN 8 (UInt64.ofNat pg).toNat].flatten)).map vu8⟩)) rfl rfl) ?_
  refine WL.q (Wn.no rfl) rfl rfl (R.extract (l := [(.agg ⟨(anD id df dn u lg (1, (List.replicate 32 (0 : UInt8)), 6, [leN 8 (UInt64.ofNat pg).toNat].flatten)).map vu8⟩), (vi 0)]) (v := (vi 0)) rfl rfl) ?_
  refine WL.storeA (b := b_1) (off := 0) [] [(32, (List.replicate 32 (0 : UInt8)).map vu8)] [(32, (anD id df dn u lg (1, (List.replicate 32 (0 : UInt8)), 6, [leN 8 (UInt64.ofNat pg).toNat].flatten)).map vu8)] [] (ys := (anD id df dn u lg (1, (List.replicate 32 (0 : UInt8)), 6, [leN 8 (UInt64.ofNat pg).toNat].flatten)).map vu8) h_37 rfl rfl Tryz.sizeOf23 (At.t (At.t (At.t (At.t (At.t (At.t (At.t (At.t At.h)))))))) (by decide) rfl rfl rfl rfl rfl rfl (SsOk.cons (SOk.u8 (anD_len hdf h32_w_36)) SsOk.nil) (fun w_38 h_39 => ?_)
  refine WL.q (Wn.no rfl) rfl rfl (R.assign (v := (vi 0)) rfl) ?_
  refine WL.nil ?_
  refine thn_n ?_
  refine WP.ret ?_
  refine ret_of Tryz.results9 (RV.cell rfl (h_39.loadA (cs := (anD id df dn u lg (1, (List.replicate 32 (0 : UInt8)), 6, [leN 8 (UInt64.ofNat pg).toNat].flatten)).map vu8) Tryz.isAgg23 Tryz.sizeOf23 (.tail _ (.tail _ (.tail _ (.tail _ (.tail _ (.tail _ (.tail _ (.tail _ (.head _))))))))) rfl rfl) (RV.tmp (v := (vi 0)) rfl RV.nil)) ?_
  have h_40 := h_39.up (Pick.t (Pick.t (Pick.t (Pick.t (Pick.t Pick.h)))))
  have h_41 := h_40.drop rfl
  have h_42 := h_41.up (Pick.t (Pick.t (Pick.t (Pick.t (Pick.t Pick.h)))))
  have h_43 := h_42.drop rfl
  have h_44 := h_43.up (Pick.t (Pick.t (Pick.t (Pick.t (Pick.t Pick.h)))))
  have h_45 := h_44.drop rfl
  have h_46 := h_45.up (Pick.t (Pick.t (Pick.t (Pick.t (Pick.t Pick.h)))))
  have h_47 := h_46.drop rfl
  have h_48 := h_47.up (Pick.t (Pick.t (Pick.t (Pick.t Pick.h))))
  have h_49 := h_48.up (Pick.t (Pick.t (Pick.t (Pick.t Pick.h))))
  have h_50 := h_49.up (Pick.t (Pick.t (Pick.t (Pick.t Pick.h))))
  have h_51 := h_50.up (Pick.t (Pick.t (Pick.t (Pick.t Pick.h))))
  have h_52 := h_51.up (Pick.t (Pick.t (Pick.t (Pick.t Pick.h))))
  have e2 : ((1, (List.replicate 32 (0 : UInt8)), 6, leN 8 (UInt64.ofNat pg).toNat) : Qn) = (1, (List.replicate 32 (0 : UInt8)), 6, [leN 8 (UInt64.ofNat pg).toNat].flatten) := by simp
  exact ⟨_, _, _, by rw [e2]; rfl, by rw [e2]; exact h_52⟩

theorem c_TNode_t {w00 : World} {L : List Ent} (id : Bool) (ob mp : Nat) (ms df : List UInt8) (hms : ms.length = 32) (da : Option Addr) (dn dc u : Nat) (hdf : df.length = 32 * dn) (la : Option Addr) (lc : Nat) (lx : List Value) (lg : Lg) (hu : u ≤ 1000000) (hlg : lg.length ≤ 1000000) (i : Nat) (hi : 1 ≤ i ∧ i ≤ 127) (xa xb : List UInt8) (hxa : xa.length = 32) (hxb : xb.length = 32) (w : World) (h_0 : HP w00 w (Ent.blk ob .nw 106 [(1, [(.bool id)]), (32, ms.map vu8), (1, [(.slice da dn dc)]), (1, [(vi ((u : Nat) : Int))]), (1, [(.map (some mp))]), (1, [(.slice la lg.length lc)])] :: Ent.row la lg.length lc 102 67 lx :: Ent.obj mp .nw (.map (mArr lg) lg.length) :: Ent.pin (sblks lx) (fun w => Lgs w lx lg) :: Ent.view da (df.map vu8) :: L)) :
    Cs Tryz.prog 18 [(.pointer (some ⟨ob, 0, none⟩)), (vi ((i : Nat) : Int)), (.agg ⟨xa.map vu8⟩), (.agg ⟨xb.map vu8⟩)].toArray w (fun v w1 => ∃ la' lc' lx', v = (.tuple [(.agg ⟨(anD id df dn u lg (1, (List.replicate 32 (0 : UInt8)), 5, [leN 8 (UInt64.ofNat i).toNat, xa, xb].flatten)).map vu8⟩), (vi 0)].toArray) ∧ HP w00 w1 (Ent.blk ob .nw 106 [(1, [(.bool id)]), (32, ms.map vu8), (1, [(.slice da dn dc)]), (1, [(vi (((anU id u lg (1, (List.replicate 32 (0 : UInt8)), 5, [leN 8 (UInt64.ofNat i).toNat, xa, xb].flatten)) : Nat) : Int))]), (1, [(.map (some mp))]), (1, [(.slice la' ((anL id df dn u lg (1, (List.replicate 32 (0 : UInt8)), 5, [leN 8 (UInt64.ofNat i).toNat, xa, xb].flatten)).length) lc')])] :: Ent.row la' ((anL id df dn u lg (1, (List.replicate 32 (0 : UInt8)), 5, [leN 8 (UInt64.ofNat i).toNat, xa, xb].flatten)).length) lc' 102 67 lx' :: Ent.obj mp .nw (.map (mArr (anL id df dn u lg (1, (List.replicate 32 (0 : UInt8)), 5, [leN 8 (UInt64.ofNat i).toNat, xa, xb].flatten))) ((anL id df dn u lg (1, (List.replicate 32 (0 : UInt8)), 5, [leN 8 (UInt64.ofNat i).toNat, xa, xb].flatten)).length)) :: Ent.pin (sblks lx') (fun w => Lgs w lx' (anL id df dn u lg (1, (List.replicate 32 (0 : UInt8)), 5, [leN 8 (UInt64.ofNat i).toNat, xa, xb].flatten))) :: Ent.view da (df.map vu8) :: L)) := by
  refine Cs.of (n := 32) (args := [(.pointer (some ⟨ob, 0, none⟩)), (vi ((i : Nat) : Int)), (.agg ⟨xa.map vu8⟩), (.agg ⟨xb.map vu8⟩)]) Tryz.func18 rfl rfl rfl ?_
  refine WP.seq ?_
  refine WP.reg ?_
  refine WL.box (v := (.agg ⟨xa.map vu8⟩)) (segs := [(32, xa.map vu8)]) h_0 rfl rfl (SsOk.cons (SOk.u8 hxa) SsOk.nil) rfl (fun b_1 w_2 h_3 => ?_)
  refine WL.box (v := (.agg ⟨xb.map vu8⟩)) (segs := [(32, xb.map vu8)]) h_3 rfl rfl (SsOk.cons (SOk.u8 hxb) SsOk.nil) rfl (fun b_4 w_5 h_6 => ?_)
  refine WL.alloc (segs := [(32, (List.replicate 32 (0 : UInt8)).map vu8)]) h_6 (zv Tryz.typeInfo23 rfl) rfl (SsOk.cons (SOk.u8 (List.length_replicate ..)) SsOk.nil) rfl (fun b_7 w_8 h_9 => ?_)
  refine WL.q (Wn.no rfl) rfl rfl (R.assign (v := (vi 0)) rfl) ?_
  refine WL.nil ?_
  refine thn_n ?_
  refine WP.seq ?_
  refine WP.block ?_
  refine WP.seq ?_
  refine WP.reg ?_
  refine WL.q (Wn.no rfl) rfl rfl (R.move (v := (.pointer (some ⟨ob, 0, none⟩))) rfl) ?_
  refine WL.call (al := [(.pointer (some ⟨ob, 0, none⟩))]) Tryz.call39 rfl rfl (c_tth id ob mp ms hms da dn dc u la lg.length lc _ (h_9.argR (.tail _ (.tail _ (.tail _ (.head _)))))) rfl ?_
  rintro _ w_11 ⟨rfl, hc_10⟩
  have h_12 := h_9.same hc_10
  refine WL.q (Wn.no rfl) rfl rfl (R.not (b := true) rfl) ?_
  refine WL.q (Wn.no rfl) rfl rfl (R.assign (v := (.bool false)) rfl) ?_
  refine WL.nil ?_
  refine thn_n ?_
  refine WP.condF rfl ?_
  refine WP.seq ?_
  refine WP.reg ?_
  refine WL.q (Wn.no rfl) rfl rfl (R.move (v := (vi ((i : Nat) : Int))) rfl) ?_
  refine WL.q (Wn.no rfl) rfl rfl (R.bin (v := (.bool (decide ((((i : Nat) : Int) : Int) < 1)))) rfl rfl (bi_lss (r := decide ((((i : Nat) : Int) : Int) < 1)) rfl)) ?_
  refine WL.q (Wn.no rfl) rfl rfl (R.move (v := (.bool (decide ((((i : Nat) : Int) : Int) < 1)))) rfl) ?_
  refine WL.want rfl (congrArg Value.bool (decide_eq_false (by omega))) ?_
  refine WL.q (Wn.no rfl) rfl rfl (R.move (v := (vi ((i : Nat) : Int))) rfl) ?_
  refine WL.want rfl (congrArg Value.bool (decide_eq_false (by omega))) ?_
  refine WL.q (Wn.no rfl) rfl rfl (R.bin (v := (.bool (decide ((((i : Nat) : Int) : Int) ≥ 128)))) rfl rfl (bi_geq (r := decide ((((i : Nat) : Int) : Int) ≥ 128)) rfl)) ?_
  refine WL.q (Wn.no rfl) rfl rfl (R.pickF (v := (.bool (decide ((((i : Nat) : Int) : Int) ≥ 128)))) (congrArg Value.bool (decide_eq_false (by omega))) rfl) ?_
  refine WL.q (Wn.no rfl) rfl rfl (R.assign (v := (.bool (decide ((((i : Nat) : Int) : Int) ≥ 128)))) rfl) ?_
  refine WL.nil ?_
  refine thn_n ?_
  refine WP.condF (congrArg Value.bool (decide_eq_false (by omega))) ?_
  refine WP.skip ?_
  refine inb_n ?_
  refine thn_n ?_
  refine WP.seq ?_
  refine WP.drawT (SL w00.heap.size []) (.q 0 (.q 1 (.q 3 (.q 4 (.s 2 (.s 5 (.s 6 (.q 7 (.q 8 (.s 9 (.q 10 .nil))))))))))) (by kernel_rfl) (by kernel_rfl) rfl (by kernel_rfl) (fun w_13 hc_15 => (SL.nil _ _)) (fun w_13 hc_15 => ?_)
  have h_14 := h_12.same hc_15
  refine WT.q rfl (Wn.no rfl) rfl rfl (fun wq hS => R.move (v := (.pointer (some ⟨ob, 0, none⟩))) rfl) ?_
  refine WT.q rfl (Wn.no rfl) rfl rfl (fun wq hS => R.move (v := (vi ((i : Nat) : Int))) rfl) ?_
  refine WT.q rfl (Wn.no rfl) rfl rfl (fun wq hS => R.sliceA (b := b_1) (off := 0) (off' := 0) (l := 0) (h := 32) rfl EvB.dflt EvB.dflt (by decide) (by decide) Tryz.underlying23 Tryz.sizeOf5 rfl) ?_
  refine WT.q rfl (Wn.no rfl) rfl rfl (fun wq hS => R.sliceA (b := b_4) (off := 0) (off' := 0) (l := 0) (h := 32) rfl EvB.dflt EvB.dflt (by decide) (by decide) Tryz.underlying23 Tryz.sizeOf5 rfl) ?_
  refine WT.s ?_
  refine Op1.one rfl (Wn.no rfl) ?_
  refine WL.call (al := [(vi ((i : Nat) : Int))]) Tryz.call42 rfl rfl (c_tword i _) rfl ?_
  rintro _ w_18 ⟨a_16, cap_17, rfl, hc_19, ho_20⟩
  have h_21 := h_14.gotRow hc_19 ho_20
  refine WL.nil ?_
  refine ⟨(SL.nil _ _), ?_⟩
  refine WT.s ?_
  refine Op1.one rfl (Wn.no rfl) ?_
  refine WL.buildSl (vs := [(0, (.slice a_16 8 cap_17)), (1, (.slice (some ⟨b_1, 0, none⟩) 32 32)), (2, (.slice (some ⟨b_4, 0, none⟩) 32 32))]) (cs := [(.slice a_16 8 cap_17), (.slice (some ⟨b_1, 0, none⟩) 32 32), (.slice (some ⟨b_4, 0, none⟩) 32 32)]) h_21 Tryz.underlying85 Tryz.sizeOf81 (zv Tryz.typeInfo81 rfl) rfl rfl (by kernel_rfl) rfl (by simp [Value.oneCell']) rfl rfl (fun b_22 w_23 h_24 => ?_)
  refine WL.nil ?_
  refine ⟨(SL.nil _ _), ?_⟩
  refine WT.s ?_
  refine Op1.one rfl (Wn.no rfl) ?_
  have hcp_25 := (h_24.own (.tail _ (.head _))).2.2.1
  have h_26 := h_24.up (Pick.t Pick.h)
  have h_27 := h_26.rowView
  have h_28 := h_27.up (Pick.t (Pick.t (Pick.t (Pick.t Pick.h))))
  have h_29 := HP_blkView h_28
  have h_30 := h_29.up (Pick.t (Pick.t (Pick.t (Pick.t Pick.h))))
  have h_31 := HP_blkView h_30
  have h_32 := h_31.up (Pick.t (Pick.t (Pick.t Pick.h)))
  have h_33 := HP_blkView h_32
  have hbl_34 : ∀ b ∈ sblks [(.slice a_16 8 cap_17), (.slice (some ⟨b_1, 0, none⟩) 32 32), (.slice (some ⟨b_4, 0, none⟩) 32 32)], ∃ e ∈ ((Ent.view (some ⟨b_22, 0, none⟩) [(.slice a_16 8 cap_17), (.slice (some ⟨b_1, 0, none⟩) 32 32), (.slice (some ⟨b_4, 0, none⟩) 32 32)] :: Ent.view (some ⟨b_4, 0, none⟩) (xb.map vu8) :: Ent.view (some ⟨b_1, 0, none⟩) (xa.map vu8) :: Ent.view a_16 ((leN 8 (UInt64.ofNat i).toNat).map vu8) :: Ent.blk b_7 .nw 23 [(32, (List.replicate 32 (0 : UInt8)).map vu8)] :: Ent.blk ob .nw 106 [(1, [(.bool id)]), (32, ms.map vu8), (1, [(.slice da dn dc)]), (1, [(vi ((u : Nat) : Int))]), (1, [(.map (some mp))]), (1, [(.slice la lg.length lc)])] :: Ent.row la lg.length lc 102 67 lx :: Ent.obj mp .nw (.map (mArr lg) lg.length) :: Ent.pin (sblks lx) (fun w => Lgs w lx lg) :: Ent.view da (df.map vu8) :: L) : List Ent), e.mut = false ∧ b ∈ e.blocks := by
    intro b hb
    rcases List.mem_append.1 hb with hb | hb
    · exact ⟨_, (.tail _ (.tail _ (.tail _ (.head _)))), rfl, sblk_in_view (leN_len ..) b hb⟩
    rcases List.mem_append.1 hb with hb | hb
    · exact ⟨_, (.tail _ (.tail _ (.head _))), rfl, sblk_in_view hxa b hb⟩
    rcases List.mem_append.1 hb with hb | hb
    · exact ⟨_, (.tail _ (.head _)), rfl, sblk_in_view hxb b hb⟩
    cases hb
  have h_35 := HP_within (e' := .pin (sblks [(.slice a_16 8 cap_17), (.slice (some ⟨b_1, 0, none⟩) 32 32), (.slice (some ⟨b_4, 0, none⟩) 32 32)]) (fun w => Sls w [(.slice a_16 8 cap_17), (.slice (some ⟨b_1, 0, none⟩) 32 32), (.slice (some ⟨b_4, 0, none⟩) 32 32)] [leN 8 (UInt64.ofNat i).toNat, xa, xb])) h_33 (Sls.pin (Sls.cons (leN_len ..) hcp_25 (viewV (h_33.ok _ (.tail _ (.tail _ (.tail _ (.head _)))))) (Sls.cons hxa (by decide) (viewV (h_33.ok _ (.tail _ (.tail _ (.head _))))) (Sls.cons hxb (by decide) (viewV (h_33.ok _ (.tail _ (.head _)))) Sls.nil)))) rfl rfl hbl_34
  have h_36 := h_35.up (Pick.t Pick.h)
  have h_37 := h_36.up (Pick.t Pick.h)
  have h_38 := h_37.up (Pick.t (Pick.t (Pick.t (Pick.t (Pick.t (Pick.t (Pick.t (Pick.t (Pick.t (Pick.t Pick.h))))))))))
  have h_39 := h_38.up (Pick.t (Pick.t (Pick.t (Pick.t (Pick.t (Pick.t (Pick.t (Pick.t (Pick.t (Pick.t Pick.h))))))))))
  have h_40 := h_39.up (Pick.t (Pick.t (Pick.t (Pick.t (Pick.t (Pick.t (Pick.t (Pick.t (Pick.t (Pick.t Pick.h))))))))))
  have h_41 := h_40.up (Pick.t (Pick.t (Pick.t (Pick.t (Pick.t (Pick.t (Pick.t (Pick.t (Pick.t (Pick.t Pick.h))))))))))
  have h_42 := h_41.up (Pick.t (Pick.t (Pick.t (Pick.t (Pick.t (Pick.t (Pick.t (Pick.t (Pick.t (Pick.t Pick.h))))))))))
  have h32_w_46 := Lgs.ok32 (h_42.ok _ (.tail _ (.tail _ (.tail _ (.head _))))).1
  refine WL.call (al := [(.pointer (some ⟨ob, 0, none⟩)), (vi 5), (.slice (some ⟨b_22, 0, none⟩) 3 3)]) Tryz.call41 rfl rfl (c_oDigest id ob mp ms df hms da dn dc u hdf la lc lx lg hu hlg (some ⟨b_22, 0, none⟩) 3 3 [(.slice a_16 8 cap_17), (.slice (some ⟨b_1, 0, none⟩) 32 32), (.slice (some ⟨b_4, 0, none⟩) 32 32)] [leN 8 (UInt64.ofNat i).toNat, xa, xb] rfl 5 (by omega) (by simp only [List.flatten_cons, List.flatten_nil, List.length_append, List.length_nil, leN_len]; omega) (by omega) _ h_42) rfl ?_
  rintro _ w_46 ⟨la_43, lc_44, lx_45, rfl, h_47⟩
  refine WL.nil ?_
  refine ⟨(SL.nil _ _), ?_⟩
  refine WT.q rfl (Wn.no rfl) rfl rfl (fun wq hS => R.extract (l := [(.agg ⟨(anD id df dn u lg (1, (List.replicate 32 (0 : UInt8)), 5, [leN 8 (UInt64.ofNat i).toNat, xa, xb].flatten)).map vu8⟩), (vi 0)]) (v := (.agg ⟨(anD id df dn u lg (1, (List.replicate 32 (0 : UInt8)), 5, [leN 8 (UInt64.ofNat i).toNat, xa, xb].flatten)).map vu8⟩)) rfl rfl) ?_
  refine WT.q rfl (Wn.no rfl) rfl rfl (fun wq hS => R.extract (l := [(.agg ⟨(anD id df dn u lg (1, (List.replicate 32 (0 : UInt8)), 5, [leN 8 (UInt64.ofNat i).toNat, xa, xb].flatten)).map vu8⟩), (vi 0)]) (v := (vi 0)) rfl rfl) ?_
  refine WT.s ?_
  refine Op1.one rfl (Wn.no rfl) ?_
  refine WL.storeA (b := b_7) (off := 0) [] [(32, (List.replicate 32 (0 : UInt8)).map vu8)] [(32, (anD id df dn u lg (1, (List.replicate 32 (0 : UInt8)), 5, [leN 8 (UInt64.ofNat i).toNat, xa, xb].flatten)).map vu8)] [] (ys := (anD id df dn u lg (1, (List.replicate 32 (0 : UInt8)), 5, [leN 8 (UInt64.ofNat i).toNat, xa, xb].flatten)).map vu8) h_47 rfl rfl Tryz.sizeOf23 (At.t (At.t (At.t (At.t (At.t (At.t (At.t (At.t (At.t (At.t At.h)))))))))) (by decide) rfl rfl rfl rfl rfl rfl (SsOk.cons (SOk.u8 (anD_len hdf h32_w_46)) SsOk.nil) (fun w_48 h_49 => ?_)
  refine WL.nil ?_
  refine ⟨(SL.nil _ _), ?_⟩
  refine WT.q rfl (Wn.no rfl) rfl rfl (fun wq hS => R.assign (v := (vi 0)) rfl) ?_
  refine WT.nil ?_
  refine thn_n ?_
  refine WP.ret ?_
  refine ret_of Tryz.results18 (RV.cell rfl (h_49.loadA (cs := (anD id df dn u lg (1, (List.replicate 32 (0 : UInt8)), 5, [leN 8 (UInt64.ofNat i).toNat, xa, xb].flatten)).map vu8) Tryz.isAgg23 Tryz.sizeOf23 (.tail _ (.tail _ (.tail _ (.tail _ (.tail _ (.tail _ (.tail _ (.tail _ (.tail _ (.tail _ (.head _))))))))))) rfl rfl) (RV.tmp (v := (vi 0)) rfl RV.nil)) ?_
  have h_50 := h_49.up (Pick.t (Pick.t (Pick.t (Pick.t (Pick.t Pick.h)))))
  have h_51 := h_50.drop rfl
  have h_52 := h_51.up (Pick.t (Pick.t (Pick.t (Pick.t (Pick.t Pick.h)))))
  have h_53 := h_52.drop rfl
  have h_54 := h_53.up (Pick.t (Pick.t (Pick.t (Pick.t (Pick.t Pick.h)))))
  have h_55 := h_54.drop rfl
  have h_56 := h_55.up (Pick.t (Pick.t (Pick.t (Pick.t (Pick.t Pick.h)))))
  have h_57 := h_56.drop rfl
  have h_58 := h_57.up (Pick.t (Pick.t (Pick.t (Pick.t (Pick.t Pick.h)))))
  have h_59 := h_58.drop rfl
  have h_60 := h_59.up (Pick.t (Pick.t (Pick.t (Pick.t (Pick.t Pick.h)))))
  have h_61 := h_60.drop rfl
  have h_62 := h_61.up (Pick.t (Pick.t (Pick.t (Pick.t Pick.h))))
  have h_63 := h_62.up (Pick.t (Pick.t (Pick.t (Pick.t Pick.h))))
  have h_64 := h_63.up (Pick.t (Pick.t (Pick.t (Pick.t Pick.h))))
  have h_65 := h_64.up (Pick.t (Pick.t (Pick.t (Pick.t Pick.h))))
  have h_66 := h_65.up (Pick.t (Pick.t (Pick.t (Pick.t Pick.h))))
  exact ⟨_, _, _, rfl, h_66⟩

theorem c_rTNone {w00 : World} {L : List Ent} (id : Bool) (ob : Nat) (ms df : List UInt8) (hms : ms.length = 32) (da : Option Addr) (dn dc u : Nat) (hdf : df.length = 32 * dn) (la : Option Addr) (lc : Nat) (lx : List Value) (lg : Lg) (hu : u ≤ 1000000) (hlg : lg.length ≤ 1000000) (pg : Nat) (w : World) (h_0 : HP w00 w (Ent.blk ob .nw 61 [(1, [(.bool id)]), (32, ms.map vu8), (1, [(.slice da dn dc)]), (1, [(vi ((u : Nat) : Int))]), (1, [(.slice la lg.length lc)])] :: Ent.row la lg.length lc 102 67 lx :: Ent.pin (sblks lx) (fun w => Lgs w lx lg) :: Ent.view da (df.map vu8) :: L)) :
    Cs Tryz.prog 13 [(.pointer (some ⟨ob, 0, none⟩)), (vi ((pg : Nat) : Int))].toArray w (fun v w1 => ∃ la' lc' lx', v = (.agg ⟨(anD id df dn u lg (1, (List.replicate 32 (0 : UInt8)), 6, leN 8 (UInt64.ofNat pg).toNat)).map vu8⟩) ∧ HP w00 w1 (Ent.blk ob .nw 61 [(1, [(.bool id)]), (32, ms.map vu8), (1, [(.slice da dn dc)]), (1, [(vi (((anU id u lg (1, (List.replicate 32 (0 : UInt8)), 6, leN 8 (UInt64.ofNat pg).toNat)) : Nat) : Int))]), (1, [(.slice la' ((anL id df dn u lg (1, (List.replicate 32 (0 : UInt8)), 6, leN 8 (UInt64.ofNat pg).toNat)).length) lc')])] :: Ent.row la' ((anL id df dn u lg (1, (List.replicate 32 (0 : UInt8)), 6, leN 8 (UInt64.ofNat pg).toNat)).length) lc' 102 67 lx' :: Ent.pin (sblks lx') (fun w => Lgs w lx' (anL id df dn u lg (1, (List.replicate 32 (0 : UInt8)), 6, leN 8 (UInt64.ofNat pg).toNat))) :: Ent.view da (df.map vu8) :: L)) := by
  refine Cs.of (n := 9) (args := [(.pointer (some ⟨ob, 0, none⟩)), (vi ((pg : Nat) : Int))]) Tryz.func13 rfl rfl rfl ?_
  refine WP.seq ?_
  refine WP.reg ?_
  refine WL.alloc (segs := [(32, (List.replicate 32 (0 : UInt8)).map vu8)]) h_0 (zv Tryz.typeInfo23 rfl) rfl (SsOk.cons (SOk.u8 (List.length_replicate ..)) SsOk.nil) rfl (fun b_1 w_2 h_3 => ?_)
  refine WL.nil ?_
  refine thn_n ?_
  refine WP.seq ?_
  refine WP.reg ?_
  refine WL.q (Wn.no rfl) rfl rfl (R.move (v := (.pointer (some ⟨ob, 0, none⟩))) rfl) ?_
  refine WL.q (Wn.no rfl) rfl rfl (R.move (v := (vi ((pg : Nat) : Int))) rfl) ?_
  refine WL.call (al := [(vi ((pg : Nat) : Int))]) Tryz.call44 rfl rfl (c_rword pg _) rfl ?_
  rintro _ w_6 ⟨a_4, cap_5, rfl, hc_7, ho_8⟩
  have h_9 := h_3.gotRow hc_7 ho_8
  have h_10 := h_9.up (Pick.t (Pick.t (Pick.t (Pick.t (Pick.t Pick.h)))))
  have h_11 := h_10.up (Pick.t (Pick.t (Pick.t (Pick.t (Pick.t Pick.h)))))
  have h_12 := h_11.up (Pick.t (Pick.t (Pick.t (Pick.t (Pick.t Pick.h)))))
  have h_13 := h_12.up (Pick.t (Pick.t (Pick.t (Pick.t (Pick.t Pick.h)))))
  have h32_w_17 := (Lgs.ok32 (h_13.ok _ (.tail _ (.tail _ (.head _)))).1)
  refine WL.call (al := [(.pointer (some ⟨ob, 0, none⟩)), (vi 6), (.slice a_4 8 cap_5)]) Tryz.call43 rfl rfl (c_rDig_r id ob ms df hms da dn dc u hdf la lc lx lg hu hlg 6 (leN 8 (UInt64.ofNat pg).toNat) a_4 8 cap_5 (by omega) (by rw [leN_len]; decide) (leN_len ..) _ h_13) rfl ?_
  rintro _ w_17 ⟨la_14, lc_15, lx_16, rfl, h_18⟩
  refine WL.storeA (b := b_1) (off := 0) [] [(32, (List.replicate 32 (0 : UInt8)).map vu8)] [(32, (anD id df dn u lg (1, (List.replicate 32 (0 : UInt8)), 6, (leN 8 (UInt64.ofNat pg).toNat))).map vu8)] [] (ys := (anD id df dn u lg (1, (List.replicate 32 (0 : UInt8)), 6, (leN 8 (UInt64.ofNat pg).toNat))).map vu8) h_18 rfl rfl Tryz.sizeOf23 (At.t (At.t (At.t (At.t (At.t At.h))))) (by decide) rfl rfl rfl rfl rfl rfl (SsOk.cons (SOk.u8 (anD_len hdf h32_w_17)) SsOk.nil) (fun w_19 h_20 => ?_)
  refine WL.nil ?_
  refine thn_n ?_
  refine WP.ret ?_
  refine ret_of Tryz.results13 (RV.cell rfl (h_20.loadA (cs := (anD id df dn u lg (1, (List.replicate 32 (0 : UInt8)), 6, (leN 8 (UInt64.ofNat pg).toNat))).map vu8) Tryz.isAgg23 Tryz.sizeOf23 (.tail _ (.tail _ (.tail _ (.tail _ (.tail _ (.head _)))))) rfl rfl) RV.nil) ?_
  have h_21 := h_20.up (Pick.t (Pick.t (Pick.t (Pick.t Pick.h))))
  have h_22 := h_21.drop rfl
  have h_23 := h_22.up (Pick.t (Pick.t (Pick.t (Pick.t Pick.h))))
  have h_24 := h_23.drop rfl
  have h_25 := h_24.up (Pick.t (Pick.t (Pick.t Pick.h)))
  have h_26 := h_25.up (Pick.t (Pick.t (Pick.t Pick.h)))
  have h_27 := h_26.up (Pick.t (Pick.t (Pick.t Pick.h)))
  have h_28 := h_27.up (Pick.t (Pick.t (Pick.t Pick.h)))
  exact ⟨_, _, _, rfl, h_28⟩

theorem c_rTNode {w00 : World} {L : List Ent} (id : Bool) (ob : Nat) (ms df : List UInt8) (hms : ms.length = 32) (da : Option Addr) (dn dc u : Nat) (hdf : df.length = 32 * dn) (la : Option Addr) (lc : Nat) (lx : List Value) (lg : Lg) (hu : u ≤ 1000000) (hlg : lg.length ≤ 1000000) (i : Nat) (xa xb : List UInt8) (hxa : xa.length = 32) (hxb : xb.length = 32) (w : World) (h_0 : HP w00 w (Ent.blk ob .nw 61 [(1, [(.bool id)]), (32, ms.map vu8), (1, [(.slice da dn dc)]), (1, [(vi ((u : Nat) : Int))]), (1, [(.slice la lg.length lc)])] :: Ent.row la lg.length lc 102 67 lx :: Ent.pin (sblks lx) (fun w => Lgs w lx lg) :: Ent.view da (df.map vu8) :: L)) :
    Cs Tryz.prog 19 [(.pointer (some ⟨ob, 0, none⟩)), (vi ((i : Nat) : Int)), (.agg ⟨xa.map vu8⟩), (.agg ⟨xb.map vu8⟩)].toArray w (fun v w1 => ∃ la' lc' lx', v = (.agg ⟨(anD id df dn u lg (1, (List.replicate 32 (0 : UInt8)), 5, [leN 8 (UInt64.ofNat i).toNat, xa, xb].flatten)).map vu8⟩) ∧ HP w00 w1 (Ent.blk ob .nw 61 [(1, [(.bool id)]), (32, ms.map vu8), (1, [(.slice da dn dc)]), (1, [(vi (((anU id u lg (1, (List.replicate 32 (0 : UInt8)), 5, [leN 8 (UInt64.ofNat i).toNat, xa, xb].flatten)) : Nat) : Int))]), (1, [(.slice la' ((anL id df dn u lg (1, (List.replicate 32 (0 : UInt8)), 5, [leN 8 (UInt64.ofNat i).toNat, xa, xb].flatten)).length) lc')])] :: Ent.row la' ((anL id df dn u lg (1, (List.replicate 32 (0 : UInt8)), 5, [leN 8 (UInt64.ofNat i).toNat, xa, xb].flatten)).length) lc' 102 67 lx' :: Ent.pin (sblks lx') (fun w => Lgs w lx' (anL id df dn u lg (1, (List.replicate 32 (0 : UInt8)), 5, [leN 8 (UInt64.ofNat i).toNat, xa, xb].flatten))) :: Ent.view da (df.map vu8) :: L)) := by
  refine Cs.of (n := 17) (args := [(.pointer (some ⟨ob, 0, none⟩)), (vi ((i : Nat) : Int)), (.agg ⟨xa.map vu8⟩), (.agg ⟨xb.map vu8⟩)]) Tryz.func19 rfl rfl rfl ?_
  refine WP.seq ?_
  refine WP.reg ?_
  refine WL.box (v := (.agg ⟨xa.map vu8⟩)) (segs := [(32, xa.map vu8)]) h_0 rfl rfl (SsOk.cons (SOk.u8 hxa) SsOk.nil) rfl (fun b_1 w_2 h_3 => ?_)
  refine WL.box (v := (.agg ⟨xb.map vu8⟩)) (segs := [(32, xb.map vu8)]) h_3 rfl rfl (SsOk.cons (SOk.u8 hxb) SsOk.nil) rfl (fun b_4 w_5 h_6 => ?_)
  refine WL.alloc (segs := [(32, (List.replicate 32 (0 : UInt8)).map vu8)]) h_6 (zv Tryz.typeInfo23 rfl) rfl (SsOk.cons (SOk.u8 (List.length_replicate ..)) SsOk.nil) rfl (fun b_7 w_8 h_9 => ?_)
  refine WL.nil ?_
  refine thn_n ?_
  refine WP.seq ?_
  refine WP.drawZ 8 (SL w00.heap.size [.blk b_7 .nw 23 [(32, (List.replicate 32 (0 : UInt8)).map vu8)], .blk b_4 .nw 23 [(32, xb.map vu8)], .blk b_1 .nw 23 [(32, xa.map vu8)]]) (.q 0 (.q 1 (.q 3 (.q 4 (.s 2 (.s 5 (.s 6 (.s 7 (.s 8 .nil))))))))) (by kernel_rfl) (by kernel_rfl) rfl (by kernel_rfl) (fun w_10 hc_12 => (SL.cons ((h_9.same hc_12).ok _ (.head _)) (SL.cons ((h_9.same hc_12).ok _ (.tail _ (.head _))) (SL.cons ((h_9.same hc_12).ok _ (.tail _ (.tail _ (.head _)))) (SL.nil _ _))))) (fun w_10 hc_12 => ?_)
  have h_11 := h_9.same hc_12
  refine ZT.q rfl (Wn.no rfl) rfl rfl (fun wq hS => R.move (v := (.pointer (some ⟨ob, 0, none⟩))) rfl) ?_
  refine ZT.q rfl (Wn.no rfl) rfl rfl (fun wq hS => R.move (v := (vi ((i : Nat) : Int))) rfl) ?_
  refine ZT.q rfl (Wn.no rfl) rfl rfl (fun wq hS => R.sliceA (b := b_1) (off := 0) (off' := 0) (l := 0) (h := 32) rfl EvB.dflt EvB.dflt (by decide) (by decide) Tryz.underlying23 Tryz.sizeOf5 rfl) ?_
  refine ZT.q rfl (Wn.no rfl) rfl rfl (fun wq hS => R.sliceA (b := b_4) (off := 0) (off' := 0) (l := 0) (h := 32) rfl EvB.dflt EvB.dflt (by decide) (by decide) Tryz.underlying23 Tryz.sizeOf5 rfl) ?_
  refine ZT.s ?_
  refine OpZ.one rfl (Wn.no rfl) ?_
  refine WL.call (al := [(vi ((i : Nat) : Int))]) Tryz.call44 rfl rfl (c_rword i _) rfl ?_
  rintro _ w_15 ⟨a_13, cap_14, rfl, hc_16, ho_17⟩
  have h_18 := h_11.gotRow hc_16 ho_17
  refine WL.nil ?_
  refine ⟨(SL.cons (h_18.ok _ (.tail _ (.head _))) (SL.cons (h_18.ok _ (.tail _ (.tail _ (.head _)))) (SL.cons (h_18.ok _ (.tail _ (.tail _ (.tail _ (.head _))))) (SL.nil _ _)))), ?_⟩
  refine ZT.s ?_
  refine OpZ.one rfl (Wn.no rfl) ?_
  refine WL.buildSl (vs := [(0, (.slice a_13 8 cap_14)), (1, (.slice (some ⟨b_1, 0, none⟩) 32 32)), (2, (.slice (some ⟨b_4, 0, none⟩) 32 32))]) (cs := [(.slice a_13 8 cap_14), (.slice (some ⟨b_1, 0, none⟩) 32 32), (.slice (some ⟨b_4, 0, none⟩) 32 32)]) h_18 Tryz.underlying85 Tryz.sizeOf81 (zv Tryz.typeInfo81 rfl) rfl rfl (by kernel_rfl) rfl (by simp [Value.oneCell']) rfl rfl (fun b_19 w_20 h_21 => ?_)
  refine WL.nil ?_
  refine ⟨(SL.cons (h_21.ok _ (.tail _ (.tail _ (.head _)))) (SL.cons (h_21.ok _ (.tail _ (.tail _ (.tail _ (.head _))))) (SL.cons (h_21.ok _ (.tail _ (.tail _ (.tail _ (.tail _ (.head _)))))) (SL.nil _ _)))), ?_⟩
  refine ZT.s ?_
  refine OpZ.one rfl (Wn.no rfl) ?_
  refine WL.call (al := [(.slice (some ⟨b_19, 0, none⟩) 3 3)]) Tryz.call45 rfl rfl (c_JoinR (some ⟨b_19, 0, none⟩) 3 3 [(.slice a_13 8 cap_14), (.slice (some ⟨b_1, 0, none⟩) 32 32), (.slice (some ⟨b_4, 0, none⟩) 32 32)] [leN 8 (UInt64.ofNat i).toNat, xa, xb] rfl (by simp only [List.flatten_cons, List.flatten_nil, List.length_append, List.length_nil, leN_len]; omega) (by omega) _ (viewB (h_21.ok _ (.head _)) Sg.h) (Sls.cons (leN_len ..) (h_21.own (.tail _ (.head _))).2.2.1 (ownView (h_21.ok _ (.tail _ (.head _)))) (Sls.cons hxa (by decide) (viewB (h_21.ok _ (.tail _ (.tail _ (.tail _ (.tail _ (.head _)))))) Sg.h) (Sls.cons hxb (by decide) (viewB (h_21.ok _ (.tail _ (.tail _ (.tail _ (.head _))))) Sg.h) Sls.nil)))) rfl ?_
  rintro _ w_24 ⟨a_22, cap_23, rfl, hc_25, ho_26⟩
  have h_27 := h_21.gotRow hc_25 ho_26
  refine WL.nil ?_
  refine ⟨(SL.cons (h_27.ok _ (.tail _ (.tail _ (.tail _ (.head _))))) (SL.cons (h_27.ok _ (.tail _ (.tail _ (.tail _ (.tail _ (.head _)))))) (SL.cons (h_27.ok _ (.tail _ (.tail _ (.tail _ (.tail _ (.tail _ (.head _))))))) (SL.nil _ _)))), ?_⟩
  refine ZT.s ?_
  refine OpZ.one rfl (Wn.no rfl) ?_
  have h_28 := h_27.rowView
  have h_29 := h_28.up (Pick.t (Pick.t (Pick.t (Pick.t (Pick.t (Pick.t (Pick.t (Pick.t (Pick.t Pick.h)))))))))
  have h_30 := h_29.up (Pick.t (Pick.t (Pick.t (Pick.t (Pick.t (Pick.t (Pick.t (Pick.t (Pick.t Pick.h)))))))))
  have h_31 := h_30.up (Pick.t (Pick.t (Pick.t (Pick.t (Pick.t (Pick.t (Pick.t (Pick.t (Pick.t Pick.h)))))))))
  have h_32 := h_31.up (Pick.t (Pick.t (Pick.t (Pick.t (Pick.t (Pick.t (Pick.t (Pick.t (Pick.t Pick.h)))))))))
  have h32_w_36 := (Lgs.ok32 (h_32.ok _ (.tail _ (.tail _ (.head _)))).1)
  refine WL.call (al := [(.pointer (some ⟨ob, 0, none⟩)), (vi 5), (.slice a_22 ([leN 8 (UInt64.ofNat i).toNat, xa, xb].flatten.length) cap_23)]) Tryz.call43 rfl rfl (c_rDig id ob ms df hms da dn dc u hdf la lc lx lg hu hlg 5 ([leN 8 (UInt64.ofNat i).toNat, xa, xb].flatten) a_22 [leN 8 (UInt64.ofNat i).toNat, xa, xb].flatten.length cap_23 (by omega) (by simp only [List.flatten_cons, List.flatten_nil, List.length_append, List.length_nil, leN_len]; omega) (rfl : List.length ([leN 8 (UInt64.ofNat i).toNat, xa, xb].flatten) = [leN 8 (UInt64.ofNat i).toNat, xa, xb].flatten.length) _ h_32) rfl ?_
  rintro _ w_36 ⟨la_33, lc_34, lx_35, rfl, h_37⟩
  refine WL.nil ?_
  refine ⟨(SL.cons (h_37.ok _ (.tail _ (.tail _ (.tail _ (.tail _ (.tail _ (.tail _ (.tail _ (.head _))))))))) (SL.cons (h_37.ok _ (.tail _ (.tail _ (.tail _ (.tail _ (.tail _ (.tail _ (.tail _ (.tail _ (.head _)))))))))) (SL.cons (h_37.ok _ (.tail _ (.tail _ (.tail _ (.tail _ (.tail _ (.tail _ (.tail _ (.tail _ (.tail _ (.head _))))))))))) (SL.nil _ _)))), ?_⟩
  refine ZT.s ?_
  refine OpZ.last rfl (Wn.no rfl) ?_
  refine WL.storeA (b := b_7) (off := 0) [] [(32, (List.replicate 32 (0 : UInt8)).map vu8)] [(32, (anD id df dn u lg (1, (List.replicate 32 (0 : UInt8)), 5, ([leN 8 (UInt64.ofNat i).toNat, xa, xb].flatten))).map vu8)] [] (ys := (anD id df dn u lg (1, (List.replicate 32 (0 : UInt8)), 5, ([leN 8 (UInt64.ofNat i).toNat, xa, xb].flatten))).map vu8) h_37 rfl rfl Tryz.sizeOf23 (At.t (At.t (At.t (At.t (At.t (At.t (At.t At.h))))))) (by decide) rfl rfl rfl rfl rfl rfl (SsOk.cons (SOk.u8 (anD_len hdf h32_w_36)) SsOk.nil) (fun w_38 h_39 => ?_)
  refine WL.nil ?_
  refine ZT.nil ?_
  refine thn_n ?_
  refine WP.ret ?_
  refine ret_of Tryz.results19 (RV.cell rfl (h_39.loadA (cs := (anD id df dn u lg (1, (List.replicate 32 (0 : UInt8)), 5, ([leN 8 (UInt64.ofNat i).toNat, xa, xb].flatten))).map vu8) Tryz.isAgg23 Tryz.sizeOf23 (.tail _ (.tail _ (.tail _ (.tail _ (.tail _ (.tail _ (.tail _ (.head _)))))))) rfl rfl) RV.nil) ?_
  have h_40 := h_39.up (Pick.t (Pick.t (Pick.t (Pick.t Pick.h))))
  have h_41 := h_40.drop rfl
  have h_42 := h_41.up (Pick.t (Pick.t (Pick.t (Pick.t Pick.h))))
  have h_43 := h_42.drop rfl
  have h_44 := h_43.up (Pick.t (Pick.t (Pick.t (Pick.t Pick.h))))
  have h_45 := h_44.drop rfl
  have h_46 := h_45.up (Pick.t (Pick.t (Pick.t (Pick.t Pick.h))))
  have h_47 := h_46.drop rfl
  have h_48 := h_47.up (Pick.t (Pick.t (Pick.t (Pick.t Pick.h))))
  have h_49 := h_48.drop rfl
  have h_50 := h_49.up (Pick.t (Pick.t (Pick.t (Pick.t Pick.h))))
  have h_51 := h_50.drop rfl
  have h_52 := h_51.up (Pick.t (Pick.t (Pick.t Pick.h)))
  have h_53 := h_52.up (Pick.t (Pick.t (Pick.t Pick.h)))
  have h_54 := h_53.up (Pick.t (Pick.t (Pick.t Pick.h)))
  have h_55 := h_54.up (Pick.t (Pick.t (Pick.t Pick.h)))
  exact ⟨_, _, _, rfl, h_55⟩

end Go.Proofs.YtbhllplbbkmndaaGreat

namespace Go.Vc
open Go.RowKit Go.ChangeShapes Go.WideShapes Go.ChangeAt
section
variable {P : Program} {w : World} {t : TypeId} {cs : List Value}
end
end Go.Vc

namespace Go.Orc
open Go.Vc Go.RowKit
def dr (df : List UInt8) (i : Nat) : List UInt8 := (df.drop (i * 32)).take 32
def Unl (df : List UInt8) (n : Nat) (d : List UInt8) : Prop := (∀ i, i < n → (∀ k, k < i → dr df k ≠ dr df i) ∧ df.getD (i * 32 + 31) 0 ≠ 1 ∧ dr df i ≠ d) ∧ d.getD 31 0 ≠ 1
def Apt (df : List UInt8) (n : Nat) : Prop := ∀ i, i < n → (∀ k, k < i → dr df k ≠ dr df i) ∧ df.getD (i * 32 + 31) 0 ≠ 1
section
variable {df : List UInt8} {n : Nat} {d : List UInt8}
def DL (df : List UInt8) (n u : Nat) (l : Lg) : Prop := u = l.length ∧ ∀ i, i < l.length → (l.getD i ((0, [], 0, []), [])).2 = drawF df n i
end
end Go.Orc
namespace Go.Vc
open Go.RowKit
section
variable {P : Program} {F : Fr} {w : World} {ty : TypeId} {pos : String} {after : Array Edge} {dst : Option Tmp} {g : Option (Nat × Bool)}
end
end Go.Vc
namespace Go.Vc
open Go.RowKit
section
variable {P : Program} {F : Fr} {w : World} {ty : TypeId} {pos : String} {after : Array Edge} {dst : Option Tmp} {g : Option (Nat × Bool)}
end
end Go.Vc

namespace Go.Orc
open Go.Vc Go.RowKit
def wnB (mn : Nat) (nd : UInt64) : Bool := decide (64 ≤ mn ∧ nd.toNat % 128 = 0 ∧ nd.toNat / 128 ≤ mn - 64)
theorem nd_mod {nd : UInt64} : nd % 128 = 0 ↔ nd.toNat % 128 = 0 := by
  rw [← UInt64.toNat_inj, UInt64.toNat_mod]; rfl
theorem nd_div {nd : UInt64} {k : Nat} (h : k < 1000) : nd / 128 ≤ UInt64.ofNat k ↔ nd.toNat / 128 ≤ k := by
  have e : (UInt64.ofNat k).toNat = k := by simp; omega
  rw [UInt64.le_iff_toNat_le, UInt64.toNat_div, e]; rfl
theorem wnB_at {mn : Nat} {nd : UInt64} (h : wnB mn nd = true) (hm : mn ≤ 100) : ∃ p, nd = UInt64.ofNat p ∧ p % 128 = 0 ∧ p + 8192 ≤ 128 * mn := by
  have h2 := of_decide_eq_true h
  exact ⟨nd.toNat, by simp, h2.2.1, by omega⟩
theorem wi64_p {p : Nat} (h : p < 1099511627776) : IntKind.i64.wrap ((UInt64.ofNat p).toNat : Int) = ((p : Nat) : Int) := by
  have e : (UInt64.ofNat p).toNat = p := by simp; omega
  rw [e]; exact w64i (by omega)
def sbL (l : List UInt8) (p w : Nat) : List UInt8 := (l.drop (p + 32 * (w ^^^ 1))).take 32
def upQ (w : Nat) (d s : List UInt8) : Qn := if w % 2 = 1 then (1, List.replicate 32 0, 5, [leN 8 (UInt64.ofNat (w / 2)).toNat, s, d].flatten) else (1, List.replicate 32 0, 5, [leN 8 (UInt64.ofNat (w / 2)).toNat, d, s].flatten)
def upS (id : Bool) (df : List UInt8) (dn : Nat) (l : List UInt8) (p pg u : Nat) (lg : Lg) (lf : List UInt8) : Nat → Nat × Lg × List UInt8
  | 0 => (u, lg, lf)
  | k + 1 => (anU id (upS id df dn l p pg u lg lf k).1 (upS id df dn l p pg u lg lf k).2.1 (upQ ((128 + pg) / 2 ^ k) (upS id df dn l p pg u lg lf k).2.2 (sbL l p ((128 + pg) / 2 ^ k))), anL id df dn (upS id df dn l p pg u lg lf k).1 (upS id df dn l p pg u lg lf k).2.1 (upQ ((128 + pg) / 2 ^ k) (upS id df dn l p pg u lg lf k).2.2 (sbL l p ((128 + pg) / 2 ^ k))), anD id df dn (upS id df dn l p pg u lg lf k).1 (upS id df dn l p pg u lg lf k).2.1 (upQ ((128 + pg) / 2 ^ k) (upS id df dn l p pg u lg lf k).2.2 (sbL l p ((128 + pg) / 2 ^ k))))
section
variable {id : Bool} {df : List UInt8} {dn : Nat} {l : List UInt8} {p pg u : Nat} {lg : Lg} {lf : List UInt8} {k : Nat}
end
def upM (l : List UInt8) (p pg : Nat) (D : Nat → List UInt8) : Nat → List UInt8
  | 0 => l
  | k + 1 => ovr (upM l p pg D k) (p + 32 * ((128 + pg) / 2 ^ k)) (D k)
section
variable {l : List UInt8} {p pg mn : Nat} {D : Nat → List UInt8}
end
def upF (D : Nat → List UInt8) : Nat → List UInt8
  | 0 => D 0
  | k + 1 => upF D k ++ D (k + 1)
end Go.Orc
namespace Go.Orc
open Go.Vc Go.RowKit
def upD (id : Bool) (df : List UInt8) (dn : Nat) (l : List UInt8) (p pg u : Nat) (lg : Lg) (lf : List UInt8) (k : Nat) : List UInt8 := (upS id df dn l p pg u lg lf k).2.2
end Go.Orc
namespace Go.Orc
open Go.Vc Go.RowKit
end Go.Orc

namespace Go.Proofs.YtbhllplbbkmndaaGreat
open Go.Proofs.Tryz
open Go.Vc Go.Orc Go.Sh Go.RowKit
set_option maxRecDepth 20000

theorem c_at (bm : Nat) (ma : Option Addr) (mn : Nat) (p i : Nat) (hw : p + 8192 ≤ 128 * mn) (hi : i < 256) (hm : mn ≤ 100) (l : List UInt8) (hl : l.length = 128 * mn) (w : World) (hcm : (Ent.blk bm .ro 112 [(1, [(.slice ma mn mn)])]).ok w.heap.size w) (hv : View w ma (l.map vu8)) :
  Cs Tryz.prog 50 [(.pointer (some ⟨bm, 0, none⟩)), (vu64 (UInt64.ofNat p)), (vi ((i : Nat) : Int))].toArray w (fun v w1 => v = (.agg ⟨((l.drop (p + 32 * i)).take 32).map vu8⟩) ∧ Chg w w1 []) := by
 refine Cs.of (n := 23) (args := [(pO bm 0), (vu64 (UInt64.ofNat p)), (vn i)]) Tryz.func50 rfl rfl rfl ?_
 have h_0 := HP.init w
 have h_01 := h_0.oldV (View.arg hv) rfl (by simp [Ent.mut])
 have h_00 := h_01.oldV hcm rfl (by simp [Ent.mut])
 refine WP.seq (WP.reg ?_)
 refine WL.alloc (segs := [(32, (zB 32).map vu8)]) h_00 (zv typeInfo23 rfl) rfl (sC (s8 lr) sN) rfl (fun b_1 w_2 h_3 => ?_)
 refine WL.nil (thn_n (WP.seq (WP.reg ?_)))
 refine qM (pO bm 0) rfl rfl (qM (vu64 (UInt64.ofNat p)) rfl rfl (qM (vn i) rfl rfl ?_))
 refine WL.call Tryz.call48 rfl rfl (c_place p i _ ) rfl ?_
 rintro _ w_5 ⟨rfl, hc_4⟩
 have h_6 := h_3.same hc_4
 refine WL.call Tryz.call51 rfl rfl (c_Read bm ma mn (p + 32 * i) 32 (by omega) (by omega) (by omega) l hl _ (h_6.argR M1) (viewV (h_6.ok _ M2))) rfl ?_
 rintro _ w_9 ⟨a_7, cap_8, rfl, hc_10, ho_11⟩
 have h_12 := h_6.gotRow hc_10 ho_11
 refine qM (.tuple [(.slice a_7 32 cap_8), (vi 0)].toArray) rfl rfl (qV rfl (R.extract rfl rfl) (qV rfl (R.extract rfl rfl) (qA (.slice a_7 32 cap_8) rfl rfl (qA (vi 0) rfl rfl ?_))))
 refine WL.nil (thn_n (WP.seq (WP.seq (WP.reg ?_))))
 refine qM (vi 0) rfl rfl (qV rfl (R.bin rfl rfl (bi_neq (r := false) (by decide))) ?_)
 refine WL.nil (thn_n ?_)
 refine WP.condF rfl ?_
 refine WP.skip (thn_n (WP.seq (WP.reg ?_)))
 refine qM (.slice a_7 32 cap_8) rfl rfl ?_
 obtain ⟨b_13, rr_14, ha_15, hb_16, hc_17⟩ := Own.open (h_12.own M0) (by decide)
 subst ha_15
 refine qV rfl (R.s2ap (a := (some ⟨b_13, 0, none⟩)) (k := 32) rfl underlying23 (by decide)) (qV rfl (R.loadGA (a := (some ⟨b_13, 0, none⟩)) (i := 0) (xs := ((l.drop (p + 32 * i)).take 32).map vu8) (cs := ((l.drop (p + 32 * i)).take 32).map vu8) rfl (ownView (h_12.ok _ M0)) isAgg23 sizeOf23 (by rw [List.drop_zero, List.take_of_length_le (by rw [len_map (subLen (K := 128 * mn) hl (by omega) : List.length ((l.drop (p + 32 * i)).take 32) = 32)]; exact Nat.le_refl _)]) (len_map (subLen (K := 128 * mn) hl (by omega) : List.length ((l.drop (p + 32 * i)).take 32) = 32)) (by decide)) ?_)
 refine WL.storeA [] [(32, (zB 32).map vu8)] [(32, ((l.drop (p + 32 * i)).take 32).map vu8)] [] h_12 rfl rfl sizeOf23 Y1 (by decide) rfl rfl rfl rfl rfl rfl (sC (s8 (subLen (K := 128 * mn) hl (by omega) : List.length ((l.drop (p + 32 * i)).take 32) = 32)) sN) (fun w_18 h_19 => ?_)
 refine WL.nil (thn_n (WP.ret ?_))
 refine ret_of results50 (RV.cell rfl (h_19.loadA (cs := ((l.drop (p + 32 * i)).take 32).map vu8) isAgg23 sizeOf23 M1 rfl rfl) RV.nil) ?_
 exact ⟨rfl, h_19.chgS⟩

theorem c_rAt (bk : Nat) (ka : Option Addr) (mn : Nat) (p i : Nat) (hw : p + 8192 ≤ 128 * mn) (hi : i < 256) (hm : mn ≤ 100) (l : List UInt8) (hl : l.length = 128 * mn) (w : World) (hcm : (Ent.blk bk .ro 95 [(1, [(.slice ka (128 * mn) (128 * mn))])]).ok w.heap.size w) (hv : View w ka (l.map vu8)) :
  Cs Tryz.prog 28 [(.pointer (some ⟨bk, 0, none⟩)), (vu64 (UInt64.ofNat p)), (vi ((i : Nat) : Int))].toArray w (fun v w1 => v = (.agg ⟨((l.drop (p + 32 * i)).take 32).map vu8⟩) ∧ Chg w w1 []) := by
 refine Cs.of (n := 21) (args := [(pO bk 0), (vu64 (UInt64.ofNat p)), (vn i)]) Tryz.func28 rfl rfl rfl ?_
 have h_0 := HP.init w
 have h_01 := h_0.oldV (View.arg hv) rfl (by simp [Ent.mut])
 have h_00 := h_01.oldV hcm rfl (by simp [Ent.mut])
 refine WP.seq (WP.reg ?_)
 refine WL.alloc (segs := [(32, (zB 32).map vu8)]) h_00 (zv typeInfo23 rfl) rfl (sC (s8 lr) sN) rfl (fun b_1 w_2 h_3 => ?_)
 refine WL.nil (thn_n (WP.seq (WP.reg ?_)))
 refine WL.alloc (segs := [(32, (zB 32).map vu8)]) h_3 (zv typeInfo23 rfl) rfl (sC (s8 lr) sN) rfl (fun b_4 w_5 h_6 => ?_)
 refine WL.nil (thn_n (WP.seq ?_))
 refine WP.drawT (SL w.heap.size [.blk b_1 .nw 23 [(32, (zB 32).map vu8)], .blk bk .ro 95 [(1, [(.slice ka (128 * mn) (128 * mn))])], .view ka (l.map vu8)]) (.q 0 (.q 1 (.q 2 (.q 3 (.q 4 (.q 5 (.q 6 (.q 7 (.q 8 (.q 9 (.q 10 (.s 11 .nil)))))))))))) (by kernel_rfl) (by kernel_rfl) rfl (by kernel_rfl) (fun w_7 hc_9 => (SL.cons ((h_6.same hc_9).ok _ M1) (SL.cons ((h_6.same hc_9).ok _ M2) (SL.cons ((h_6.same hc_9).ok _ M3) (SL.nil _ _))))) (fun w_7 hc_9 => ?_)
 have h_8 := h_6.same hc_9
 refine qT rfl rfl (fun wq hS => R.sliceA (b := b_4) (off := 0) (off' := 0) (l := 0) (h := 32) rfl EvB.dflt EvB.dflt (by decide) (by decide) underlying23 sizeOf5 rfl) ?_
 refine qT rfl rfl (fun wq hS => R.move (v := (pO bk 0)) rfl) ?_
 refine qT rfl rfl (fun wq hS => R.nilCheck rfl) ?_
 refine qT rfl rfl (fun wq hS => R.fieldAddr (off' := 0) rfl underlying95 rfl sizeOf81 rfl rfl) ?_
 refine qT rfl rfl (fun wq hS => R.load1 rfl isAgg81 (hS _ M1) Sg.h) ?_
 refine qT rfl rfl (fun wq hS => R.move (v := (vu64 (UInt64.ofNat p))) rfl) ?_
 refine qT rfl rfl (fun wq hS => R.conv (b := ((p : Nat) : Int)) rfl underlying26 underlying3 (wi64_p (by omega))) ?_
 refine qT rfl rfl (fun wq hS => R.move (v := (vn i)) rfl) ?_
 refine qT rfl rfl (fun wq hS => R.bin rfl rfl (bi_mul (c := ((32 * i : Nat) : Int)) (by omega) (by omega))) ?_
 refine qT rfl rfl (fun wq hS => R.bin rfl rfl (bi_add (c := ((p + (32 * i) : Nat) : Int)) (by omega) (by omega))) ?_
 refine qT rfl rfl (fun wq hS => R.sliceS (a := ka) (len := (128 * mn)) (l := p + (32 * i)) (h := (128 * mn)) rfl (EvB.it (l := p + (32 * i)) rfl rfl) EvB.dflt (by omega) (by omega) underlying81 sizeOf5) ?_
 refine WT.s (oN rfl ?_)
 refine WL.copy (q := 32) (i := 0) (ys := ((l.drop (p + (32 * i))).take ((128 * mn) - (p + (32 * i)))).map vu8) (cs' := (((l.drop (p + (32 * i))).take ((128 * mn) - (p + (32 * i)))).take 32).map vu8) h_8 rfl rfl underlying81 sizeOf5 (View.slM (l := p + (32 * i)) (m := (128 * mn)) (k := (128 * mn) - (p + (32 * i))) (viewV (h_8.ok _ M3)) (by omega)) (len_map (subLen (K := (128 * mn)) hl (by omega) : List.length ((l.drop (p + (32 * i))).take ((128 * mn) - (p + (32 * i)))) = (128 * mn) - (p + (32 * i)))) (one_u8 _) At.h (by decide) Sg.h rfl (Nat.min_eq_right (by omega)) (by rw [len_map lr]; decide) (by simp only [List.map_append, List.map_take, List.map_drop, List.take_zero, List.nil_append, Nat.zero_add, List.map_replicate, List.drop_replicate, Nat.sub_self, List.replicate_zero, List.append_nil]) rfl (fun w_10 h_11 => ?_)
 refine WL.nil ?_
 refine ⟨(N1_2_3 h_11.ok), ?_⟩
 refine WT.nil (thn_n (WP.seq (WP.reg ?_)))
 refine qV rfl (R.loadA [] [(32, (((l.drop (p + (32 * i))).take ((128 * mn) - (p + (32 * i)))).take 32).map vu8)] [] (cs := (((l.drop (p + (32 * i))).take ((128 * mn) - (p + (32 * i)))).take 32).map vu8) rfl isAgg23 sizeOf23 (h_11.ok _ M0) rfl rfl rfl rfl) ?_
 refine WL.storeA [] [(32, (zB 32).map vu8)] [(32, (((l.drop (p + (32 * i))).take ((128 * mn) - (p + (32 * i)))).take 32).map vu8)] [] h_11 rfl rfl sizeOf23 Y1 (by decide) rfl rfl rfl rfl rfl rfl (sC (s8 (by rw [List.length_take, (subLen (K := (128 * mn)) hl (by omega) : List.length ((l.drop (p + (32 * i))).take ((128 * mn) - (p + (32 * i)))) = (128 * mn) - (p + (32 * i)))]; omega)) sN) (fun w_12 h_13 => ?_)
 refine WL.nil (thn_n (WP.ret ?_))
 refine ret_of results28 (RV.cell rfl (h_13.loadA (cs := (((l.drop (p + (32 * i))).take ((128 * mn) - (p + (32 * i)))).take 32).map vu8) isAgg23 sizeOf23 M1 rfl rfl) RV.nil) ?_
 exact ⟨by rw [List.take_take, Nat.min_eq_left (by omega)]; rfl, h_13.chgS⟩

theorem c_rput {w00 : World} {L : List Ent} (bk : Nat) (ka : Option Addr) (mn : Nat) (p i : Nat) (hw : p + 8192 ≤ 128 * mn) (hi : i < 256) (hm : mn ≤ 100) (l : List UInt8) (hl : l.length = 128 * mn) (d : List UInt8) (hd : d.length = 32) (w : World) (h_0 : HP w00 w (Ent.blk bk .nw 95 [(1, [(.slice ka (128 * mn) (128 * mn))])] :: Ent.row ka (128 * mn) (128 * mn) 5 1 (l.map vu8) :: L)) :
  Cs Tryz.prog 52 [(.pointer (some ⟨bk, 0, none⟩)), (vu64 (UInt64.ofNat p)), (vi ((i : Nat) : Int)), (.agg ⟨d.map vu8⟩)].toArray w (fun v w1 => v = .tuple [].toArray ∧ HP w00 w1 (Ent.blk bk .nw 95 [(1, [(.slice ka (128 * mn) (128 * mn))])] :: Ent.row ka (128 * mn) (128 * mn) 5 1 ((ovr l (p + 32 * i) d).map vu8) :: L)) := by
 refine Cs.of (n := 20) (args := [(pO bk 0), (vu64 (UInt64.ofNat p)), (vn i), (.agg ⟨d.map vu8⟩)]) Tryz.func52 rfl rfl rfl ?_
 refine WP.seq (WP.reg ?_)
 refine WL.box (segs := [(32, d.map vu8)]) h_0 rfl rfl (sC (s8 hd) sN) rfl (fun b_1 w_2 h_3 => ?_)
 refine WL.nil (thn_n ?_)
 refine WP.drawT (SL w00.heap.size [.blk b_1 .nw 23 [(32, d.map vu8)], .blk bk .nw 95 [(1, [(.slice ka (128 * mn) (128 * mn))])]]) (.q 0 (.q 1 (.q 2 (.q 3 (.q 4 (.q 5 (.q 6 (.q 7 (.q 8 (.q 9 (.q 10 (.s 11 .nil)))))))))))) (by kernel_rfl) (by kernel_rfl) rfl (by kernel_rfl) (fun w_4 hc_6 => (SL.cons ((h_3.same hc_6).ok _ M0) (SL.cons ((h_3.same hc_6).ok _ M1) (SL.nil _ _)))) (fun w_4 hc_6 => ?_)
 have h_5 := h_3.same hc_6
 refine qT rfl rfl (fun wq hS => R.move (v := (pO bk 0)) rfl) ?_
 refine qT rfl rfl (fun wq hS => R.nilCheck rfl) ?_
 refine qT rfl rfl (fun wq hS => R.fieldAddr (off' := 0) rfl underlying95 rfl sizeOf81 rfl rfl) ?_
 refine qT rfl rfl (fun wq hS => R.load1 rfl isAgg81 (hS _ M1) Sg.h) ?_
 refine qT rfl rfl (fun wq hS => R.move (v := (vu64 (UInt64.ofNat p))) rfl) ?_
 refine qT rfl rfl (fun wq hS => R.conv (b := ((p : Nat) : Int)) rfl underlying26 underlying3 (wi64_p (by omega))) ?_
 refine qT rfl rfl (fun wq hS => R.move (v := (vn i)) rfl) ?_
 refine qT rfl rfl (fun wq hS => R.bin rfl rfl (bi_mul (c := ((32 * i : Nat) : Int)) (by omega) (by omega))) ?_
 refine qT rfl rfl (fun wq hS => R.bin rfl rfl (bi_add (c := ((p + (32 * i) : Nat) : Int)) (by omega) (by omega))) ?_
 refine qT rfl rfl (fun wq hS => R.sliceS (a := ka) (len := (128 * mn)) (l := p + (32 * i)) (h := (128 * mn)) rfl (EvB.it (l := p + (32 * i)) rfl rfl) EvB.dflt (by omega) (by omega) underlying81 sizeOf5) ?_
 refine qT rfl rfl (fun wq hS => R.sliceA (b := b_1) (off := 0) (off' := 0) (l := 0) (h := 32) rfl EvB.dflt EvB.dflt (by decide) (by decide) underlying23 sizeOf5 rfl) ?_
 refine WT.s (oN rfl ?_)
 refine WL.copyR (q := 32) (i := p + (32 * i)) (ys := d.map vu8) (xs' := (ovr l (p + (32 * i)) d).map vu8) h_5 rfl rfl underlying81 sizeOf5 (viewB (h_5.ok _ M0) Sg.h) (len_map hd) (one_u8 _) Y2 (slA_at (by omega)) (Nat.min_eq_left (by omega)) (by omega) (by rw [len_map hl]; omega) (ovr_mapQ hd) rfl (fun w_7 h_8 => ?_)
 refine WL.nil ?_
 refine ⟨(N0_1 h_8.ok), ?_⟩
 refine WT.nil (ret_n ?_)
 refine ret_of results52 RV.nil ?_
 have h_11 := ((h_8.drop rfl).up J1).up J1
 exact ⟨rfl, h_11⟩

theorem c_WithinB (bm : Nat) (ma : Option Addr) (mn : Nat) (nd : UInt64) (hm : mn ≤ 100) (w : World) (hcm : (Ent.blk bm .ro 112 [(1, [(.slice ma mn mn)])]).ok w.heap.size w) :
  Cs Tryz.prog 23 [(.pointer (some ⟨bm, 0, none⟩)), (vu64 nd)].toArray w (fun v w1 => v = (.bool (wnB mn nd)) ∧ Chg w w1 []) := by
 refine Cs.of (n := 23) (args := [(pO bm 0), (vu64 nd)]) Tryz.func23 rfl rfl rfl ?_
 have h_0 := HP.init w
 have h_00 := h_0.old hcm (fun f hf => by cases hf)
 refine WP.seq (WP.reg ?_)
 refine qA (.bool false) rfl rfl ?_
 refine WL.nil (thn_n (WP.seq (WP.reg ?_)))
 refine qM (pO bm 0) rfl rfl ?_
 refine WL.call Tryz.call49 rfl rfl (c_gran bm ma mn _ (h_00.argR M0)) rfl ?_
 rintro _ w_2 ⟨rfl, hc_1⟩
 have h_3 := h_00.same hc_1
 refine qA (vn mn) rfl rfl ?_
 refine WL.nil (thn_n (WP.seq (WP.reg ?_)))
 refine qM (vn mn) rfl rfl (qV rfl (R.bin rfl rfl (bi_geq (r := decide ((((mn : Nat) : Int) : Int) ≥ 64)) rfl)) (qM (.bool (decide ((((mn : Nat) : Int) : Int) ≥ 64))) rfl rfl ?_))
 rcases Bool.eq_false_or_eq_true (decide ((((mn : Nat) : Int) : Int) ≥ 64)) with c_4 | c_4
 ·have p_5 := of_decide_eq_true c_4
  refine WL.want rfl (congrArg Value.bool c_4) ?_
  refine qM (vu64 nd) rfl rfl ?_
  refine WL.want rfl (congrArg Value.bool c_4) ?_
  refine qV rfl (R.bin (v := (vu64 (nd % 128))) rfl rfl (b64_rem nd 128 (by decide))) ?_
  refine WL.want rfl (congrArg Value.bool c_4) ?_
  refine qV rfl (R.bin (v := (.bool (decide ((nd % 128 : UInt64) = 0)))) rfl rfl (b64_eql (nd % 128) 0 (r := decide ((nd % 128 : UInt64) = 0)) rfl)) (qV rfl (R.pickT (v := (.bool (decide ((nd % 128 : UInt64) = 0)))) (congrArg Value.bool c_4) rfl) (qM (.bool (decide ((nd % 128 : UInt64) = 0))) rfl rfl ?_))
  rcases Bool.eq_false_or_eq_true (decide ((nd % 128 : UInt64) = 0)) with c_6 | c_6
  ·have p_7 := of_decide_eq_true c_6
   refine WL.want rfl (congrArg Value.bool c_6) ?_
   refine qM (vu64 nd) rfl rfl ?_
   refine WL.want rfl (congrArg Value.bool c_6) ?_
   refine qV rfl (R.bin (v := (vu64 (nd / 128))) rfl rfl (b64_quo nd 128 (by decide))) ?_
   refine WL.want rfl (congrArg Value.bool c_6) ?_
   refine qM (vn mn) rfl rfl ?_
   refine WL.want rfl (congrArg Value.bool c_6) ?_
   refine qV rfl (R.bin rfl rfl (bi_sub (c := ((mn - 64 : Nat) : Int)) (by omega) (by omega))) ?_
   refine WL.want rfl (congrArg Value.bool c_6) ?_
   refine qV rfl (R.conv (b := ((UInt64.ofNat (mn - 64)) : UInt64).toNat) rfl underlying3 underlying26 (w64_nat (mn - 64))) ?_
   refine WL.want rfl (congrArg Value.bool c_6) ?_
   refine qV rfl (R.bin (v := (.bool (decide ((nd / 128 : UInt64) ≤ (UInt64.ofNat (mn - 64)))))) rfl rfl (b64_leq (nd / 128) (UInt64.ofNat (mn - 64)) (r := decide ((nd / 128 : UInt64) ≤ (UInt64.ofNat (mn - 64)))) rfl)) (qV rfl (R.pickT (v := (.bool (decide ((nd / 128 : UInt64) ≤ (UInt64.ofNat (mn - 64)))))) (congrArg Value.bool c_6) rfl) (qA (.bool (decide ((nd / 128 : UInt64) ≤ (UInt64.ofNat (mn - 64))))) rfl rfl ?_))
   refine WL.nil (thn_n (WP.ret ?_))
   refine ret_of results23 (RV.tmp (v := (.bool (decide ((nd / 128 : UInt64) ≤ (UInt64.ofNat (mn - 64)))))) rfl RV.nil) ?_
   exact ⟨congrArg Value.bool (by unfold wnB; exact decide_eq_decide.2 ⟨fun x => ⟨by omega, nd_mod.1 p_7, (nd_div (by omega)).1 x⟩, fun x => (nd_div (by omega)).2 x.2.2⟩), h_3.chgS⟩
  ·have p_8 := of_decide_eq_false c_6
   refine WL.skip rfl (congrArg Value.bool c_6) rfl ?_
   refine WL.skip rfl (congrArg Value.bool c_6) rfl ?_
   refine WL.skip rfl (congrArg Value.bool c_6) rfl ?_
   refine WL.skip rfl (congrArg Value.bool c_6) rfl ?_
   refine WL.skip rfl (congrArg Value.bool c_6) rfl ?_
   refine WL.skip rfl (congrArg Value.bool c_6) rfl ?_
   refine qV rfl (R.pickF (v := (.bool false)) (congrArg Value.bool c_6) rfl) (qA (.bool false) rfl rfl ?_)
   refine WL.nil (thn_n (WP.ret ?_))
   refine ret_of results23 (RV.tmp (v := (.bool false)) rfl RV.nil) ?_
   exact ⟨congrArg Value.bool (by unfold wnB; exact (decide_eq_false fun x => p_8 (nd_mod.2 x.2.1)).symm), h_3.chgS⟩
 ·have p_9 := of_decide_eq_false c_4
  refine WL.skip rfl (congrArg Value.bool c_4) rfl ?_
  refine WL.skip rfl (congrArg Value.bool c_4) rfl ?_
  refine WL.skip rfl (congrArg Value.bool c_4) rfl ?_
  refine qV rfl (R.pickF (v := (.bool false)) (congrArg Value.bool c_4) rfl) (qM (.bool false) rfl rfl ?_)
  refine WL.skip rfl rfl rfl ?_
  refine WL.skip rfl rfl rfl ?_
  refine WL.skip rfl rfl rfl ?_
  refine WL.skip rfl rfl rfl ?_
  refine WL.skip rfl rfl rfl ?_
  refine WL.skip rfl rfl rfl ?_
  refine qV rfl (R.pickF (v := (.bool false)) rfl rfl) (qA (.bool false) rfl rfl ?_)
  refine WL.nil (thn_n (WP.ret ?_))
  refine ret_of results23 (RV.tmp (v := (.bool false)) rfl RV.nil) ?_
  exact ⟨congrArg Value.bool (by unfold wnB; exact (decide_eq_false fun x => by have := x.1; omega).symm), h_3.chgS⟩

theorem c_rWithin (mn : Nat) (nd : UInt64) (hm : mn ≤ 100) (w : World) :
  Cs Tryz.prog 22 [(vi ((mn : Nat) : Int)), (vu64 nd)].toArray w (fun v w1 => v = (.bool (wnB mn nd)) ∧ Chg w w1 []) := by
 refine Cs.of (n := 20) (args := [(vn mn), (vu64 nd)]) Tryz.func22 rfl rfl rfl ?_
 have h_0 := HP.init w
 refine WP.seq (WP.reg ?_)
 refine qA (.bool false) rfl rfl ?_
 refine WL.nil (thn_n (WP.seq (WP.reg ?_)))
 refine qM (vu64 nd) rfl rfl (qV rfl (R.bin (v := (vu64 (nd % 128))) rfl rfl (b64_rem nd 128 (by decide))) (qV rfl (R.bin (v := (.bool (decide ((nd % 128 : UInt64) = 0)))) rfl rfl (b64_eql (nd % 128) 0 (r := decide ((nd % 128 : UInt64) = 0)) rfl)) (qM (.bool (decide ((nd % 128 : UInt64) = 0))) rfl rfl ?_)))
 rcases Bool.eq_false_or_eq_true (decide ((nd % 128 : UInt64) = 0)) with c_1 | c_1
 ·have p_2 := of_decide_eq_true c_1
  refine WL.want rfl (congrArg Value.bool c_1) ?_
  refine qM (vn mn) rfl rfl ?_
  refine WL.want rfl (congrArg Value.bool c_1) ?_
  refine qV rfl (R.bin rfl rfl (bi_geq (r := decide ((((mn : Nat) : Int) : Int) ≥ 64)) rfl)) (qV rfl (R.pickT (v := (.bool (decide ((((mn : Nat) : Int) : Int) ≥ 64)))) (congrArg Value.bool c_1) rfl) (qM (.bool (decide ((((mn : Nat) : Int) : Int) ≥ 64))) rfl rfl ?_))
  rcases Bool.eq_false_or_eq_true (decide ((((mn : Nat) : Int) : Int) ≥ 64)) with c_3 | c_3
  ·have p_4 := of_decide_eq_true c_3
   refine WL.want rfl (congrArg Value.bool c_3) ?_
   refine qM (vu64 nd) rfl rfl ?_
   refine WL.want rfl (congrArg Value.bool c_3) ?_
   refine qV rfl (R.bin (v := (vu64 (nd / 128))) rfl rfl (b64_quo nd 128 (by decide))) ?_
   refine WL.want rfl (congrArg Value.bool c_3) ?_
   refine qM (vn mn) rfl rfl ?_
   refine WL.want rfl (congrArg Value.bool c_3) ?_
   refine qV rfl (R.bin rfl rfl (bi_sub (c := ((mn - 64 : Nat) : Int)) (by omega) (by omega))) ?_
   refine WL.want rfl (congrArg Value.bool c_3) ?_
   refine qV rfl (R.conv (b := ((UInt64.ofNat (mn - 64)) : UInt64).toNat) rfl underlying3 underlying26 (w64_nat (mn - 64))) ?_
   refine WL.want rfl (congrArg Value.bool c_3) ?_
   refine qV rfl (R.bin (v := (.bool (decide ((nd / 128 : UInt64) ≤ (UInt64.ofNat (mn - 64)))))) rfl rfl (b64_leq (nd / 128) (UInt64.ofNat (mn - 64)) (r := decide ((nd / 128 : UInt64) ≤ (UInt64.ofNat (mn - 64)))) rfl)) (qV rfl (R.pickT (v := (.bool (decide ((nd / 128 : UInt64) ≤ (UInt64.ofNat (mn - 64)))))) (congrArg Value.bool c_3) rfl) (qA (.bool (decide ((nd / 128 : UInt64) ≤ (UInt64.ofNat (mn - 64))))) rfl rfl ?_))
   refine WL.nil (thn_n (WP.ret ?_))
   refine ret_of results22 (RV.tmp (v := (.bool (decide ((nd / 128 : UInt64) ≤ (UInt64.ofNat (mn - 64)))))) rfl RV.nil) ?_
   exact ⟨congrArg Value.bool (by unfold wnB; exact decide_eq_decide.2 ⟨fun x => ⟨by omega, nd_mod.1 p_2, (nd_div (by omega)).1 x⟩, fun x => (nd_div (by omega)).2 x.2.2⟩), h_0.chgS⟩
  ·have p_5 := of_decide_eq_false c_3
   refine WL.skip rfl (congrArg Value.bool c_3) rfl ?_
   refine WL.skip rfl (congrArg Value.bool c_3) rfl ?_
   refine WL.skip rfl (congrArg Value.bool c_3) rfl ?_
   refine WL.skip rfl (congrArg Value.bool c_3) rfl ?_
   refine WL.skip rfl (congrArg Value.bool c_3) rfl ?_
   refine WL.skip rfl (congrArg Value.bool c_3) rfl ?_
   refine qV rfl (R.pickF (v := (.bool false)) (congrArg Value.bool c_3) rfl) (qA (.bool false) rfl rfl ?_)
   refine WL.nil (thn_n (WP.ret ?_))
   refine ret_of results22 (RV.tmp (v := (.bool false)) rfl RV.nil) ?_
   exact ⟨congrArg Value.bool (by unfold wnB; exact (decide_eq_false fun x => by have := x.1; omega).symm), h_0.chgS⟩
 ·have p_6 := of_decide_eq_false c_1
  refine WL.skip rfl (congrArg Value.bool c_1) rfl ?_
  refine WL.skip rfl (congrArg Value.bool c_1) rfl ?_
  refine qV rfl (R.pickF (v := (.bool false)) (congrArg Value.bool c_1) rfl) (qM (.bool false) rfl rfl ?_)
  refine WL.skip rfl rfl rfl ?_
  refine WL.skip rfl rfl rfl ?_
  refine WL.skip rfl rfl rfl ?_
  refine WL.skip rfl rfl rfl ?_
  refine WL.skip rfl rfl rfl ?_
  refine WL.skip rfl rfl rfl ?_
  refine qV rfl (R.pickF (v := (.bool false)) rfl rfl) (qA (.bool false) rfl rfl ?_)
  refine WL.nil (thn_n (WP.ret ?_))
  refine ret_of results22 (RV.tmp (v := (.bool false)) rfl RV.nil) ?_
  exact ⟨congrArg Value.bool (by unfold wnB; exact (decide_eq_false fun x => p_6 (nd_mod.2 x.2.1)).symm), h_0.chgS⟩

theorem c_askG_t (id : Bool) (ob mp : Nat) (ms : List UInt8) (hms : ms.length = 32) (da : Option Addr) (dn dc u : Nat) (la : Option Addr) (ln lc : Nat) (bm : Nat) (ma : Option Addr) (mn : Nat) (hm : mn ≤ 100) (hm1 : 1 ≤ mn) (pg : Nat) (h : pg < 128) (nd : UInt64) (hwn : wnB mn nd = true) (w : World) (hcb : (Ent.blk ob .ro 106 [(1, [(.bool id)]), (32, ms.map vu8), (1, [(.slice da dn dc)]), (1, [(vi ((u : Nat) : Int))]), (1, [(.map (some mp))]), (1, [(.slice la ln lc)])]).ok w.heap.size w) (hcm : (Ent.blk bm .ro 112 [(1, [(.slice ma mn mn)])]).ok w.heap.size w) :
  Cs Tryz.prog 46 [(.pointer (some ⟨ob, 0, none⟩)), (.pointer (some ⟨bm, 0, none⟩)), (vu64 nd), (vi ((pg : Nat) : Int))].toArray w (fun v w1 => v = (vi 0) ∧ Chg w w1 []) := by
 refine Cs.of (n := 28) (args := [(pO ob 0), (pO bm 0), (vu64 nd), (vn pg)]) Tryz.func46 rfl rfl rfl ?_
 have h_0 := HP.init w
 have h_01 := h_0.oldV hcb rfl (by simp [Ent.mut])
 have h_00 := h_01.oldV hcm rfl (by simp [Ent.mut])
 refine WP.seq (WP.reg ?_)
 refine qA (vi 0) rfl rfl ?_
 refine WL.nil (thn_n (WP.seq (WP.block (WP.seq (WP.reg ?_)))))
 refine qM (pO ob 0) rfl rfl ?_
 refine WL.call Tryz.call39 rfl rfl (c_tth id ob mp ms hms da dn dc u la ln lc _ (h_00.argR M1)) rfl ?_
 rintro _ w_2 ⟨rfl, hc_1⟩
 have h_3 := h_00.same hc_1
 refine qV rfl (R.not (b := true) rfl) (qM (.bool false) rfl rfl ?_)
 refine WL.want rfl rfl ?_
 refine qM (pO bm 0) rfl rfl ?_
 refine WL.want rfl rfl ?_
 refine WL.call Tryz.call49 rfl rfl (c_gran bm ma mn _ (h_3.argR M0)) rfl ?_
 rintro _ w_5 ⟨rfl, hc_4⟩
 have h_6 := h_3.same hc_4
 refine WL.want rfl rfl ?_
 refine qV rfl (R.bin rfl rfl (bi_eql (r := decide ((((mn : Nat) : Int) : Int) = 0)) rfl)) (qV rfl (R.pickF (v := (.bool (decide ((((mn : Nat) : Int) : Int) = 0)))) rfl rfl) (qA (.bool (decide ((((mn : Nat) : Int) : Int) = 0))) rfl rfl ?_))
 refine WL.nil (thn_n ?_)
 refine WP.condF (congrArg Value.bool (decide_eq_false (by omega))) ?_
 refine WP.seq (WP.reg ?_)
 refine qM (vn pg) rfl rfl ?_
 refine WL.call Tryz.call40 rfl rfl (c_prot_t pg (by omega) _ ) rfl ?_
 rintro _ w_8 ⟨rfl, hc_7⟩
 have h_9 := h_6.same hc_7
 refine qV rfl (R.not (b := true) rfl) (qM (.bool false) rfl rfl ?_)
 refine WL.want rfl rfl ?_
 refine qM (pO bm 0) rfl rfl ?_
 refine WL.want rfl rfl ?_
 refine qM (vu64 nd) rfl rfl ?_
 refine WL.want rfl rfl ?_
 refine WL.call Tryz.call23 rfl rfl (c_WithinB bm ma mn nd (by omega) _ (h_9.argR M0)) rfl ?_
 rintro _ w_11 ⟨rfl, hc_10⟩
 have h_12 := h_9.same hc_10
 refine WL.want rfl rfl ?_
 refine qV rfl (R.not (b := true) (congrArg Value.bool hwn)) (qV rfl (R.pickF (v := (.bool false)) rfl rfl) (qA (.bool false) rfl rfl ?_))
 refine WL.nil (thn_n ?_)
 refine WP.condF rfl ?_
 refine WP.skip (inb_n (thn_n (WP.seq (WP.reg ?_))))
 refine qA (vi 0) rfl rfl ?_
 refine WL.nil (thn_n (WP.ret ?_))
 refine ret_of results46 (RV.tmp (v := (vi 0)) rfl RV.nil) ?_
 exact ⟨rfl, h_12.chgS⟩

theorem c_askG_w (id : Bool) (ob mp : Nat) (ms : List UInt8) (hms : ms.length = 32) (da : Option Addr) (dn dc u : Nat) (la : Option Addr) (ln lc : Nat) (bm : Nat) (ma : Option Addr) (mn : Nat) (hm : mn ≤ 100) (hm1 : 1 ≤ mn) (pg : Nat) (h : pg < 128) (nd : UInt64) (hwn : wnB mn nd = false) (w : World) (hcb : (Ent.blk ob .ro 106 [(1, [(.bool id)]), (32, ms.map vu8), (1, [(.slice da dn dc)]), (1, [(vi ((u : Nat) : Int))]), (1, [(.map (some mp))]), (1, [(.slice la ln lc)])]).ok w.heap.size w) (hcm : (Ent.blk bm .ro 112 [(1, [(.slice ma mn mn)])]).ok w.heap.size w) :
  Cs Tryz.prog 46 [(.pointer (some ⟨ob, 0, none⟩)), (.pointer (some ⟨bm, 0, none⟩)), (vu64 nd), (vi ((pg : Nat) : Int))].toArray w (fun v w1 => v = (vi 2) ∧ Chg w w1 []) := by
 refine Cs.of (n := 28) (args := [(pO ob 0), (pO bm 0), (vu64 nd), (vn pg)]) Tryz.func46 rfl rfl rfl ?_
 have h_0 := HP.init w
 have h_01 := h_0.oldV hcb rfl (by simp [Ent.mut])
 have h_00 := h_01.oldV hcm rfl (by simp [Ent.mut])
 refine WP.seq (WP.reg ?_)
 refine qA (vi 0) rfl rfl ?_
 refine WL.nil (thn_n (WP.seq (WP.block (WP.seq (WP.reg ?_)))))
 refine qM (pO ob 0) rfl rfl ?_
 refine WL.call Tryz.call39 rfl rfl (c_tth id ob mp ms hms da dn dc u la ln lc _ (h_00.argR M1)) rfl ?_
 rintro _ w_2 ⟨rfl, hc_1⟩
 have h_3 := h_00.same hc_1
 refine qV rfl (R.not (b := true) rfl) (qM (.bool false) rfl rfl ?_)
 refine WL.want rfl rfl ?_
 refine qM (pO bm 0) rfl rfl ?_
 refine WL.want rfl rfl ?_
 refine WL.call Tryz.call49 rfl rfl (c_gran bm ma mn _ (h_3.argR M0)) rfl ?_
 rintro _ w_5 ⟨rfl, hc_4⟩
 have h_6 := h_3.same hc_4
 refine WL.want rfl rfl ?_
 refine qV rfl (R.bin rfl rfl (bi_eql (r := decide ((((mn : Nat) : Int) : Int) = 0)) rfl)) (qV rfl (R.pickF (v := (.bool (decide ((((mn : Nat) : Int) : Int) = 0)))) rfl rfl) (qA (.bool (decide ((((mn : Nat) : Int) : Int) = 0))) rfl rfl ?_))
 refine WL.nil (thn_n ?_)
 refine WP.condF (congrArg Value.bool (decide_eq_false (by omega))) ?_
 refine WP.seq (WP.reg ?_)
 refine qM (vn pg) rfl rfl ?_
 refine WL.call Tryz.call40 rfl rfl (c_prot_t pg (by omega) _ ) rfl ?_
 rintro _ w_8 ⟨rfl, hc_7⟩
 have h_9 := h_6.same hc_7
 refine qV rfl (R.not (b := true) rfl) (qM (.bool false) rfl rfl ?_)
 refine WL.want rfl rfl ?_
 refine qM (pO bm 0) rfl rfl ?_
 refine WL.want rfl rfl ?_
 refine qM (vu64 nd) rfl rfl ?_
 refine WL.want rfl rfl ?_
 refine WL.call Tryz.call23 rfl rfl (c_WithinB bm ma mn nd (by omega) _ (h_9.argR M0)) rfl ?_
 rintro _ w_11 ⟨rfl, hc_10⟩
 have h_12 := h_9.same hc_10
 refine WL.want rfl rfl ?_
 refine qV rfl (R.not (b := false) (congrArg Value.bool hwn)) (qV rfl (R.pickF (v := (.bool true)) rfl rfl) (qA (.bool true) rfl rfl ?_))
 refine WL.nil (thn_n ?_)
 refine WP.condT rfl ?_
 refine WP.seq (WP.reg ?_)
 refine qA (vi 2) rfl rfl ?_
 refine WL.nil (thn_n (WP.ret (inb_r (thn_r ?_))))
 refine ret_of results46 (RV.tmp (v := (vi 2)) rfl RV.nil) ?_
 exact ⟨rfl, h_12.chgS⟩

end Go.Proofs.YtbhllplbbkmndaaGreat

namespace Go.Proofs.YtbhllplbbkmndaaGreat
open Go.Proofs.Tryz
open Go.Vc Go.Orc Go.Sh Go.RowKit
set_option maxRecDepth 20000

theorem c_known15  (w : World) :
  Cs Tryz.prog 7 [].toArray w (fun v w1 => v = (.bool true) ∧ Chg w w1 []) := by
 refine Cs.of (n := 81) (args := []) Tryz.func7 rfl rfl rfl ?_
 have h_0 := HP.init w
 refine WP.seq (WP.reg ?_)
 refine qA (.bool false) rfl rfl ?_
 refine WL.nil (thn_n (WP.seq (WP.reg ?_)))
 refine WL.call Tryz.call10 rfl rfl (c_Way_t 0 (by omega) _) rfl ?_
 rintro _ w_3 ⟨a_1, cap_2, rfl, hc_4, ho_5⟩
 have h_6 := h_0.gotRow hc_4 ho_5
 refine qM (.tuple [(.slice a_1 8 cap_2), (vi 0)].toArray) rfl rfl (qV rfl (R.extract rfl rfl) (qV rfl (R.extract rfl rfl) (qA (.slice a_1 8 cap_2) rfl rfl (qA (vi 0) rfl rfl ?_))))
 refine WL.nil (thn_n (WP.seq (WP.reg ?_)))
 refine WL.call Tryz.call11 rfl rfl (c_Bes_t 5 (by omega) _) rfl ?_
 rintro _ w_9 ⟨a_7, cap_8, rfl, hc_10, ho_11⟩
 have h_12 := h_6.gotRow hc_10 ho_11
 refine qM (.tuple [(.slice a_7 7 cap_8), (vi 0)].toArray) rfl rfl (qV rfl (R.extract rfl rfl) (qV rfl (R.extract rfl rfl) (qA (.slice a_7 7 cap_8) rfl rfl (qA (vi 0) rfl rfl ?_))))
 refine WL.nil (thn_n (WP.seq (WP.reg ?_)))
 refine qV rfl (R.buildA (vs := []) (cs := (zB 32).map vu8) underlying23 sizeOf5 (zv typeInfo23 rfl) rfl rfl) ?_
 have h_13 := HP_viewNil h_12
 refine WL.call Tryz.call34 rfl rfl (c_ONew true (zB 32) ([] : List UInt8) lr none 0 0 (rfl : List.length ([] : List UInt8) = 32 * 0) (by decide) _ h_13) rfl ?_
 rintro _ w_18 ⟨b_14, b_15, a_16, c_17, rfl, h_19⟩
 refine qA (pO b_14 0) rfl rfl ?_
 refine WL.nil (thn_n (WP.seq (WP.reg ?_)))
 refine WL.call Tryz.call35 rfl rfl (c_MNew_70 _ h_19) rfl ?_
 rintro _ w_22 ⟨b_20, a_21, rfl, h_23⟩
 refine qM (.tuple [(pO b_20 0), (vi 0)].toArray) rfl rfl (qV rfl (R.extract rfl rfl) (qV rfl (R.extract rfl rfl) (qA (pO b_20 0) rfl rfl (qA (vi 0) rfl rfl ?_))))
 refine WL.nil (thn_n (WP.seq (WP.reg ?_)))
 refine qM (pO b_14 0) rfl rfl (qM (pO b_20 0) rfl rfl ?_)
 refine WL.call Tryz.call20 rfl rfl (c_Lay_70_64 true b_14 b_15 (zB 32) lr a_16 0 c_17 0 none 0 0 b_20 a_21  _ (h_23.argR M2) (h_23.argR M0)) rfl ?_
 rintro _ w_25 ⟨rfl, hc_24⟩
 have h_26 := h_23.same hc_24
 refine qM (.tuple [(.agg ⟨(zB 32).map vu8⟩), (vi 2)].toArray) rfl rfl (qV rfl (R.extract rfl rfl) (qV rfl (R.extract rfl rfl) ?_))
 refine WL.alloc (segs := [(32, (zB 32).map vu8)]) h_26 (zv typeInfo23 rfl) rfl (sC (s8 lr) sN) rfl (fun b_27 w_28 h_29 => ?_)
 refine WL.storeA [] [(32, (zB 32).map vu8)] [(32, (zB 32).map vu8)] [] h_29 rfl rfl sizeOf23 At.h (by decide) rfl rfl rfl rfl rfl rfl (sC (s8 lr) sN) (fun w_30 h_31 => ?_)
 refine qA (vi 2) rfl rfl ?_
 refine WL.nil (thn_n (WP.seq (WP.reg ?_)))
 refine qM (pO b_14 0) rfl rfl (qM (pO b_20 0) rfl rfl ?_)
 refine WL.call Tryz.call20 rfl rfl (c_Lay_70_8832 true b_14 b_15 (zB 32) lr a_16 0 c_17 0 none 0 0 b_20 a_21  _ (h_31.argR M3) (h_31.argR M1)) rfl ?_
 rintro _ w_33 ⟨rfl, hc_32⟩
 have h_34 := h_31.same hc_32
 refine qM (.tuple [(.agg ⟨(zB 32).map vu8⟩), (vi 2)].toArray) rfl rfl (qV rfl (R.extract rfl rfl) (qV rfl (R.extract rfl rfl) ?_))
 refine WL.alloc (segs := [(32, (zB 32).map vu8)]) h_34 (zv typeInfo23 rfl) rfl (sC (s8 lr) sN) rfl (fun b_35 w_36 h_37 => ?_)
 refine WL.storeA [] [(32, (zB 32).map vu8)] [(32, (zB 32).map vu8)] [] h_37 rfl rfl sizeOf23 At.h (by decide) rfl rfl rfl rfl rfl rfl (sC (s8 lr) sN) (fun w_38 h_39 => ?_)
 refine qA (vi 2) rfl rfl ?_
 refine WL.nil (thn_n (WP.seq (WP.reg ?_)))
 refine qM (pO b_14 0) rfl rfl (qM (pO b_20 0) rfl rfl (qV rfl (R.buildA (vs := []) (cs := (zB 32).map vu8) underlying23 sizeOf5 (zv typeInfo23 rfl) rfl rfl) ?_))
 refine WL.call Tryz.call29 rfl rfl (c_Up_70_0_128 true b_14 b_15 (zB 32) lr a_16 0 c_17 0 none 0 0 b_20 a_21 (zB 32) lr _ (h_39.argR M4) (h_39.argR M2)) rfl ?_
 rintro _ w_41 ⟨rfl, hc_40⟩
 have h_42 := h_39.same hc_40
 refine qM (.tuple [(.agg ⟨(zB 32).map vu8⟩), (vi 2)].toArray) rfl rfl (qV rfl (R.extract rfl rfl) (qV rfl (R.extract rfl rfl) ?_))
 refine WL.alloc (segs := [(32, (zB 32).map vu8)]) h_42 (zv typeInfo23 rfl) rfl (sC (s8 lr) sN) rfl (fun b_43 w_44 h_45 => ?_)
 refine WL.storeA [] [(32, (zB 32).map vu8)] [(32, (zB 32).map vu8)] [] h_45 rfl rfl sizeOf23 At.h (by decide) rfl rfl rfl rfl rfl rfl (sC (s8 lr) sN) (fun w_46 h_47 => ?_)
 refine qA (vi 2) rfl rfl ?_
 refine WL.nil (thn_n (WP.seq (WP.reg ?_)))
 refine qM (.slice a_1 8 cap_2) rfl rfl ?_
 refine WL.buildSl (vs := [(0, (vi 128)), (1, (vi 64)), (2, (vi 32)), (3, (vi 16)), (4, (vi 8)), (5, (vi 4)), (6, (vi 2)), (7, (vi 1))]) (cs := ([128, 64, 32, 16, 8, 4, 2, 1] : List Int).map vi64) h_47 underlying40 sizeOf3 (zv typeInfo3 rfl) rfl rfl (by kernel_rfl) rfl (one_i64 _) rfl rfl (fun b_48 w_49 h_50 => ?_)
 refine WL.call Tryz.call14 rfl rfl (c_same15 a_1 (some ⟨b_48, 0, none⟩) 8 8 cap_2 8 (wayL 0) ([128, 64, 32, 16, 8, 4, 2, 1] : List Int) (rfl : List.length (wayL 0) = 8) (rfl : List.length ([128, 64, 32, 16, 8, 4, 2, 1] : List Int) = 8) (by omega) (by omega) _ (ownView (h_50.ok _ M13)) (viewB (h_50.ok _ M0) Sg.h)) rfl ?_
 rintro _ w_52 ⟨rfl, hc_51⟩
 have h_53 := h_50.same hc_51
 refine qV rfl (R.move (v := (.bool true)) (congrArg Value.bool (decide_eq_true (by decide)))) ?_
 refine WL.want rfl rfl ?_
 refine qM (.slice a_7 7 cap_8) rfl rfl ?_
 refine WL.want rfl rfl ?_
 refine WL.buildSl (vs := [(0, (vi 132)), (1, (vi 67)), (2, (vi 32)), (3, (vi 17)), (4, (vi 9)), (5, (vi 5)), (6, (vi 3))]) (cs := ([132, 67, 32, 17, 9, 5, 3] : List Int).map vi64) h_53 underlying40 sizeOf3 (zv typeInfo3 rfl) rfl rfl (by kernel_rfl) rfl (one_i64 _) rfl rfl (fun b_54 w_55 h_56 => ?_)
 refine WL.want rfl rfl ?_
 refine WL.call Tryz.call14 rfl rfl (c_same15 a_7 (some ⟨b_54, 0, none⟩) 7 7 cap_8 7 (bsL 5) ([132, 67, 32, 17, 9, 5, 3] : List Int) (rfl : List.length (bsL 5) = 7) (rfl : List.length ([132, 67, 32, 17, 9, 5, 3] : List Int) = 7) (by omega) (by omega) _ (ownView (h_56.ok _ M13)) (viewB (h_56.ok _ M0) Sg.h)) rfl ?_
 rintro _ w_58 ⟨rfl, hc_57⟩
 have h_59 := h_56.same hc_57
 refine qV rfl (R.pickT (v := (.bool true)) rfl (congrArg Value.bool (decide_eq_true (by decide)))) (qM (.bool true) rfl rfl ?_)
 refine WL.want rfl rfl ?_
 refine qM (vi 0) rfl rfl ?_
 refine WL.want rfl rfl ?_
 refine WL.call Tryz.call17 rfl rfl (c_num15 0 (by omega) _ ) rfl ?_
 rintro _ w_61 ⟨rfl, hc_60⟩
 have h_62 := h_59.same hc_60
 refine WL.want rfl rfl ?_
 refine qM (vi 0) rfl rfl ?_
 refine WL.want rfl rfl ?_
 refine WL.call Tryz.call17 rfl rfl (c_num15 0 (by omega) _ ) rfl ?_
 rintro _ w_64 ⟨rfl, hc_63⟩
 have h_65 := h_62.same hc_63
 refine WL.want rfl rfl ?_
 refine qV rfl (R.bin rfl rfl (bi_add (c := 0) (by omega) (by omega))) ?_
 refine WL.want rfl rfl ?_
 refine qM (vi 0) rfl rfl ?_
 refine WL.want rfl rfl ?_
 refine WL.call Tryz.call17 rfl rfl (c_num15 0 (by omega) _ ) rfl ?_
 rintro _ w_67 ⟨rfl, hc_66⟩
 have h_68 := h_65.same hc_66
 refine WL.want rfl rfl ?_
 refine qV rfl (R.bin rfl rfl (bi_add (c := 0) (by omega) (by omega))) ?_
 refine WL.want rfl rfl ?_
 refine qV rfl (R.bin rfl rfl (bi_eql (r := true) (by decide))) (qV rfl (R.pickT (v := (.bool true)) rfl rfl) (qM (.bool true) rfl rfl ?_))
 refine WL.want rfl rfl ?_
 refine qM (vi 2) rfl rfl ?_
 refine WL.want rfl rfl ?_
 refine WL.call Tryz.call17 rfl rfl (c_num15 2 (by omega) _ ) rfl ?_
 rintro _ w_70 ⟨rfl, hc_69⟩
 have h_71 := h_68.same hc_69
 refine WL.want rfl rfl ?_
 refine qV rfl (R.bin rfl rfl (bi_eql (r := true) (by decide))) (qV rfl (R.pickT (v := (.bool true)) rfl rfl) (qM (.bool true) rfl rfl ?_))
 refine WL.want rfl rfl ?_
 refine qM (vi 2) rfl rfl ?_
 refine WL.want rfl rfl ?_
 refine WL.call Tryz.call17 rfl rfl (c_num15 2 (by omega) _ ) rfl ?_
 rintro _ w_73 ⟨rfl, hc_72⟩
 have h_74 := h_71.same hc_72
 refine WL.want rfl rfl ?_
 refine qV rfl (R.bin rfl rfl (bi_eql (r := true) (by decide))) (qV rfl (R.pickT (v := (.bool true)) rfl rfl) (qM (.bool true) rfl rfl ?_))
 refine WL.want rfl rfl ?_
 refine qM (vi 2) rfl rfl ?_
 refine WL.want rfl rfl ?_
 refine WL.call Tryz.call17 rfl rfl (c_num15 2 (by omega) _ ) rfl ?_
 rintro _ w_76 ⟨rfl, hc_75⟩
 have h_77 := h_74.same hc_75
 refine WL.want rfl rfl ?_
 refine qV rfl (R.bin rfl rfl (bi_eql (r := true) (by decide))) (qV rfl (R.pickT (v := (.bool true)) rfl rfl) (qA (.bool true) rfl rfl ?_))
 refine WL.nil (thn_n (WP.ret ?_))
 refine ret_of results7 (RV.tmp (v := (.bool true)) rfl RV.nil) ?_
 exact ⟨rfl, h_77.chgS⟩
end Go.Proofs.YtbhllplbbkmndaaGreat

namespace Go.Proofs.YtbhllplbbkmndaaGreat
open Go.Vc Go.Orc Go.Sh Go.RowKit
set_option maxRecDepth 20000
theorem pl61 : ∀ fs, Tryz.prog.underlying 61 = some (.struct fs) → Places Tryz.prog fs [(0, 1), (1, 32), (33, 1), (34, 1), (35, 1)] := by
  intro fs h w; rw [Tryz.underlying61] at h; cases h; simp
theorem c_small_t (id : Bool) (ms df : List UInt8) (hms : ms.length = 32) (da0 : Option Addr) (n cap0 : Nat) (hl : df.length = 32 * n) (fa : Option Addr) (fn fc : Nat) (fd : List UInt8) (hfl : fd.length = 128 * fn) (nd : UInt64) (gn : Nat) (hs : n ≤ 700 ∧ 1 ≤ gn ∧ gn ≤ 80 ∧ fn ≤ 80) (w : World) :
    Cs Tryz.prog 6 [(.agg ⟨flat [(1, [(.bool id)]), (32, ms.map vu8), (1, [(.slice da0 n cap0)]), (1, [(vi ((gn : Nat) : Int))]), (1, [(.slice fa fn fc)]), (1, [(vu64 nd)])]⟩)].toArray w (fun v w1 => v = (.bool true) ∧ Chg w w1 []) := by
  refine Cs.of (n := 23) (args := [(.agg ⟨flat [(1, [(.bool id)]), (32, ms.map vu8), (1, [(.slice da0 n cap0)]), (1, [(vi ((gn : Nat) : Int))]), (1, [(.slice fa fn fc)]), (1, [(vu64 nd)])]⟩)]) Tryz.func6 rfl rfl rfl ?_
  have h_0 := HP.init w
  refine WP.seq ?_
  refine WP.reg ?_
  refine WL.box (v := (.agg ⟨flat [(1, [(.bool id)]), (32, ms.map vu8), (1, [(.slice da0 n cap0)]), (1, [(vi ((gn : Nat) : Int))]), (1, [(.slice fa fn fc)]), (1, [(vu64 nd)])]⟩)) (segs := [(1, [(.bool id)]), (32, ms.map vu8), (1, [(.slice da0 n cap0)]), (1, [(vi ((gn : Nat) : Int))]), (1, [(.slice fa fn fc)]), (1, [(vu64 nd)])]) h_0 rfl rfl (SsOk.cons (SOk.v rfl) (SsOk.cons (SOk.u8 hms) (SsOk.cons (SOk.v rfl) (SsOk.cons (SOk.v rfl) (SsOk.cons (SOk.v rfl) (SsOk.cons (SOk.v rfl) SsOk.nil)))))) rfl (fun b_1 w_2 h_3 => ?_)
  refine WL.q (Wn.no rfl) rfl rfl (R.assign (v := (.bool false)) rfl) ?_
  refine WL.nil ?_
  refine thn_n ?_
  refine WP.seq ?_
  refine WP.reg ?_
  refine WL.q (Wn.no rfl) rfl rfl (R.fieldAddr (b := b_1) (off := 0) (off' := 33) rfl Tryz.underlying28 rfl Tryz.sizeOf24 rfl rfl) ?_
  refine WL.q (Wn.no rfl) rfl rfl (R.load1 (b := b_1) (off := 33) (v := (.slice da0 n cap0)) rfl Tryz.isAgg24 (h_3.ok _ (.head _)) (Sg.t rfl (Sg.t rfl Sg.h))) ?_
  refine WL.q (Wn.no rfl) rfl rfl (R.lenS (a := da0) (m := n) rfl rfl Tryz.underlying24) ?_
  refine WL.q (Wn.no rfl) rfl rfl (R.bin (v := (.bool (decide ((((n : Nat) : Int) : Int) ≤ 700)))) rfl rfl (bi_leq (r := decide ((((n : Nat) : Int) : Int) ≤ 700)) rfl)) ?_
  refine WL.q (Wn.no rfl) rfl rfl (R.move (v := (.bool (decide ((((n : Nat) : Int) : Int) ≤ 700)))) rfl) ?_
  refine WL.want rfl (congrArg Value.bool (decide_eq_true (by omega))) ?_
  refine WL.q (Wn.no rfl) rfl rfl (R.fieldAddr (b := b_1) (off := 0) (off' := 34) rfl Tryz.underlying28 rfl Tryz.sizeOf3 rfl rfl) ?_
  refine WL.want rfl (congrArg Value.bool (decide_eq_true (by omega))) ?_
  refine WL.q (Wn.no rfl) rfl rfl (R.load1 (b := b_1) (off := 34) (v := (vi ((gn : Nat) : Int))) rfl Tryz.isAgg3 (h_3.ok _ (.head _)) (Sg.t rfl (Sg.t rfl (Sg.t rfl Sg.h)))) ?_
  refine WL.want rfl (congrArg Value.bool (decide_eq_true (by omega))) ?_
  refine WL.q (Wn.no rfl) rfl rfl (R.bin (v := (.bool (decide ((((gn : Nat) : Int) : Int) ≥ 1)))) rfl rfl (bi_geq (r := decide ((((gn : Nat) : Int) : Int) ≥ 1)) rfl)) ?_
  refine WL.q (Wn.no rfl) rfl rfl (R.pickT (v := (.bool (decide ((((gn : Nat) : Int) : Int) ≥ 1)))) (congrArg Value.bool (decide_eq_true (by omega))) rfl) ?_
  refine WL.q (Wn.no rfl) rfl rfl (R.move (v := (.bool (decide ((((gn : Nat) : Int) : Int) ≥ 1)))) rfl) ?_
  refine WL.want rfl (congrArg Value.bool (decide_eq_true (by omega))) ?_
  refine WL.q (Wn.no rfl) rfl rfl (R.fieldAddr (b := b_1) (off := 0) (off' := 34) rfl Tryz.underlying28 rfl Tryz.sizeOf3 rfl rfl) ?_
  refine WL.want rfl (congrArg Value.bool (decide_eq_true (by omega))) ?_
  refine WL.q (Wn.no rfl) rfl rfl (R.load1 (b := b_1) (off := 34) (v := (vi ((gn : Nat) : Int))) rfl Tryz.isAgg3 (h_3.ok _ (.head _)) (Sg.t rfl (Sg.t rfl (Sg.t rfl Sg.h)))) ?_
  refine WL.want rfl (congrArg Value.bool (decide_eq_true (by omega))) ?_
  refine WL.q (Wn.no rfl) rfl rfl (R.bin (v := (.bool (decide ((((gn : Nat) : Int) : Int) ≤ 80)))) rfl rfl (bi_leq (r := decide ((((gn : Nat) : Int) : Int) ≤ 80)) rfl)) ?_
  refine WL.q (Wn.no rfl) rfl rfl (R.pickT (v := (.bool (decide ((((gn : Nat) : Int) : Int) ≤ 80)))) (congrArg Value.bool (decide_eq_true (by omega))) rfl) ?_
  refine WL.q (Wn.no rfl) rfl rfl (R.move (v := (.bool (decide ((((gn : Nat) : Int) : Int) ≤ 80)))) rfl) ?_
  refine WL.want rfl (congrArg Value.bool (decide_eq_true (by omega))) ?_
  refine WL.q (Wn.no rfl) rfl rfl (R.fieldAddr (b := b_1) (off := 0) (off' := 35) rfl Tryz.underlying28 rfl Tryz.sizeOf25 rfl rfl) ?_
  refine WL.want rfl (congrArg Value.bool (decide_eq_true (by omega))) ?_
  refine WL.q (Wn.no rfl) rfl rfl (R.load1 (b := b_1) (off := 35) (v := (.slice fa fn fc)) rfl Tryz.isAgg25 (h_3.ok _ (.head _)) (Sg.t rfl (Sg.t rfl (Sg.t rfl (Sg.t rfl Sg.h))))) ?_
  refine WL.want rfl (congrArg Value.bool (decide_eq_true (by omega))) ?_
  refine WL.q (Wn.no rfl) rfl rfl (R.lenS (a := fa) (m := fn) rfl rfl Tryz.underlying25) ?_
  refine WL.want rfl (congrArg Value.bool (decide_eq_true (by omega))) ?_
  refine WL.q (Wn.no rfl) rfl rfl (R.bin (v := (.bool (decide ((((fn : Nat) : Int) : Int) ≤ 80)))) rfl rfl (bi_leq (r := decide ((((fn : Nat) : Int) : Int) ≤ 80)) rfl)) ?_
  refine WL.q (Wn.no rfl) rfl rfl (R.pickT (v := (.bool (decide ((((fn : Nat) : Int) : Int) ≤ 80)))) (congrArg Value.bool (decide_eq_true (by omega))) rfl) ?_
  refine WL.q (Wn.no rfl) rfl rfl (R.assign (v := (.bool (decide ((((fn : Nat) : Int) : Int) ≤ 80)))) rfl) ?_
  refine WL.nil ?_
  refine thn_n ?_
  refine WP.ret ?_
  refine ret_of Tryz.results6 (RV.tmp (v := (.bool (decide ((((fn : Nat) : Int) : Int) ≤ 80)))) rfl RV.nil) ?_
  exact ⟨congrArg Value.bool (by simp; omega), h_3.chgS⟩

theorem c_small_f (id : Bool) (ms df : List UInt8) (hms : ms.length = 32) (da0 : Option Addr) (n cap0 : Nat) (hl : df.length = 32 * n) (fa : Option Addr) (fn fc : Nat) (fd : List UInt8) (hfl : fd.length = 128 * fn) (nd : UInt64) (gn : Int) (hs : ¬ (n ≤ 700 ∧ 1 ≤ gn ∧ gn ≤ 80 ∧ fn ≤ 80)) (w : World) :
    Cs Tryz.prog 6 [(.agg ⟨flat [(1, [(.bool id)]), (32, ms.map vu8), (1, [(.slice da0 n cap0)]), (1, [(vi gn)]), (1, [(.slice fa fn fc)]), (1, [(vu64 nd)])]⟩)].toArray w (fun v w1 => v = (.bool false) ∧ Chg w w1 []) := by
  refine Cs.of (n := 23) (args := [(.agg ⟨flat [(1, [(.bool id)]), (32, ms.map vu8), (1, [(.slice da0 n cap0)]), (1, [(vi gn)]), (1, [(.slice fa fn fc)]), (1, [(vu64 nd)])]⟩)]) Tryz.func6 rfl rfl rfl ?_
  have h_0 := HP.init w
  refine WP.seq ?_
  refine WP.reg ?_
  refine WL.box (v := (.agg ⟨flat [(1, [(.bool id)]), (32, ms.map vu8), (1, [(.slice da0 n cap0)]), (1, [(vi gn)]), (1, [(.slice fa fn fc)]), (1, [(vu64 nd)])]⟩)) (segs := [(1, [(.bool id)]), (32, ms.map vu8), (1, [(.slice da0 n cap0)]), (1, [(vi gn)]), (1, [(.slice fa fn fc)]), (1, [(vu64 nd)])]) h_0 rfl rfl (SsOk.cons (SOk.v rfl) (SsOk.cons (SOk.u8 hms) (SsOk.cons (SOk.v rfl) (SsOk.cons (SOk.v rfl) (SsOk.cons (SOk.v rfl) (SsOk.cons (SOk.v rfl) SsOk.nil)))))) rfl (fun b_1 w_2 h_3 => ?_)
  refine WL.q (Wn.no rfl) rfl rfl (R.assign (v := (.bool false)) rfl) ?_
  refine WL.nil ?_
  refine thn_n ?_
  refine WP.seq ?_
  refine WP.reg ?_
  refine WL.q (Wn.no rfl) rfl rfl (R.fieldAddr (b := b_1) (off := 0) (off' := 33) rfl Tryz.underlying28 rfl Tryz.sizeOf24 rfl rfl) ?_
  refine WL.q (Wn.no rfl) rfl rfl (R.load1 (b := b_1) (off := 33) (v := (.slice da0 n cap0)) rfl Tryz.isAgg24 (h_3.ok _ (.head _)) (Sg.t rfl (Sg.t rfl Sg.h))) ?_
  refine WL.q (Wn.no rfl) rfl rfl (R.lenS (a := da0) (m := n) rfl rfl Tryz.underlying24) ?_
  refine WL.q (Wn.no rfl) rfl rfl (R.bin (v := (.bool (decide ((((n : Nat) : Int) : Int) ≤ 700)))) rfl rfl (bi_leq (r := decide ((((n : Nat) : Int) : Int) ≤ 700)) rfl)) ?_
  refine WL.q (Wn.no rfl) rfl rfl (R.move (v := (.bool (decide ((((n : Nat) : Int) : Int) ≤ 700)))) rfl) ?_
  rcases Bool.eq_false_or_eq_true (decide ((((n : Nat) : Int) : Int) ≤ 700)) with c_4 | c_4
  · have p_5 := of_decide_eq_true c_4
    refine WL.want rfl (congrArg Value.bool c_4) ?_
    refine WL.q (Wn.no rfl) rfl rfl (R.fieldAddr (b := b_1) (off := 0) (off' := 34) rfl Tryz.underlying28 rfl Tryz.sizeOf3 rfl rfl) ?_
    refine WL.want rfl (congrArg Value.bool c_4) ?_
    refine WL.q (Wn.no rfl) rfl rfl (R.load1 (b := b_1) (off := 34) (v := (vi gn)) rfl Tryz.isAgg3 (h_3.ok _ (.head _)) (Sg.t rfl (Sg.t rfl (Sg.t rfl Sg.h)))) ?_
    refine WL.want rfl (congrArg Value.bool c_4) ?_
    refine WL.q (Wn.no rfl) rfl rfl (R.bin (v := (.bool (decide ((gn : Int) ≥ 1)))) rfl rfl (bi_geq (r := decide ((gn : Int) ≥ 1)) rfl)) ?_
    refine WL.q (Wn.no rfl) rfl rfl (R.pickT (v := (.bool (decide ((gn : Int) ≥ 1)))) (congrArg Value.bool c_4) rfl) ?_
    refine WL.q (Wn.no rfl) rfl rfl (R.move (v := (.bool (decide ((gn : Int) ≥ 1)))) rfl) ?_
    rcases Bool.eq_false_or_eq_true (decide ((gn : Int) ≥ 1)) with c_6 | c_6
    · have p_7 := of_decide_eq_true c_6
      refine WL.want rfl (congrArg Value.bool c_6) ?_
      refine WL.q (Wn.no rfl) rfl rfl (R.fieldAddr (b := b_1) (off := 0) (off' := 34) rfl Tryz.underlying28 rfl Tryz.sizeOf3 rfl rfl) ?_
      refine WL.want rfl (congrArg Value.bool c_6) ?_
      refine WL.q (Wn.no rfl) rfl rfl (R.load1 (b := b_1) (off := 34) (v := (vi gn)) rfl Tryz.isAgg3 (h_3.ok _ (.head _)) (Sg.t rfl (Sg.t rfl (Sg.t rfl Sg.h)))) ?_
      refine WL.want rfl (congrArg Value.bool c_6) ?_
      refine WL.q (Wn.no rfl) rfl rfl (R.bin (v := (.bool (decide ((gn : Int) ≤ 80)))) rfl rfl (bi_leq (r := decide ((gn : Int) ≤ 80)) rfl)) ?_
      refine WL.q (Wn.no rfl) rfl rfl (R.pickT (v := (.bool (decide ((gn : Int) ≤ 80)))) (congrArg Value.bool c_6) rfl) ?_
      refine WL.q (Wn.no rfl) rfl rfl (R.move (v := (.bool (decide ((gn : Int) ≤ 80)))) rfl) ?_
      rcases Bool.eq_false_or_eq_true (decide ((gn : Int) ≤ 80)) with c_8 | c_8
      · have p_9 := of_decide_eq_true c_8
        refine WL.want rfl (congrArg Value.bool c_8) ?_
        refine WL.q (Wn.no rfl) rfl rfl (R.fieldAddr (b := b_1) (off := 0) (off' := 35) rfl Tryz.underlying28 rfl Tryz.sizeOf25 rfl rfl) ?_
        refine WL.want rfl (congrArg Value.bool c_8) ?_
        refine WL.q (Wn.no rfl) rfl rfl (R.load1 (b := b_1) (off := 35) (v := (.slice fa fn fc)) rfl Tryz.isAgg25 (h_3.ok _ (.head _)) (Sg.t rfl (Sg.t rfl (Sg.t rfl (Sg.t rfl Sg.h))))) ?_
        refine WL.want rfl (congrArg Value.bool c_8) ?_
        refine WL.q (Wn.no rfl) rfl rfl (R.lenS (a := fa) (m := fn) rfl rfl Tryz.underlying25) ?_
        refine WL.want rfl (congrArg Value.bool c_8) ?_
        refine WL.q (Wn.no rfl) rfl rfl (R.bin (v := (.bool (decide ((((fn : Nat) : Int) : Int) ≤ 80)))) rfl rfl (bi_leq (r := decide ((((fn : Nat) : Int) : Int) ≤ 80)) rfl)) ?_
        refine WL.q (Wn.no rfl) rfl rfl (R.pickT (v := (.bool (decide ((((fn : Nat) : Int) : Int) ≤ 80)))) (congrArg Value.bool c_8) rfl) ?_
        refine WL.q (Wn.no rfl) rfl rfl (R.assign (v := (.bool (decide ((((fn : Nat) : Int) : Int) ≤ 80)))) rfl) ?_
        refine WL.nil ?_
        refine thn_n ?_
        refine WP.ret ?_
        refine ret_of Tryz.results6 (RV.tmp (v := (.bool (decide ((((fn : Nat) : Int) : Int) ≤ 80)))) rfl RV.nil) ?_
        exact ⟨congrArg Value.bool (decide_eq_false (by omega)), h_3.chgS⟩
      · have p_10 := of_decide_eq_false c_8
        refine WL.skip rfl (congrArg Value.bool c_8) rfl ?_
        refine WL.skip rfl (congrArg Value.bool c_8) rfl ?_
        refine WL.skip rfl (congrArg Value.bool c_8) rfl ?_
        refine WL.skip rfl (congrArg Value.bool c_8) rfl ?_
        refine WL.q (Wn.no rfl) rfl rfl (R.pickF (v := (.bool false)) (congrArg Value.bool c_8) rfl) ?_
        refine WL.q (Wn.no rfl) rfl rfl (R.assign (v := (.bool false)) rfl) ?_
        refine WL.nil ?_
        refine thn_n ?_
        refine WP.ret ?_
        refine ret_of Tryz.results6 (RV.tmp (v := (.bool false)) rfl RV.nil) ?_
        exact ⟨rfl, h_3.chgS⟩
    · have p_11 := of_decide_eq_false c_6
      refine WL.skip rfl (congrArg Value.bool c_6) rfl ?_
      refine WL.skip rfl (congrArg Value.bool c_6) rfl ?_
      refine WL.skip rfl (congrArg Value.bool c_6) rfl ?_
      refine WL.q (Wn.no rfl) rfl rfl (R.pickF (v := (.bool false)) (congrArg Value.bool c_6) rfl) ?_
      refine WL.q (Wn.no rfl) rfl rfl (R.move (v := (.bool false)) rfl) ?_
      refine WL.skip rfl rfl rfl ?_
      refine WL.skip rfl rfl rfl ?_
      refine WL.skip rfl rfl rfl ?_
      refine WL.skip rfl rfl rfl ?_
      refine WL.q (Wn.no rfl) rfl rfl (R.pickF (v := (.bool false)) rfl rfl) ?_
      refine WL.q (Wn.no rfl) rfl rfl (R.assign (v := (.bool false)) rfl) ?_
      refine WL.nil ?_
      refine thn_n ?_
      refine WP.ret ?_
      refine ret_of Tryz.results6 (RV.tmp (v := (.bool false)) rfl RV.nil) ?_
      exact ⟨rfl, h_3.chgS⟩
  · have p_12 := of_decide_eq_false c_4
    refine WL.skip rfl (congrArg Value.bool c_4) rfl ?_
    refine WL.skip rfl (congrArg Value.bool c_4) rfl ?_
    refine WL.skip rfl (congrArg Value.bool c_4) rfl ?_
    refine WL.q (Wn.no rfl) rfl rfl (R.pickF (v := (.bool false)) (congrArg Value.bool c_4) rfl) ?_
    refine WL.q (Wn.no rfl) rfl rfl (R.move (v := (.bool false)) rfl) ?_
    refine WL.skip rfl rfl rfl ?_
    refine WL.skip rfl rfl rfl ?_
    refine WL.skip rfl rfl rfl ?_
    refine WL.q (Wn.no rfl) rfl rfl (R.pickF (v := (.bool false)) rfl rfl) ?_
    refine WL.q (Wn.no rfl) rfl rfl (R.move (v := (.bool false)) rfl) ?_
    refine WL.skip rfl rfl rfl ?_
    refine WL.skip rfl rfl rfl ?_
    refine WL.skip rfl rfl rfl ?_
    refine WL.skip rfl rfl rfl ?_
    refine WL.q (Wn.no rfl) rfl rfl (R.pickF (v := (.bool false)) rfl rfl) ?_
    refine WL.q (Wn.no rfl) rfl rfl (R.assign (v := (.bool false)) rfl) ?_
    refine WL.nil ?_
    refine thn_n ?_
    refine WP.ret ?_
    refine ret_of Tryz.results6 (RV.tmp (v := (.bool false)) rfl RV.nil) ?_
    exact ⟨rfl, h_3.chgS⟩

theorem c_two {w00 : World} {L : List Ent} (id : Bool) (ms df : List UInt8) (hms : ms.length = 32) (da0 : Option Addr) (n cap0 : Nat) (hl : df.length = 32 * n) (fa : Option Addr) (fn fc : Nat) (fd : List UInt8) (hfl : fd.length = 128 * fn) (nd : UInt64) (gn : Nat) (hs : n ≤ 700 ∧ 1 ≤ gn ∧ gn ≤ 80 ∧ fn ≤ 80) (w : World) (h_0 : HP w00 w (Ent.view da0 (df.map vu8) :: Ent.view fa (fd.map vu8) :: L)) :
    Cs Tryz.prog 8 [(.agg ⟨flat [(1, [(.bool id)]), (32, ms.map vu8), (1, [(.slice da0 n cap0)]), (1, [(vi ((gn : Nat) : Int))]), (1, [(.slice fa fn fc)]), (1, [(vu64 nd)])]⟩)].toArray w (fun v w1 => ∃ ob mp da dc rb bm ma bk ka, v = .tuple [.pointer (some ⟨ob, 0, none⟩), .pointer (some ⟨bm, 0, none⟩), .pointer (some ⟨rb, 0, none⟩), .pointer (some ⟨bk, 0, none⟩), .bool true].toArray ∧ HP w00 w1 (Ent.blk ob .nw 106 [(1, [(.bool id)]), (32, ms.map vu8), (1, [(.slice da n dc)]), (1, [(vi 0)]), (1, [(.map (some mp))]), (1, [(.slice none 0 0)])] :: Ent.row none 0 0 102 67 [] :: Ent.obj mp .nw (.map (mArr ([] : Lg)) 0) :: Ent.pin (sblks []) (fun w => Lgs w [] ([] : Lg)) :: Ent.view da (df.map vu8) :: Ent.blk rb .nw 61 [(1, [(.bool id)]), (32, ms.map vu8), (1, [(.slice da0 n cap0)]), (1, [(vi 0)]), (1, [(.slice none 0 0)])] :: Ent.blk bm .nw 112 [(1, [(.slice ma gn gn)])] :: Ent.row ma gn gn 76 128 ((fillL fd gn (min fn gn)).map vu8) :: Ent.blk bk .nw 95 [(1, [(.slice ka (128 * gn) (128 * gn))])] :: Ent.row ka (128 * gn) (128 * gn) 5 1 ((fillL fd gn (min fn gn)).map vu8) :: Ent.view da0 (df.map vu8) :: Ent.view fa (fd.map vu8) :: L)) := by
  refine Cs.of (n := 83) (args := [(.agg ⟨flat [(1, [(.bool id)]), (32, ms.map vu8), (1, [(.slice da0 n cap0)]), (1, [(vi ((gn : Nat) : Int))]), (1, [(.slice fa fn fc)]), (1, [(vu64 nd)])]⟩)]) Tryz.func8 rfl rfl rfl ?_
  refine WP.seq ?_
  refine WP.reg ?_
  refine WL.box (v := (.agg ⟨flat [(1, [(.bool id)]), (32, ms.map vu8), (1, [(.slice da0 n cap0)]), (1, [(vi ((gn : Nat) : Int))]), (1, [(.slice fa fn fc)]), (1, [(vu64 nd)])]⟩)) (segs := [(1, [(.bool id)]), (32, ms.map vu8), (1, [(.slice da0 n cap0)]), (1, [(vi ((gn : Nat) : Int))]), (1, [(.slice fa fn fc)]), (1, [(vu64 nd)])]) h_0 rfl rfl (SsOk.cons (SOk.v rfl) (SsOk.cons (SOk.u8 hms) (SsOk.cons (SOk.v rfl) (SsOk.cons (SOk.v rfl) (SsOk.cons (SOk.v rfl) (SsOk.cons (SOk.v rfl) SsOk.nil)))))) rfl (fun b_1 w_2 h_3 => ?_)
  refine WL.q (Wn.no rfl) rfl rfl (R.assign (v := (.pointer none)) rfl) ?_
  refine WL.q (Wn.no rfl) rfl rfl (R.assign (v := (.pointer none)) rfl) ?_
  refine WL.q (Wn.no rfl) rfl rfl (R.assign (v := (.pointer none)) rfl) ?_
  refine WL.q (Wn.no rfl) rfl rfl (R.assign (v := (.pointer none)) rfl) ?_
  refine WL.q (Wn.no rfl) rfl rfl (R.assign (v := (.bool false)) rfl) ?_
  refine WL.nil ?_
  refine thn_n ?_
  refine WP.seq ?_
  refine WP.reg ?_
  refine WL.q (Wn.no rfl) rfl rfl (R.fieldAddr (b := b_1) (off := 0) (off' := 0) rfl Tryz.underlying28 rfl Tryz.sizeOf4 rfl rfl) ?_
  refine WL.q (Wn.no rfl) rfl rfl (R.load1 (b := b_1) (off := 0) (v := (.bool id)) rfl Tryz.isAgg4 (h_3.ok _ (.head _)) Sg.h) ?_
  refine WL.q (Wn.no rfl) rfl rfl (R.fieldAddr (b := b_1) (off := 0) (off' := 1) rfl Tryz.underlying28 rfl Tryz.sizeOf23 rfl rfl) ?_
  refine WL.q (Wn.no rfl) rfl rfl (R.loadA (b := b_1) (off := 1) [(1, [(.bool id)])] [(32, ms.map vu8)] [(1, [(.slice da0 n cap0)]), (1, [(vi ((gn : Nat) : Int))]), (1, [(.slice fa fn fc)]), (1, [(vu64 nd)])] (cs := ms.map vu8) rfl Tryz.isAgg23 Tryz.sizeOf23 (h_3.ok _ (.head _)) rfl rfl rfl rfl) ?_
  refine WL.q (Wn.no rfl) rfl rfl (R.fieldAddr (b := b_1) (off := 0) (off' := 33) rfl Tryz.underlying28 rfl Tryz.sizeOf24 rfl rfl) ?_
  refine WL.q (Wn.no rfl) rfl rfl (R.load1 (b := b_1) (off := 33) (v := (.slice da0 n cap0)) rfl Tryz.isAgg24 (h_3.ok _ (.head _)) (Sg.t rfl (Sg.t rfl Sg.h))) ?_
  have h_4 := h_3.up (Pick.t Pick.h)
  refine WL.call (al := [(.bool id), (.agg ⟨ms.map vu8⟩), (.slice da0 n cap0)]) Tryz.call34 rfl rfl (c_ONew id ms df hms da0 n cap0 hl (by omega) _ h_4) rfl ?_
  rintro _ w_9 ⟨b_5, b_6, a_7, c_8, rfl, h_10⟩
  refine WL.q (Wn.no rfl) rfl rfl (R.assign (v := (.pointer (some ⟨b_5, 0, none⟩))) rfl) ?_
  refine WL.nil ?_
  refine thn_n ?_
  refine WP.seq ?_
  refine WP.reg ?_
  refine WL.q (Wn.no rfl) rfl rfl (R.fieldAddr (b := b_1) (off := 0) (off' := 34) rfl Tryz.underlying28 rfl Tryz.sizeOf3 rfl rfl) ?_
  refine WL.q (Wn.no rfl) rfl rfl (R.load1 (b := b_1) (off := 34) (v := (vi ((gn : Nat) : Int))) rfl Tryz.isAgg3 (h_10.ok _ (.tail _ (.tail _ (.tail _ (.tail _ (.tail _ (.tail _ (.head _)))))))) (Sg.t rfl (Sg.t rfl (Sg.t rfl Sg.h)))) ?_
  refine WL.call (al := [(vi ((gn : Nat) : Int))]) Tryz.call35 rfl rfl (c_MNewG gn (by omega) (by omega) _ h_10) rfl ?_
  rintro _ w_13 ⟨b_11, a_12, rfl, h_14⟩
  refine WL.q (Wn.no rfl) rfl rfl (R.move (v := (.tuple [(.pointer (some ⟨b_11, 0, none⟩)), (vi 0)].toArray)) rfl) ?_
  refine WL.q (Wn.no rfl) rfl rfl (R.extract (l := [(.pointer (some ⟨b_11, 0, none⟩)), (vi 0)]) (v := (.pointer (some ⟨b_11, 0, none⟩))) rfl rfl) ?_
  refine WL.q (Wn.no rfl) rfl rfl (R.extract (l := [(.pointer (some ⟨b_11, 0, none⟩)), (vi 0)]) (v := (vi 0)) rfl rfl) ?_
  refine WL.q (Wn.no rfl) rfl rfl (R.assign (v := (.pointer (some ⟨b_11, 0, none⟩))) rfl) ?_
  refine WL.q (Wn.no rfl) rfl rfl (R.assign (v := (vi 0)) rfl) ?_
  refine WL.nil ?_
  refine thn_n ?_
  refine WP.seq ?_
  refine WP.reg ?_
  refine WL.q (Wn.no rfl) rfl rfl (R.fieldAddr (b := b_1) (off := 0) (off' := 0) rfl Tryz.underlying28 rfl Tryz.sizeOf4 rfl rfl) ?_
  refine WL.q (Wn.no rfl) rfl rfl (R.load1 (b := b_1) (off := 0) (v := (.bool id)) rfl Tryz.isAgg4 (h_14.ok _ (.tail _ (.tail _ (.tail _ (.tail _ (.tail _ (.tail _ (.tail _ (.tail _ (.head _)))))))))) Sg.h) ?_
  refine WL.q (Wn.no rfl) rfl rfl (R.fieldAddr (b := b_1) (off := 0) (off' := 1) rfl Tryz.underlying28 rfl Tryz.sizeOf23 rfl rfl) ?_
  refine WL.q (Wn.no rfl) rfl rfl (R.loadA (b := b_1) (off := 1) [(1, [(.bool id)])] [(32, ms.map vu8)] [(1, [(.slice da0 n cap0)]), (1, [(vi ((gn : Nat) : Int))]), (1, [(.slice fa fn fc)]), (1, [(vu64 nd)])] (cs := ms.map vu8) rfl Tryz.isAgg23 Tryz.sizeOf23 (h_14.ok _ (.tail _ (.tail _ (.tail _ (.tail _ (.tail _ (.tail _ (.tail _ (.tail _ (.head _)))))))))) rfl rfl rfl rfl) ?_
  refine WL.q (Wn.no rfl) rfl rfl (R.fieldAddr (b := b_1) (off := 0) (off' := 33) rfl Tryz.underlying28 rfl Tryz.sizeOf24 rfl rfl) ?_
  refine WL.q (Wn.no rfl) rfl rfl (R.load1 (b := b_1) (off := 33) (v := (.slice da0 n cap0)) rfl Tryz.isAgg24 (h_14.ok _ (.tail _ (.tail _ (.tail _ (.tail _ (.tail _ (.tail _ (.tail _ (.tail _ (.head _)))))))))) (Sg.t rfl (Sg.t rfl Sg.h))) ?_
  refine WL.q (Wn.no rfl) rfl rfl (R.buildS (pl := [(0, 1), (1, 32), (33, 1), (34, 1), (35, 1)]) (zs := [(1, [(.bool false)]), (32, (List.replicate 32 (0 : UInt8)).map vu8), (1, [(.slice none 0 0)]), (1, [(vi 0)]), (1, [(.slice none 0 0)])]) (vs := [(0, (.bool id)), (1, (.agg ⟨ms.map vu8⟩)), (2, (.slice da0 n cap0))]) (out := [(1, [(.bool id)]), (32, ms.map vu8), (1, [(.slice da0 n cap0)]), (1, [(vi 0)]), (1, [(.slice none 0 0)])]) (cs := flat [(1, [(.bool id)]), (32, ms.map vu8), (1, [(.slice da0 n cap0)]), (1, [(vi 0)]), (1, [(.slice none 0 0)])]) Tryz.underlying61 (zv Tryz.typeInfo61 rfl) rfl (SsOk.cons (SOk.v rfl) (SsOk.cons (SOk.u8 (List.length_replicate ..)) (SsOk.cons (SOk.v rfl) (SsOk.cons (SOk.v rfl) (SsOk.cons (SOk.v rfl) SsOk.nil))))) (pl61 _ Tryz.underlying61) rfl (FillR.cons [] [(1, [(.bool false)])] [(1, [(.bool id)])] [(32, (List.replicate 32 (0 : UInt8)).map vu8), (1, [(.slice none 0 0)]), (1, [(vi 0)]), (1, [(.slice none 0 0)])] rfl rfl rfl rfl (SsOk.cons (SOk.v rfl) SsOk.nil) rfl rfl rfl (FillR.cons [(1, [(.bool id)])] [(32, (List.replicate 32 (0 : UInt8)).map vu8)] [(32, ms.map vu8)] [(1, [(.slice none 0 0)]), (1, [(vi 0)]), (1, [(.slice none 0 0)])] rfl rfl rfl rfl (SsOk.cons (SOk.u8 hms) SsOk.nil) rfl rfl rfl (FillR.cons [(1, [(.bool id)]), (32, ms.map vu8)] [(1, [(.slice none 0 0)])] [(1, [(.slice da0 n cap0)])] [(1, [(vi 0)]), (1, [(.slice none 0 0)])] rfl rfl rfl rfl (SsOk.cons (SOk.v rfl) SsOk.nil) rfl rfl rfl FillR.nil))) rfl) ?_
  refine WL.box (v := (.agg ⟨flat [(1, [(.bool id)]), (32, ms.map vu8), (1, [(.slice da0 n cap0)]), (1, [(vi 0)]), (1, [(.slice none 0 0)])]⟩)) (segs := [(1, [(.bool id)]), (32, ms.map vu8), (1, [(.slice da0 n cap0)]), (1, [(vi 0)]), (1, [(.slice none 0 0)])]) h_14 rfl rfl (SsOk.cons (SOk.v rfl) (SsOk.cons (SOk.u8 hms) (SsOk.cons (SOk.v rfl) (SsOk.cons (SOk.v rfl) (SsOk.cons (SOk.v rfl) SsOk.nil))))) rfl (fun b_16 w_17 h_18 => ?_)
  refine WL.q (Wn.no rfl) rfl rfl (R.assign (v := (.pointer (some ⟨b_16, 0, none⟩))) rfl) ?_
  refine WL.nil ?_
  refine thn_n ?_
  refine WP.seq ?_
  refine WP.reg ?_
  refine WL.q (Wn.no rfl) rfl rfl (R.fieldAddr (b := b_1) (off := 0) (off' := 34) rfl Tryz.underlying28 rfl Tryz.sizeOf3 rfl rfl) ?_
  refine WL.q (Wn.no rfl) rfl rfl (R.load1 (b := b_1) (off := 34) (v := (vi ((gn : Nat) : Int))) rfl Tryz.isAgg3 (h_18.ok _ (.tail _ (.tail _ (.tail _ (.tail _ (.tail _ (.tail _ (.tail _ (.tail _ (.tail _ (.head _))))))))))) (Sg.t rfl (Sg.t rfl (Sg.t rfl Sg.h)))) ?_
  refine WL.call (al := [(vi ((gn : Nat) : Int))]) Tryz.call36 rfl rfl (c_KNew gn (by omega) (by omega) _ h_18) rfl ?_
  rintro _ w_21 ⟨b_19, a_20, rfl, h_22⟩
  refine WL.q (Wn.no rfl) rfl rfl (R.assign (v := (.pointer (some ⟨b_19, 0, none⟩))) rfl) ?_
  refine WL.nil ?_
  refine thn_n ?_
  refine WP.seq ?_
  refine WP.seq ?_
  refine WP.reg ?_
  refine WL.q (Wn.no rfl) rfl rfl (R.assign (v := (vi 0)) rfl) ?_
  refine WL.nil ?_
  refine thn_n ?_
  refine WP.block ?_
  refine WP.loopG (G := Nat) [2, 3, 4, 5, 6, 12, 37, 38, 39, 40, 41, 42, 43, 44, 45, 46, 47, 48, 49, 50, 51, 52, 53, 54, 55, 56, 57, 58, 59, 60, 61, 62, 63, 64, 65, 66, 67] (fun g => [(12, (vi ((g : Nat) : Int)))]) (fun g m w1 => HP w00 w1 (Ent.blk b_19 .nw 95 [(1, [(.slice a_20 (128 * gn) (128 * gn))])] :: Ent.row a_20 (128 * gn) (128 * gn) 5 1 ((fillL fd gn g).map vu8) :: Ent.blk b_16 .nw 61 [(1, [(.bool id)]), (32, ms.map vu8), (1, [(.slice da0 n cap0)]), (1, [(vi 0)]), (1, [(.slice none 0 0)])] :: Ent.blk b_11 .nw 112 [(1, [(.slice a_12 gn gn)])] :: Ent.row a_12 gn gn 76 128 ((fillL fd gn g).map vu8) :: Ent.blk b_5 .nw 106 [(1, [(.bool id)]), (32, ms.map vu8), (1, [(.slice a_7 n c_8)]), (1, [(vi 0)]), (1, [(.map (some b_6))]), (1, [(.slice none 0 0)])] :: Ent.row none 0 0 102 67 [] :: Ent.obj b_6 .nw (.map (mArr ([] : Lg)) 0) :: Ent.pin (sblks []) (fun w => Lgs w [] ([] : Lg)) :: Ent.view a_7 (df.map vu8) :: Ent.view da0 (df.map vu8) :: Ent.blk b_1 .nw 28 [(1, [(.bool id)]), (32, ms.map vu8), (1, [(.slice da0 n cap0)]), (1, [(vi ((gn : Nat) : Int))]), (1, [(.slice fa fn fc)]), (1, [(vu64 nd)])] :: Ent.view fa (fd.map vu8) :: L) ∧ (g ≤ fn) ∧ (g ≤ gn) ∧ m = gn - g) ⟨0, _, ⟨rfl, trivial⟩, h_22, Nat.zero_le _, Nat.zero_le _, rfl⟩ ?_
  rintro g m_25 J_26 w_23 ⟨h_24, hgf, hgg, rfl⟩
  refine WP.seq ?_
  refine WP.seq ?_
  refine WP.reg ?_
  refine WL.q (Wn.no rfl) rfl rfl (R.move (v := (vi ((g : Nat) : Int))) rfl) ?_
  refine WL.q (Wn.no rfl) rfl rfl (R.fieldAddr (b := b_1) (off := 0) (off' := 35) rfl Tryz.underlying28 rfl Tryz.sizeOf25 rfl rfl) ?_
  refine WL.q (Wn.no rfl) rfl rfl (R.load1 (b := b_1) (off := 35) (v := (.slice fa fn fc)) rfl Tryz.isAgg25 (h_24.ok _ (.tail _ (.tail _ (.tail _ (.tail _ (.tail _ (.tail _ (.tail _ (.tail _ (.tail _ (.tail _ (.tail _ (.head _))))))))))))) (Sg.t rfl (Sg.t rfl (Sg.t rfl (Sg.t rfl Sg.h))))) ?_
  refine WL.q (Wn.no rfl) rfl rfl (R.lenS (a := fa) (m := fn) rfl rfl Tryz.underlying25) ?_
  refine WL.q (Wn.no rfl) rfl rfl (R.bin (v := (.bool (decide ((((g : Nat) : Int) : Int) < ((fn : Nat) : Int))))) rfl rfl (bi_lss (r := decide ((((g : Nat) : Int) : Int) < ((fn : Nat) : Int))) rfl)) ?_
  refine WL.q (Wn.no rfl) rfl rfl (R.move (v := (.bool (decide ((((g : Nat) : Int) : Int) < ((fn : Nat) : Int))))) rfl) ?_
  rcases Bool.eq_false_or_eq_true (decide ((((g : Nat) : Int) : Int) < ((fn : Nat) : Int))) with c_27 | c_27
  · have p_28 := of_decide_eq_true c_27
    refine WL.want rfl (congrArg Value.bool c_27) ?_
    refine WL.q (Wn.no rfl) rfl rfl (R.move (v := (vi ((g : Nat) : Int))) rfl) ?_
    refine WL.want rfl (congrArg Value.bool c_27) ?_
    refine WL.q (Wn.no rfl) rfl rfl (R.fieldAddr (b := b_1) (off := 0) (off' := 34) rfl Tryz.underlying28 rfl Tryz.sizeOf3 rfl rfl) ?_
    refine WL.want rfl (congrArg Value.bool c_27) ?_
    refine WL.q (Wn.no rfl) rfl rfl (R.load1 (b := b_1) (off := 34) (v := (vi ((gn : Nat) : Int))) rfl Tryz.isAgg3 (h_24.ok _ (.tail _ (.tail _ (.tail _ (.tail _ (.tail _ (.tail _ (.tail _ (.tail _ (.tail _ (.tail _ (.tail _ (.head _))))))))))))) (Sg.t rfl (Sg.t rfl (Sg.t rfl Sg.h)))) ?_
    refine WL.want rfl (congrArg Value.bool c_27) ?_
    refine WL.q (Wn.no rfl) rfl rfl (R.bin (v := (.bool (decide ((((g : Nat) : Int) : Int) < ((gn : Nat) : Int))))) rfl rfl (bi_lss (r := decide ((((g : Nat) : Int) : Int) < ((gn : Nat) : Int))) rfl)) ?_
    refine WL.q (Wn.no rfl) rfl rfl (R.pickT (v := (.bool (decide ((((g : Nat) : Int) : Int) < ((gn : Nat) : Int))))) (congrArg Value.bool c_27) rfl) ?_
    refine WL.nil ?_
    refine thn_n ?_
    refine WP.cond (b := decide ((((g : Nat) : Int) : Int) < ((gn : Nat) : Int))) rfl (fun c_29 => ?_) (fun c_29 => ?_)
    · have p_30 := of_decide_eq_true c_29
      refine WP.skip ?_
      refine thn_n ?_
      refine WP.seq ?_
      refine WP.block ?_
      refine WP.seq ?_
      refine WP.seq ?_
      refine WP.reg ?_
      refine WL.q (Wn.no rfl) rfl rfl (R.move (v := (.pointer (some ⟨b_11, 0, none⟩))) rfl) ?_
      refine WL.q (Wn.no rfl) rfl rfl (R.move (v := (vi ((g : Nat) : Int))) rfl) ?_
      refine WL.q (Wn.no rfl) rfl rfl (R.fieldAddr (b := b_1) (off := 0) (off' := 35) rfl Tryz.underlying28 rfl Tryz.sizeOf25 rfl rfl) ?_
      refine WL.q (Wn.no rfl) rfl rfl (R.load1 (b := b_1) (off := 35) (v := (.slice fa fn fc)) rfl Tryz.isAgg25 (h_24.ok _ (.tail _ (.tail _ (.tail _ (.tail _ (.tail _ (.tail _ (.tail _ (.tail _ (.tail _ (.tail _ (.tail _ (.head _))))))))))))) (Sg.t rfl (Sg.t rfl (Sg.t rfl (Sg.t rfl Sg.h))))) ?_
      refine WL.q (Wn.no rfl) rfl rfl (R.move (v := (vi ((g : Nat) : Int))) rfl) ?_
      refine WL.q (Wn.no rfl) rfl rfl (R.indexS (a := fa) (i := g) (off := g * 128) (xs := fd.map vu8) rfl rfl rfl (by omega) (viewV (h_24.ok _ (.tail _ (.tail _ (.tail _ (.tail _ (.tail _ (.tail _ (.tail _ (.tail _ (.tail _ (.tail _ (.tail _ (.tail _ (.head _))))))))))))))) (lt_len (K := 128 * fn) (len_map hfl) (by omega)) Tryz.underlying25 Tryz.sizeOf76 rfl) ?_
      refine WL.q (Wn.no rfl) rfl rfl (R.loadGA (a := fa) (i := g * 128) (xs := fd.map vu8) (cs := (((fd).drop (g * 128)).take 128).map vu8) rfl (viewV (h_24.ok _ (.tail _ (.tail _ (.tail _ (.tail _ (.tail _ (.tail _ (.tail _ (.tail _ (.tail _ (.tail _ (.tail _ (.tail _ (.head _))))))))))))))) Tryz.isAgg76 Tryz.sizeOf76 (by rw [List.map_take, List.map_drop]) (len_map (subLen (K := 128 * fn) hfl (by omega) : List.length (((fd).drop (g * 128)).take 128) = 128)) (by decide)) ?_
      have h_31 := h_24.up (Pick.t (Pick.t (Pick.t (Pick.t Pick.h))))
      have h_32 := h_31.up (Pick.t (Pick.t (Pick.t (Pick.t Pick.h))))
      refine WL.call (al := [(.pointer (some ⟨b_11, 0, none⟩)), (vi ((g : Nat) : Int)), (.agg ⟨(((fd).drop (g * 128)).take 128).map vu8⟩)]) Tryz.call37 rfl rfl (c_MPut b_11 a_12 gn g (by omega) (by omega) (fillL fd gn g) (((fd).drop (g * 128)).take 128) (fillL_len hfl hgg hgf) (subLen (K := 128 * fn) hfl (by omega) : List.length (((fd).drop (g * 128)).take 128) = 128) _ h_32) rfl ?_
      rintro _ w_33 ⟨rfl, h_34⟩
      refine WL.call (al := [(vi 0)]) Tryz.call17 rfl rfl (c_num15 0 (by omega) _ ) rfl ?_
      rintro _ w_36 ⟨rfl, hc_35⟩
      have h_37 := h_34.same hc_35
      refine WL.q (Wn.no rfl) rfl rfl (R.bin (v := (.bool false)) rfl rfl (bi_neq (r := false) (by decide))) ?_
      refine WL.nil ?_
      refine thn_n ?_
      refine WP.condF rfl ?_
      refine WP.skip ?_
      refine thn_n ?_
      refine WP.reg ?_
      refine WL.q (Wn.no rfl) rfl rfl (R.move (v := (.pointer (some ⟨b_19, 0, none⟩))) rfl) ?_
      refine WL.q (Wn.no rfl) rfl rfl (R.move (v := (vi ((g : Nat) : Int))) rfl) ?_
      refine WL.q (Wn.no rfl) rfl rfl (R.fieldAddr (b := b_1) (off := 0) (off' := 35) rfl Tryz.underlying28 rfl Tryz.sizeOf25 rfl rfl) ?_
      refine WL.q (Wn.no rfl) rfl rfl (R.load1 (b := b_1) (off := 35) (v := (.slice fa fn fc)) rfl Tryz.isAgg25 (h_37.ok _ (.tail _ (.tail _ (.tail _ (.tail _ (.tail _ (.tail _ (.tail _ (.tail _ (.tail _ (.tail _ (.tail _ (.head _))))))))))))) (Sg.t rfl (Sg.t rfl (Sg.t rfl (Sg.t rfl Sg.h))))) ?_
      refine WL.q (Wn.no rfl) rfl rfl (R.move (v := (vi ((g : Nat) : Int))) rfl) ?_
      refine WL.q (Wn.no rfl) rfl rfl (R.indexS (a := fa) (i := g) (off := g * 128) (xs := fd.map vu8) rfl rfl rfl (by omega) (viewV (h_37.ok _ (.tail _ (.tail _ (.tail _ (.tail _ (.tail _ (.tail _ (.tail _ (.tail _ (.tail _ (.tail _ (.tail _ (.tail _ (.head _))))))))))))))) (lt_len (K := 128 * fn) (len_map hfl) (by omega)) Tryz.underlying25 Tryz.sizeOf76 rfl) ?_
      refine WL.q (Wn.no rfl) rfl rfl (R.loadGA (a := fa) (i := g * 128) (xs := fd.map vu8) (cs := (((fd).drop (g * 128)).take 128).map vu8) rfl (viewV (h_37.ok _ (.tail _ (.tail _ (.tail _ (.tail _ (.tail _ (.tail _ (.tail _ (.tail _ (.tail _ (.tail _ (.tail _ (.tail _ (.head _))))))))))))))) Tryz.isAgg76 Tryz.sizeOf76 (by rw [List.map_take, List.map_drop]) (len_map (subLen (K := 128 * fn) hfl (by omega) : List.length (((fd).drop (g * 128)).take 128) = 128)) (by decide)) ?_
      have h_38 := h_37.up (Pick.t (Pick.t (Pick.t Pick.h)))
      have h_39 := h_38.up (Pick.t (Pick.t (Pick.t Pick.h)))
      refine WL.call (al := [(.pointer (some ⟨b_19, 0, none⟩)), (vi ((g : Nat) : Int)), (.agg ⟨(((fd).drop (g * 128)).take 128).map vu8⟩)]) Tryz.call38 rfl rfl (c_KPut b_19 a_20 gn g (by omega) (by omega) (fillL fd gn g) (((fd).drop (g * 128)).take 128) (fillL_len hfl hgg hgf) (subLen (K := 128 * fn) hfl (by omega) : List.length (((fd).drop (g * 128)).take 128) = 128) _ h_39) rfl ?_
      rintro _ w_40 ⟨rfl, h_41⟩
      refine WL.nil ?_
      refine inb_n ?_
      refine thn_n ?_
      refine WP.reg ?_
      refine WL.q (Wn.no rfl) rfl rfl (R.move (v := (vi ((g : Nat) : Int))) rfl) ?_
      refine WL.q (Wn.no rfl) rfl rfl (R.bin (v := (vi ((g + 1 : Nat) : Int))) rfl rfl (bi_add (c := ((g + 1 : Nat) : Int)) (by omega) (by omega))) ?_
      refine WL.q (Wn.no rfl) rfl rfl (R.assign (v := (vi ((g + 1 : Nat) : Int))) rfl) ?_
      refine WL.nil ?_
      refine thn_n ?_
      have h_42 := h_41.up (Pick.t (Pick.t (Pick.t (Pick.t (Pick.t (Pick.t (Pick.t (Pick.t (Pick.t (Pick.t (Pick.t (Pick.t Pick.h))))))))))))
      have h_43 := h_42.up (Pick.t (Pick.t (Pick.t (Pick.t (Pick.t (Pick.t (Pick.t (Pick.t (Pick.t (Pick.t (Pick.t (Pick.t Pick.h))))))))))))
      have h_44 := h_43.up (Pick.t (Pick.t (Pick.t (Pick.t (Pick.t (Pick.t (Pick.t (Pick.t (Pick.t (Pick.t (Pick.t (Pick.t Pick.h))))))))))))
      have h_45 := h_44.up (Pick.t (Pick.t (Pick.t (Pick.t (Pick.t (Pick.t (Pick.t (Pick.t (Pick.t (Pick.t (Pick.t (Pick.t Pick.h))))))))))))
      have h_46 := h_45.up (Pick.t (Pick.t (Pick.t (Pick.t (Pick.t (Pick.t (Pick.t (Pick.t (Pick.t (Pick.t (Pick.t (Pick.t Pick.h))))))))))))
      have h_47 := h_46.up (Pick.t (Pick.t (Pick.t (Pick.t (Pick.t (Pick.t (Pick.t (Pick.t (Pick.t (Pick.t (Pick.t (Pick.t Pick.h))))))))))))
      have h_48 := h_47.up (Pick.t (Pick.t (Pick.t (Pick.t (Pick.t (Pick.t (Pick.t (Pick.t (Pick.t (Pick.t (Pick.t (Pick.t Pick.h))))))))))))
      have h_49 := h_48.up (Pick.t (Pick.t (Pick.t (Pick.t (Pick.t (Pick.t (Pick.t (Pick.t (Pick.t (Pick.t (Pick.t (Pick.t Pick.h))))))))))))
      have h_50 := h_49.up (Pick.t (Pick.t (Pick.t (Pick.t (Pick.t (Pick.t (Pick.t (Pick.t (Pick.t (Pick.t (Pick.t Pick.h)))))))))))
      have h_51 := h_50.up (Pick.t (Pick.t (Pick.t (Pick.t (Pick.t (Pick.t (Pick.t (Pick.t (Pick.t (Pick.t (Pick.t Pick.h)))))))))))
      have h_52 := h_51.up (Pick.t (Pick.t (Pick.t (Pick.t (Pick.t (Pick.t (Pick.t (Pick.t (Pick.t (Pick.t (Pick.t (Pick.t Pick.h))))))))))))
      have h_53 := h_52.up (Pick.t (Pick.t (Pick.t (Pick.t (Pick.t (Pick.t (Pick.t (Pick.t (Pick.t (Pick.t (Pick.t (Pick.t Pick.h))))))))))))
      have h_54 := h_53.up (Pick.t (Pick.t (Pick.t (Pick.t (Pick.t (Pick.t (Pick.t (Pick.t (Pick.t (Pick.t (Pick.t (Pick.t Pick.h))))))))))))
      exact ⟨g + 1, _, (by omega), (Ag.upd rfl (Ag.upd rfl (Ag.upd rfl (Ag.upd rfl (Ag.upd rfl (Ag.upd rfl (Ag.upd rfl (Ag.upd rfl (Ag.upd rfl (Ag.upd rfl (Ag.upd rfl (Ag.upd rfl (Ag.upd rfl (Ag.upd rfl (Ag.upd rfl (Ag.upd rfl (Ag.upd rfl (Ag.upd rfl (Ag.upd rfl (Ag.upd rfl (Ag.upd rfl (Ag.upd rfl (Ag.upd rfl (Ag.upd rfl (Ag.upd rfl (Ag.upd rfl (Ag.upd rfl (Ag.upd rfl (Ag.upd rfl (Ag.upd rfl (Ag.upd rfl (Ag.upd rfl (Ag.updL rfl (Ag.mix _ _ _)))))))))))))))))))))))))))))))))), ⟨rfl, trivial⟩, h_54, (by omega), (by omega), rfl⟩
    · have p_55 := of_decide_eq_false c_29
      refine WP.exit ?_
      refine thn_x ?_
      refine thn_x ?_
      refine inb_hit ?_
      refine thn_n ?_
      refine WP.seq ?_
      refine WP.reg ?_
      refine WL.q (Wn.no rfl) rfl rfl (R.move (v := (.pointer (some ⟨b_5, 0, none⟩))) rfl) ?_
      refine WL.q (Wn.no rfl) rfl rfl (R.move (v := (.pointer (some ⟨b_11, 0, none⟩))) rfl) ?_
      refine WL.q (Wn.no rfl) rfl rfl (R.move (v := (.pointer (some ⟨b_16, 0, none⟩))) rfl) ?_
      refine WL.q (Wn.no rfl) rfl rfl (R.move (v := (.pointer (some ⟨b_19, 0, none⟩))) rfl) ?_
      refine WL.q (Wn.no rfl) rfl rfl (R.move (v := (vi 0)) rfl) ?_
      refine WL.call (al := [(vi 0)]) Tryz.call17 rfl rfl (c_num15 0 (by omega) _ ) rfl ?_
      rintro _ w_57 ⟨rfl, hc_56⟩
      have h_58 := h_24.same hc_56
      refine WL.q (Wn.no rfl) rfl rfl (R.bin (v := (.bool true)) rfl rfl (bi_eql (r := true) (by decide))) ?_
      refine WL.q (Wn.no rfl) rfl rfl (R.move (v := (.bool true)) rfl) ?_
      refine WL.want rfl rfl ?_
      refine WL.q (Wn.no rfl) rfl rfl (R.move (v := (.pointer (some ⟨b_5, 0, none⟩))) rfl) ?_
      refine WL.want rfl rfl ?_
      refine WL.q (Wn.no rfl) rfl rfl (R.neNilP rfl rfl Tryz.underlying31) ?_
      refine WL.q (Wn.no rfl) rfl rfl (R.pickT (v := (.bool true)) rfl rfl) ?_
      refine WL.q (Wn.no rfl) rfl rfl (R.move (v := (.bool true)) rfl) ?_
      refine WL.want rfl rfl ?_
      refine WL.q (Wn.no rfl) rfl rfl (R.move (v := (.pointer (some ⟨b_11, 0, none⟩))) rfl) ?_
      refine WL.want rfl rfl ?_
      refine WL.q (Wn.no rfl) rfl rfl (R.neNilP rfl rfl Tryz.underlying32) ?_
      refine WL.q (Wn.no rfl) rfl rfl (R.pickT (v := (.bool true)) rfl rfl) ?_
      refine WL.q (Wn.no rfl) rfl rfl (R.assign (v := (.pointer (some ⟨b_5, 0, none⟩))) rfl) ?_
      refine WL.q (Wn.no rfl) rfl rfl (R.assign (v := (.pointer (some ⟨b_11, 0, none⟩))) rfl) ?_
      refine WL.q (Wn.no rfl) rfl rfl (R.assign (v := (.pointer (some ⟨b_16, 0, none⟩))) rfl) ?_
      refine WL.q (Wn.no rfl) rfl rfl (R.assign (v := (.pointer (some ⟨b_19, 0, none⟩))) rfl) ?_
      refine WL.q (Wn.no rfl) rfl rfl (R.assign (v := (.bool true)) rfl) ?_
      refine WL.nil ?_
      refine thn_n ?_
      refine WP.ret ?_
      refine ret_of Tryz.results8 (RV.tmp (v := (.pointer (some ⟨b_5, 0, none⟩))) rfl (RV.tmp (v := (.pointer (some ⟨b_11, 0, none⟩))) rfl (RV.tmp (v := (.pointer (some ⟨b_16, 0, none⟩))) rfl (RV.tmp (v := (.pointer (some ⟨b_19, 0, none⟩))) rfl (RV.tmp (v := (.bool true)) rfl RV.nil))))) ?_
      have h_59 := h_58.up (Pick.t (Pick.t (Pick.t (Pick.t (Pick.t (Pick.t (Pick.t (Pick.t (Pick.t (Pick.t (Pick.t Pick.h)))))))))))
      have h_60 := h_59.drop rfl
      have h_61 := h_60.up (Pick.t (Pick.t (Pick.t (Pick.t (Pick.t (Pick.t (Pick.t (Pick.t (Pick.t (Pick.t (Pick.t Pick.h)))))))))))
      have h_62 := h_61.up (Pick.t (Pick.t (Pick.t (Pick.t (Pick.t (Pick.t (Pick.t (Pick.t (Pick.t (Pick.t (Pick.t Pick.h)))))))))))
      have h_63 := h_62.up (Pick.t (Pick.t (Pick.t Pick.h)))
      have h_64 := h_63.up (Pick.t (Pick.t (Pick.t Pick.h)))
      have h_65 := h_64.up (Pick.t (Pick.t (Pick.t (Pick.t (Pick.t (Pick.t Pick.h))))))
      have h_66 := h_65.up (Pick.t (Pick.t (Pick.t (Pick.t (Pick.t (Pick.t Pick.h))))))
      have h_67 := h_66.up (Pick.t (Pick.t (Pick.t (Pick.t (Pick.t (Pick.t Pick.h))))))
      have h_68 := h_67.up (Pick.t (Pick.t (Pick.t (Pick.t (Pick.t (Pick.t (Pick.t (Pick.t (Pick.t (Pick.t (Pick.t Pick.h)))))))))))
      have h_69 := h_68.up (Pick.t (Pick.t (Pick.t (Pick.t (Pick.t (Pick.t (Pick.t (Pick.t (Pick.t (Pick.t (Pick.t Pick.h)))))))))))
      have h_70 := h_69.up (Pick.t (Pick.t (Pick.t (Pick.t (Pick.t (Pick.t (Pick.t (Pick.t (Pick.t (Pick.t (Pick.t Pick.h)))))))))))
      have h_71 := h_70.up (Pick.t (Pick.t (Pick.t (Pick.t (Pick.t (Pick.t (Pick.t (Pick.t (Pick.t (Pick.t (Pick.t Pick.h)))))))))))
      have h_72 := h_71.up (Pick.t (Pick.t (Pick.t (Pick.t (Pick.t (Pick.t (Pick.t (Pick.t (Pick.t (Pick.t (Pick.t Pick.h)))))))))))
      have hgm : g = min fn gn := by omega
      subst hgm
      exact ⟨_, _, _, _, _, _, _, _, _, rfl, h_72⟩
  · have p_73 := of_decide_eq_false c_27
    refine WL.skip rfl (congrArg Value.bool c_27) rfl ?_
    refine WL.skip rfl (congrArg Value.bool c_27) rfl ?_
    refine WL.skip rfl (congrArg Value.bool c_27) rfl ?_
    refine WL.skip rfl (congrArg Value.bool c_27) rfl ?_
    refine WL.q (Wn.no rfl) rfl rfl (R.pickF (v := (.bool false)) (congrArg Value.bool c_27) rfl) ?_
    refine WL.nil ?_
    refine thn_n ?_
    refine WP.condF rfl ?_
    refine WP.exit ?_
    refine thn_x ?_
    refine thn_x ?_
    refine inb_hit ?_
    refine thn_n ?_
    refine WP.seq ?_
    refine WP.reg ?_
    refine WL.q (Wn.no rfl) rfl rfl (R.move (v := (.pointer (some ⟨b_5, 0, none⟩))) rfl) ?_
    refine WL.q (Wn.no rfl) rfl rfl (R.move (v := (.pointer (some ⟨b_11, 0, none⟩))) rfl) ?_
    refine WL.q (Wn.no rfl) rfl rfl (R.move (v := (.pointer (some ⟨b_16, 0, none⟩))) rfl) ?_
    refine WL.q (Wn.no rfl) rfl rfl (R.move (v := (.pointer (some ⟨b_19, 0, none⟩))) rfl) ?_
    refine WL.q (Wn.no rfl) rfl rfl (R.move (v := (vi 0)) rfl) ?_
    refine WL.call (al := [(vi 0)]) Tryz.call17 rfl rfl (c_num15 0 (by omega) _ ) rfl ?_
    rintro _ w_75 ⟨rfl, hc_74⟩
    have h_76 := h_24.same hc_74
    refine WL.q (Wn.no rfl) rfl rfl (R.bin (v := (.bool true)) rfl rfl (bi_eql (r := true) (by decide))) ?_
    refine WL.q (Wn.no rfl) rfl rfl (R.move (v := (.bool true)) rfl) ?_
    refine WL.want rfl rfl ?_
    refine WL.q (Wn.no rfl) rfl rfl (R.move (v := (.pointer (some ⟨b_5, 0, none⟩))) rfl) ?_
    refine WL.want rfl rfl ?_
    refine WL.q (Wn.no rfl) rfl rfl (R.neNilP rfl rfl Tryz.underlying31) ?_
    refine WL.q (Wn.no rfl) rfl rfl (R.pickT (v := (.bool true)) rfl rfl) ?_
    refine WL.q (Wn.no rfl) rfl rfl (R.move (v := (.bool true)) rfl) ?_
    refine WL.want rfl rfl ?_
    refine WL.q (Wn.no rfl) rfl rfl (R.move (v := (.pointer (some ⟨b_11, 0, none⟩))) rfl) ?_
    refine WL.want rfl rfl ?_
    refine WL.q (Wn.no rfl) rfl rfl (R.neNilP rfl rfl Tryz.underlying32) ?_
    refine WL.q (Wn.no rfl) rfl rfl (R.pickT (v := (.bool true)) rfl rfl) ?_
    refine WL.q (Wn.no rfl) rfl rfl (R.assign (v := (.pointer (some ⟨b_5, 0, none⟩))) rfl) ?_
    refine WL.q (Wn.no rfl) rfl rfl (R.assign (v := (.pointer (some ⟨b_11, 0, none⟩))) rfl) ?_
    refine WL.q (Wn.no rfl) rfl rfl (R.assign (v := (.pointer (some ⟨b_16, 0, none⟩))) rfl) ?_
    refine WL.q (Wn.no rfl) rfl rfl (R.assign (v := (.pointer (some ⟨b_19, 0, none⟩))) rfl) ?_
    refine WL.q (Wn.no rfl) rfl rfl (R.assign (v := (.bool true)) rfl) ?_
    refine WL.nil ?_
    refine thn_n ?_
    refine WP.ret ?_
    refine ret_of Tryz.results8 (RV.tmp (v := (.pointer (some ⟨b_5, 0, none⟩))) rfl (RV.tmp (v := (.pointer (some ⟨b_11, 0, none⟩))) rfl (RV.tmp (v := (.pointer (some ⟨b_16, 0, none⟩))) rfl (RV.tmp (v := (.pointer (some ⟨b_19, 0, none⟩))) rfl (RV.tmp (v := (.bool true)) rfl RV.nil))))) ?_
    have h_77 := h_76.up (Pick.t (Pick.t (Pick.t (Pick.t (Pick.t (Pick.t (Pick.t (Pick.t (Pick.t (Pick.t (Pick.t Pick.h)))))))))))
    have h_78 := h_77.drop rfl
    have h_79 := h_78.up (Pick.t (Pick.t (Pick.t (Pick.t (Pick.t (Pick.t (Pick.t (Pick.t (Pick.t (Pick.t (Pick.t Pick.h)))))))))))
    have h_80 := h_79.up (Pick.t (Pick.t (Pick.t (Pick.t (Pick.t (Pick.t (Pick.t (Pick.t (Pick.t (Pick.t (Pick.t Pick.h)))))))))))
    have h_81 := h_80.up (Pick.t (Pick.t (Pick.t Pick.h)))
    have h_82 := h_81.up (Pick.t (Pick.t (Pick.t Pick.h)))
    have h_83 := h_82.up (Pick.t (Pick.t (Pick.t (Pick.t (Pick.t (Pick.t Pick.h))))))
    have h_84 := h_83.up (Pick.t (Pick.t (Pick.t (Pick.t (Pick.t (Pick.t Pick.h))))))
    have h_85 := h_84.up (Pick.t (Pick.t (Pick.t (Pick.t (Pick.t (Pick.t Pick.h))))))
    have h_86 := h_85.up (Pick.t (Pick.t (Pick.t (Pick.t (Pick.t (Pick.t (Pick.t (Pick.t (Pick.t (Pick.t (Pick.t Pick.h)))))))))))
    have h_87 := h_86.up (Pick.t (Pick.t (Pick.t (Pick.t (Pick.t (Pick.t (Pick.t (Pick.t (Pick.t (Pick.t (Pick.t Pick.h)))))))))))
    have h_88 := h_87.up (Pick.t (Pick.t (Pick.t (Pick.t (Pick.t (Pick.t (Pick.t (Pick.t (Pick.t (Pick.t (Pick.t Pick.h)))))))))))
    have h_89 := h_88.up (Pick.t (Pick.t (Pick.t (Pick.t (Pick.t (Pick.t (Pick.t (Pick.t (Pick.t (Pick.t (Pick.t Pick.h)))))))))))
    have h_90 := h_89.up (Pick.t (Pick.t (Pick.t (Pick.t (Pick.t (Pick.t (Pick.t (Pick.t (Pick.t (Pick.t (Pick.t Pick.h)))))))))))
    have hgm : g = min fn gn := by omega
    subst hgm
    exact ⟨_, _, _, _, _, _, _, _, _, rfl, h_90⟩
end Go.Proofs.YtbhllplbbkmndaaGreat

namespace Go.Proofs.YtbhllplbbkmndaaGreat
open Go.Proofs.Tryz
open Go.Vc Go.Orc Go.Sh Go.RowKit
set_option maxRecDepth 20000

end Go.Proofs.YtbhllplbbkmndaaGreat
