/- Rules for walks and contracts of the functions that the law reaches, one behind the other. Conditions: none beyond what each theorem states. -/
import Derived.Test.YtnhppjimimhlkaaZ4AttestIssues
set_option linter.unusedVariables false
set_option linter.unusedSimpArgs false
set_option linter.unusedSectionVars false
namespace Go.Proofs.Ytnhppjimimhlkaa
open Go.Vc Go.Orc Go.Sh Go.RowKit
set_option maxRecDepth 20000

theorem c_rAns {w00 : World} {L : List Ent} (id : Bool) (ob : Nat) (ms df : List UInt8) (hms : ms.length = 32) (da : Option Addr) (dn dc u : Nat) (hdf : df.length = 32 * dn) (la : Option Addr) (lc : Nat) (lx : List Value) (lg : Lg) (hu : u ≤ 1000000) (hlg : lg.length ≤ 1000000) (kd dm : Int) (key data : List UInt8) (qa : Option Addr) (qn qc : Nat) (hq : okQ (kd, key, dm, data)) (hdl : data.length = qn) (cd : List UInt8) (hcdl : cd.length = 32) (hcd : id = false → cd = cF (kd, key, dm, data)) (w : World) (h_0 : HP w00 w (Ent.blk ob .nw 64 [(1, [(.bool id)]), (32, ms.map vu8), (1, [(.slice da dn dc)]), (1, [(vi ((u : Nat) : Int))]), (1, [(.slice la lg.length lc)])] :: Ent.row la lg.length lc 111 67 lx :: Ent.pin (sblks lx) (fun w => Lgs w lx lg) :: Ent.view da (df.map vu8) :: Ent.view qa (data.map vu8) :: L)) :
  Cs Try.prog 118 [(.pointer (some ⟨ob, 0, none⟩)), (.agg ⟨flat [(1, [(vi kd)]), (32, key.map vu8), (1, [(vi dm)]), (1, [(.slice qa qn qc)])]⟩), (.agg ⟨cd.map vu8⟩)].toArray w (fun v w1 => ∃ la' lc' lx', v = (.agg ⟨(anD id df dn u lg (kd, key, dm, data)).map vu8⟩) ∧ HP w00 w1 (Ent.blk ob .nw 64 [(1, [(.bool id)]), (32, ms.map vu8), (1, [(.slice da dn dc)]), (1, [(vi (((anU id u lg (kd, key, dm, data)) : Nat) : Int))]), (1, [(.slice la' ((anL id df dn u lg (kd, key, dm, data)).length) lc')])] :: Ent.row la' ((anL id df dn u lg (kd, key, dm, data)).length) lc' 111 67 lx' :: Ent.pin (sblks lx') (fun w => Lgs w lx' (anL id df dn u lg (kd, key, dm, data))) :: Ent.view da (df.map vu8) :: Ent.view qa (data.map vu8) :: L)) := by
 have hlgs : Lgs w lx lg := (h_0.ok _ M2).1
 have hlo := hlgs.ok
 have hqn : data.length ≤ 1000000000 := hq.2.2.2
 refine Cs.of (n := 71) (args := [(pO ob 0), (.agg ⟨flat [(1, [(vi kd)]), (32, key.map vu8), (1, [(vi dm)]), (1, [(.slice qa qn qc)])]⟩), (.agg ⟨cd.map vu8⟩)]) Try.func118 rfl rfl rfl ?_
 refine WP.seq (WP.reg ?_)
 refine WL.box (v := (.agg ⟨flat [(1, [(vi kd)]), (32, key.map vu8), (1, [(vi dm)]), (1, [(.slice qa qn qc)])]⟩)) (segs := [(1, [(vi kd)]), (32, key.map vu8), (1, [(vi dm)]), (1, [(.slice qa qn qc)])]) h_0 rfl rfl (SsOk.cons (SOk.v rfl) (SsOk.cons (SOk.u8 hq.1) (SsOk.cons (SOk.v rfl) (SsOk.cons (SOk.v rfl) SsOk.nil)))) rfl (fun b_1 w_2 h_3 => ?_)
 refine WL.box (v := (.agg ⟨cd.map vu8⟩)) (segs := [(32, cd.map vu8)]) h_3 rfl rfl (SsOk.cons (SOk.u8 hcdl) SsOk.nil) rfl (fun b_4 w_5 h_6 => ?_)
 refine WL.alloc (segs := [(32, (List.replicate 32 (0 : UInt8)).map vu8)]) h_6 (zv Try.typeInfo23 rfl) rfl (SsOk.cons (SOk.u8 lr) SsOk.nil) rfl (fun b_7 w_8 h_9 => ?_)
 refine WL.nil (thn_n (WP.seq (WP.seq (WP.reg ?_))))
 refine qA (vi 0) rfl rfl ?_
 refine WL.nil (thn_n (WP.block ?_))
 refine WP.loopG (G := Nat) [7, 9, 10, 11, 12, 13, 14, 15, 16, 17, 18, 19, 20, 21, 22, 23, 24, 25, 26, 27, 28, 29, 30, 31, 32, 33, 34, 35] (fun k => [(7, (vn k))]) (fun k m w1 => HP w00 w1 (Ent.blk b_7 .nw 23 [(32, (List.replicate 32 (0 : UInt8)).map vu8)] :: Ent.blk b_4 .nw 23 [(32, cd.map vu8)] :: Ent.blk b_1 .nw 103 [(1, [(vi kd)]), (32, key.map vu8), (1, [(vi dm)]), (1, [(.slice qa qn qc)])] :: Ent.blk ob .nw 64 [(1, [(.bool id)]), (32, ms.map vu8), (1, [(.slice da dn dc)]), (1, [(vn u)]), (1, [(.slice la lg.length lc)])] :: Ent.row la lg.length lc 111 67 lx :: Ent.pin (sblks lx) (fun w => Lgs w lx lg) :: Ent.view da (df.map vu8) :: Ent.view qa (data.map vu8) :: L) ∧ (k ≤ lg.length) ∧ (∀ j, j < k → (lg.getD j ((kd, key, dm, data), [])).1 ≠ (kd, key, dm, data)) ∧ m = lg.length + 1 - k) ⟨0, _, ⟨rfl, trivial⟩, h_9, Nat.zero_le _, (fun j hj => by omega), rfl⟩ ?_
 rintro k m_12 J_13 w_10 ⟨h_11, hk, hno, rfl⟩
 refine WP.seq (WP.seq (WP.reg ?_))
 refine qM (vn k) rfl rfl (qM (pO ob 0) rfl rfl (qV rfl (R.nilCheck rfl) (qV rfl (R.fieldAddr (b := ob) (off := 0) (off' := 35) rfl Try.underlying64 rfl Try.sizeOf48 rfl rfl) (qV rfl (R.load1 (b := ob) (off := 35) (v := (.slice la lg.length lc)) rfl Try.isAgg48 (h_11.ok _ M3) (Sg.t rfl (Sg.t rfl (Sg.t rfl (Sg.t rfl Sg.h))))) (qV rfl (R.lenS (a := la) (m := lg.length) rfl rfl Try.underlying48) (qV rfl (R.bin rfl rfl (bi_lss (r := decide ((((k : Nat) : Int) : Int) < ((lg.length : Nat) : Int))) rfl)) ?_))))))
 refine WL.nil (thn_n ?_)
 refine WP.cond (b := decide ((((k : Nat) : Int) : Int) < ((lg.length : Nat) : Int))) rfl (fun c_14 => ?_) (fun c_14 => ?_)
 ·have p_15 := of_decide_eq_true c_14
  refine WP.skip (thn_n (WP.seq (WP.block (WP.seq ?_))))
  have hkl : k < lg.length := by omega
  obtain ⟨ka, kn, kc, hkx, hkq, hkn, hkc, hkv, hkb⟩ := Lgs.qget (z := ((kd, key, dm, data), [])) (h_11.ok _ M5).1 hkl
  have h_16 := h_11.within (e' := .view ka ((lg.getD k ((kd, key, dm, data), [])).1.2.2.2.map vu8)) M5 rfl (View.arg hkv) rfl rfl (fun b hb_ => hkb _ (view_sblk hkn b hb_))
  refine WP.drawT (SL w00.heap.size [.view ka ((lg.getD k ((kd, key, dm, data), [])).1.2.2.2.map vu8), .blk b_7 .nw 23 [(32, (List.replicate 32 (0 : UInt8)).map vu8)], .blk b_4 .nw 23 [(32, cd.map vu8)], .blk b_1 .nw 103 [(1, [(vi kd)]), (32, key.map vu8), (1, [(vi dm)]), (1, [(.slice qa qn qc)])], .blk ob .nw 64 [(1, [(.bool id)]), (32, ms.map vu8), (1, [(.slice da dn dc)]), (1, [(vn u)]), (1, [(.slice la lg.length lc)])], .row la lg.length lc 111 67 lx, .pin (sblks lx) (fun w => Lgs w lx lg), .view da (df.map vu8), .view qa (data.map vu8)]) (.q 0 (.q 1 (.q 2 (.q 3 (.q 4 (.q 5 (.q 6 (.q 7 (.q 8 (.s 9 .nil)))))))))) (by kernel_rfl) (by kernel_rfl) rfl (by kernel_rfl) (fun w_17 hc_19 => (SL.cons ((h_16.same hc_19).ok _ M0) (SL.cons ((h_16.same hc_19).ok _ M1) (SL.cons ((h_16.same hc_19).ok _ M2) (SL.cons ((h_16.same hc_19).ok _ M3) (SL.cons ((h_16.same hc_19).ok _ M4) (SL.cons ((h_16.same hc_19).ok _ M5) (SL.cons ((h_16.same hc_19).ok _ M6) (SL.cons ((h_16.same hc_19).ok _ M7) (SL.cons ((h_16.same hc_19).ok _ M8) (SL.nil _ _))))))))))) (fun w_17 hc_19 => ?_)
  have h_18 := h_16.same hc_19
  refine qT rfl rfl (fun wq hS => R.move (v := (pO ob 0)) rfl) ?_
  refine qT rfl rfl (fun wq hS => R.nilCheck rfl) ?_
  refine qT rfl rfl (fun wq hS => R.fieldAddr (b := ob) (off := 0) (off' := 35) rfl Try.underlying64 rfl Try.sizeOf48 rfl rfl) ?_
  refine qT rfl rfl (fun wq hS => R.load1 (b := ob) (off := 35) (v := (.slice la lg.length lc)) rfl Try.isAgg48 (hS _ M4) (Sg.t rfl (Sg.t rfl (Sg.t rfl (Sg.t rfl Sg.h))))) ?_
  refine qT rfl rfl (fun wq hS => R.move (v := (vn k)) rfl) ?_
  refine qT rfl rfl (fun wq hS => R.indexS (a := la) (i := k) (off := k * 67) (xs := lx) rfl rfl rfl (by omega) (ownView (hS _ M5)) (by rw [Lgs.len hlgs]; omega) Try.underlying48 Try.sizeOf111 rfl) ?_
  refine qT rfl rfl (fun wq hS => R.fieldG (a := la) (i := k * 67) (off' := k * 67) rfl Try.underlying111 rfl Try.sizeOf103 rfl rfl) ?_
  refine qT rfl rfl (fun wq hS => R.loadGA (a := la) (i := k * 67) (xs := lx) (cs := flat [(1, [(vi (((lg.getD k ((kd, key, dm, data), [])).1).1))]), (32, (((lg.getD k ((kd, key, dm, data), [])).1).2.1).map vu8), (1, [(vi (((lg.getD k ((kd, key, dm, data), [])).1).2.2.1))]), (1, [(.slice ka kn kc)])]) rfl (ownView (hS _ M5)) Try.isAgg103 Try.sizeOf103 hkx ((SsOk.cons (SOk.v rfl) (SsOk.cons (SOk.u8 hkq.1) (SsOk.cons (SOk.v rfl) (SsOk.cons (SOk.v rfl) SsOk.nil))))).len (by decide)) ?_
  refine qT rfl rfl (fun wq hS => R.loadA (b := b_1) (off := 0) [] [(1, [(vi kd)]), (32, key.map vu8), (1, [(vi dm)]), (1, [(.slice qa qn qc)])] [] (cs := flat [(1, [(vi kd)]), (32, key.map vu8), (1, [(vi dm)]), (1, [(.slice qa qn qc)])]) rfl Try.isAgg103 Try.sizeOf103 (hS _ M3) rfl rfl rfl rfl) ?_
  refine WT.s (Op1.one rfl (Wn.no rfl) ?_)
  refine WL.call Try.call56 rfl rfl (c_rSame ((lg.getD k ((kd, key, dm, data), [])).1) (kd, key, dm, data) hkq.1 hq.1 ka kn kc hkn qa qn qc hdl _ (viewV (h_18.ok _ M0)) (viewV (h_18.ok _ M8))) rfl ?_
  rintro _ w_21 ⟨rfl, hc_20⟩
  have h_22 := h_18.same hc_20
  refine WL.nil ?_
  refine ⟨(SL.cons (h_22.ok _ M0) (SL.cons (h_22.ok _ M1) (SL.cons (h_22.ok _ M2) (SL.cons (h_22.ok _ M3) (SL.cons (h_22.ok _ M4) (SL.cons (h_22.ok _ M5) (SL.cons (h_22.ok _ M6) (SL.cons (h_22.ok _ M7) (SL.cons (h_22.ok _ M8) (SL.nil _ _)))))))))), ?_⟩
  refine WT.nil (thn_n ?_)
  refine WP.cond (b := decide ((lg.getD k ((kd, key, dm, data), [])).1 = (kd, key, dm, data))) rfl (fun c_23 => ?_) (fun c_23 => ?_)
  ·have p_24 := of_decide_eq_true c_23
   refine WP.seq ?_
   have hfd : fdq (kd, key, dm, data) lg 0 = some k := (fdq_at (s := 0) hkl hno p_24).trans (by rw [Nat.zero_add])
   refine WP.reg ?_
   refine qM (pO ob 0) rfl rfl (qV rfl (R.nilCheck rfl) (qV rfl (R.fieldAddr (b := ob) (off := 0) (off' := 35) rfl Try.underlying64 rfl Try.sizeOf48 rfl rfl) (qV rfl (R.load1 (b := ob) (off := 35) (v := (.slice la lg.length lc)) rfl Try.isAgg48 (h_22.ok _ M4) (Sg.t rfl (Sg.t rfl (Sg.t rfl (Sg.t rfl Sg.h))))) (qM (vn k) rfl rfl (qV rfl (R.indexS (a := la) (i := k) (off := k * 67) (xs := lx) rfl rfl rfl (by omega) (ownView (h_22.ok _ M5)) (by rw [Lgs.len hlgs]; omega) Try.underlying48 Try.sizeOf111 rfl) (qV rfl (R.fieldG (a := la) (i := k * 67) (off' := k * 67 + 35) rfl Try.underlying111 rfl Try.sizeOf23 rfl rfl) (qV rfl (R.loadGA (a := la) (i := k * 67 + 35) (xs := lx) (cs := ((lg.getD k ((kd, key, dm, data), [])).2).map vu8) rfl (ownView (h_22.ok _ M5)) Try.isAgg23 Try.sizeOf23 (Lgs.ans (z := ((kd, key, dm, data), [])) hlgs (i := k) hkl).1 (len_map (Lgs.ans (z := ((kd, key, dm, data), [])) hlgs (i := k) hkl).2) (by decide)) ?_)))))))
   refine WL.storeA (b := b_7) (off := 0) [] [(32, (List.replicate 32 (0 : UInt8)).map vu8)] [(32, ((lg.getD k ((kd, key, dm, data), [])).2).map vu8)] [] (ys := ((lg.getD k ((kd, key, dm, data), [])).2).map vu8) h_22 rfl rfl Try.sizeOf23 Y1 (by decide) rfl rfl rfl rfl rfl rfl (SsOk.cons (SOk.u8 ((Lgs.ans (z := ((kd, key, dm, data), [])) hlgs (i := k) hkl).2)) SsOk.nil) (fun w_25 h_26 => ?_)
   refine WL.nil (thn_n (WP.ret (inb_r (thn_r (thn_r (inb_r (thn_r ?_)))))))
   refine ret_of Try.results118 (RV.cell rfl (h_26.loadA (cs := ((lg.getD k ((kd, key, dm, data), [])).2).map vu8) Try.isAgg23 Try.sizeOf23 M1 rfl rfl) RV.nil) ?_
   have h_35 := ((((((((h_26.drop rfl).drop rfl).drop rfl).drop rfl).up J4).up J4).up J4).up J4).up J4
   exact ⟨la, lc, lx, by rw [anD_hit hfd]; rfl, by rw [anU_hit hfd, anL_hit hfd]; exact h_35⟩
  ·have p_36 := of_decide_eq_false c_23
   refine WP.skip (inb_n (thn_n (WP.reg ?_)))
   refine qM (vn k) rfl rfl (qV rfl (R.bin rfl rfl (bi_add (c := ((k + 1 : Nat) : Int)) (by omega) (by omega))) (qA (vn (k + 1)) rfl rfl ?_))
   refine WL.nil (thn_n ?_)
   have h_45 := ((((((((h_22.drop rfl).up J7).up J7).up J7).up J7).up J7).up J7).up J7).up J7
   exact ⟨k + 1, _, (by omega), (U4 rfl rfl rfl rfl (U4 rfl rfl rfl rfl (U4 rfl rfl rfl rfl (U4 rfl rfl rfl rfl (U4 rfl rfl rfl rfl (Ag.updL rfl (Ag.mix _ _ _))))))), ⟨rfl, trivial⟩, h_45, (by omega), (fun j hj => (Nat.lt_or_eq_of_le (Nat.le_of_lt_succ hj)).elim (fun e => hno j e) (fun e => by rw [e]; exact p_36)), rfl⟩
 ·have p_46 := of_decide_eq_false c_14
  refine WP.exit (thn_x (thn_x (inb_hit (thn_n (WP.seq ?_)))))
  have hfd : fdq (kd, key, dm, data) lg 0 = none := fdq_no (z := ((kd, key, dm, data), [])) (fun j hj => hno j (by omega))
  refine WP.reg ?_
  refine qV rfl (R.loadA (b := b_4) (off := 0) [] [(32, cd.map vu8)] [] (cs := cd.map vu8) rfl Try.isAgg23 Try.sizeOf23 (h_11.ok _ M1) rfl rfl rfl rfl) ?_
  refine WL.alloc (segs := [(32, (List.replicate 32 (0 : UInt8)).map vu8)]) h_11 (zv Try.typeInfo23 rfl) rfl (SsOk.cons (SOk.u8 lr) SsOk.nil) rfl (fun b_47 w_48 h_49 => ?_)
  refine WL.storeA (b := b_47) (off := 0) [] [(32, (List.replicate 32 (0 : UInt8)).map vu8)] [(32, cd.map vu8)] [] (ys := cd.map vu8) h_49 rfl rfl Try.sizeOf23 At.h (by decide) rfl rfl rfl rfl rfl rfl (SsOk.cons (SOk.u8 hcdl) SsOk.nil) (fun w_50 h_51 => ?_)
  refine WL.nil (thn_n (WP.seq (WP.seq (WP.reg ?_))))
  refine qM (pO ob 0) rfl rfl (qV rfl (R.nilCheck rfl) (qV rfl (R.fieldAddr (b := ob) (off := 0) (off' := 0) rfl Try.underlying64 rfl Try.sizeOf4 rfl rfl) (qV rfl (R.load1 (b := ob) (off := 0) (v := (.bool id)) rfl Try.isAgg4 (h_51.ok _ M4) Sg.h) ?_)))
  refine WL.nil (thn_n ?_)
  refine WP.cond (b := id) rfl (fun c_52 => ?_) (fun c_52 => ?_)
  ·refine WP.seq (WP.reg ?_)
   refine qM (pO ob 0) rfl rfl (qM (pO ob 0) rfl rfl (qV rfl (R.nilCheck rfl) (qV rfl (R.fieldAddr (b := ob) (off := 0) (off' := 34) rfl Try.underlying64 rfl Try.sizeOf3 rfl rfl) (qV rfl (R.load1 (b := ob) (off := 34) (v := (vn u)) rfl Try.isAgg3 (h_51.ok _ M4) (Sg.t rfl (Sg.t rfl (Sg.t rfl Sg.h)))) ?_))))
   refine WL.call Try.call129 rfl rfl (c_rDraw id ob ms df hms da dn dc u u hdf la lg.length lc (by omega) _ (viewV (h_51.ok _ M7)) (h_51.argR M4)) rfl ?_
   rintro _ w_54 ⟨rfl, hc_53⟩
   have h_55 := h_51.same hc_53
   refine WL.storeA (b := b_47) (off := 0) [] [(32, cd.map vu8)] [(32, (drawF df dn u).map vu8)] [] (ys := (drawF df dn u).map vu8) h_55 rfl rfl Try.sizeOf23 At.h (by decide) rfl rfl rfl rfl rfl rfl (SsOk.cons (SOk.u8 (drawF_len hdf)) SsOk.nil) (fun w_56 h_57 => ?_)
   refine WL.nil (thn_n (WP.reg ?_))
   refine qM (pO ob 0) rfl rfl (qV rfl (R.nilCheck rfl) (qV rfl (R.fieldAddr (b := ob) (off := 0) (off' := 34) rfl Try.underlying64 rfl Try.sizeOf3 rfl rfl) (qV rfl (R.load1 (b := ob) (off := 34) (v := (vn u)) rfl Try.isAgg3 (h_57.ok _ M4) (Sg.t rfl (Sg.t rfl (Sg.t rfl Sg.h)))) (qV rfl (R.bin rfl rfl (bi_add (c := ((u + 1 : Nat) : Int)) (by omega) (by omega))) (qV rfl (R.nilCheck rfl) (qV rfl (R.fieldAddr (b := ob) (off := 0) (off' := 34) rfl Try.underlying64 rfl Try.sizeOf3 rfl rfl) ?_))))))
   refine WL.store1 (b := ob) (off := 34) (v := (vn (u + 1))) h_57 rfl rfl Try.sizeOf3 rfl Y4 (by decide) (Sg.t rfl (Sg.t rfl (Sg.t rfl Sg.h))) (fun w_58 h_59 => ?_)
   refine WL.nil (thn_n (WP.seq (WP.reg ?_)))
   refine qV rfl (R.fieldAddr (b := b_1) (off := 0) (off' := 34) rfl Try.underlying103 rfl Try.sizeOf37 rfl rfl) (qV rfl (R.load1 (b := b_1) (off := 34) (v := (.slice qa qn qc)) rfl Try.isAgg37 (h_59.ok _ M3) (Sg.t rfl (Sg.t rfl (Sg.t rfl Sg.h)))) ?_)
   have h_60 := h_59.rowNil 5 1
   refine WL.append (km := qn) (xs := []) (ys := data.map vu8) (zs := (([] : List UInt8) ++ data).map vu8) h_60 rfl rfl el37 (viewV (h_60.ok _ M9)) ((len_map hdl).trans (Nat.mul_one _).symm) (one_u8 _) (by simp only [List.map_append, List.map_nil]) (by omega) (by omega) (by omega) (fun _ _ => At.h) rfl (fun a_61 c_62 w_63 h_64 => ?_)
   refine qV rfl (R.fieldAddr (b := b_1) (off := 0) (off' := 34) rfl Try.underlying103 rfl Try.sizeOf37 rfl rfl) ?_
   refine WL.store1 (b := b_1) (off := 34) (v := (.slice a_61 qn c_62)) h_64 rfl rfl Try.sizeOf37 rfl Y4 (by decide) (Sg.t rfl (Sg.t rfl (Sg.t rfl Sg.h))) (fun w_65 h_66 => ?_)
   refine WL.nil (thn_n (WP.seq ?_))
   refine WP.cutG (G := Nat × Option Addr × Nat) [58, 59, 60, 61, 62, 63, 64, 65, 66, 67, 68, 69] (fun (bY11Y8Y0Y0, aY11Y9Y0Y0, cY11Y9Y0Y0) => [(58, (pO ob 0)), (59, (pO ob 0)), (60, (pO ob 0)), (61, (pO ob 35)), (63, (.agg ⟨flat [(1, [(vi kd)]), (32, key.map vu8), (1, [(vi dm)]), (1, [(.slice a_61 qn c_62)])]⟩)), (64, (.agg ⟨(drawF df dn u).map vu8⟩)), (65, (.agg ⟨flat [(1, [(vi kd)]), (32, key.map vu8), (1, [(vi dm)]), (1, [(.slice a_61 qn c_62)]), (32, (drawF df dn u).map vu8)]⟩)), (62, (.slice la lg.length lc)), (66, (.slice (some ⟨bY11Y8Y0Y0, 0, none⟩) 1 1)), (67, (.slice aY11Y9Y0Y0 (lg.length + 1) cY11Y9Y0Y0)), (68, (pO ob 0)), (69, (pO ob 35))]) (fun (bY11Y8Y0Y0, aY11Y9Y0Y0, cY11Y9Y0Y0) w1 => HP w00 w1 (Ent.blk bY11Y8Y0Y0 .nw 111 [(67, aC (kd, key, dm, data) (.slice a_61 qn c_62) (drawF df dn u))] :: Ent.row a_61 qn c_62 5 1 ((([] : List UInt8) ++ data).map vu8) :: Ent.blk b_47 .nw 23 [(32, (drawF df dn u).map vu8)] :: Ent.blk b_7 .nw 23 [(32, (List.replicate 32 (0 : UInt8)).map vu8)] :: Ent.blk b_4 .nw 23 [(32, cd.map vu8)] :: Ent.blk b_1 .nw 103 [(1, [(vi kd)]), (32, key.map vu8), (1, [(vi dm)]), (1, [(.slice a_61 qn c_62)])] :: Ent.blk ob .nw 64 [(1, [(.bool id)]), (32, ms.map vu8), (1, [(.slice da dn dc)]), (1, [(vn (u + 1))]), (1, [(.slice aY11Y9Y0Y0 (lg.length + 1) cY11Y9Y0Y0)])] :: Ent.row aY11Y9Y0Y0 (lg.length + 1) cY11Y9Y0Y0 111 67 (lx ++ aC (kd, key, dm, data) (.slice a_61 qn c_62) (drawF df dn u)) :: Ent.pin (sblks lx) (fun w => Lgs w lx lg) :: Ent.view da (df.map vu8) :: Ent.view qa (data.map vu8) :: L)) ?_ ?_
   ·refine WP.drawT (SL w00.heap.size [.row a_61 qn c_62 5 1 ((([] : List UInt8) ++ data).map vu8), .blk b_47 .nw 23 [(32, (drawF df dn u).map vu8)], .blk b_7 .nw 23 [(32, (List.replicate 32 (0 : UInt8)).map vu8)], .blk b_4 .nw 23 [(32, cd.map vu8)], .blk b_1 .nw 103 [(1, [(vi kd)]), (32, key.map vu8), (1, [(vi dm)]), (1, [(.slice a_61 qn c_62)])], .pin (sblks lx) (fun w => Lgs w lx lg), .view da (df.map vu8), .view qa (data.map vu8)]) (.q 0 (.q 1 (.q 2 (.q 3 (.q 5 (.q 6 (.q 7 (.s2 4 8 (.s 8 (.s 9 (.q 10 (.q 11 (.s 12 .nil))))) (.s 4 (.s 9 (.q 10 (.q 11 (.s 12 .nil))))))))))))) (by kernel_rfl) (by kernel_rfl) rfl (by kernel_rfl) (fun w_67 hc_69 => (SL.cons ((h_66.same hc_69).ok _ M0) (SL.cons ((h_66.same hc_69).ok _ M1) (SL.cons ((h_66.same hc_69).ok _ M2) (SL.cons ((h_66.same hc_69).ok _ M3) (SL.cons ((h_66.same hc_69).ok _ M4) (SL.cons ((h_66.same hc_69).ok _ M7) (SL.cons ((h_66.same hc_69).ok _ M8) (SL.cons ((h_66.same hc_69).ok _ M9) (SL.nil _ _)))))))))) (fun w_67 hc_69 => ?_)
    have h_68 := h_66.same hc_69
    refine qT rfl rfl (fun wq hS => R.move (v := (pO ob 0)) rfl) ?_
    refine qT rfl rfl (fun wq hS => R.move (v := (pO ob 0)) rfl) ?_
    refine qT rfl rfl (fun wq hS => R.nilCheck rfl) ?_
    refine qT rfl rfl (fun wq hS => R.fieldAddr (b := ob) (off := 0) (off' := 35) rfl Try.underlying64 rfl Try.sizeOf48 rfl rfl) ?_
    refine qT rfl rfl (fun wq hS => R.loadA (b := b_1) (off := 0) [] [(1, [(vi kd)]), (32, key.map vu8), (1, [(vi dm)]), (1, [(.slice a_61 qn c_62)])] [] (cs := flat [(1, [(vi kd)]), (32, key.map vu8), (1, [(vi dm)]), (1, [(.slice a_61 qn c_62)])]) rfl Try.isAgg103 Try.sizeOf103 (hS _ M4) rfl rfl rfl rfl) ?_
    refine qT rfl rfl (fun wq hS => R.loadA (b := b_47) (off := 0) [] [(32, (drawF df dn u).map vu8)] [] (cs := (drawF df dn u).map vu8) rfl Try.isAgg23 Try.sizeOf23 (hS _ M1) rfl rfl rfl rfl) ?_
    refine qT rfl rfl (fun wq hS => R.buildS (pl := [(0, 35), (35, 32)]) (zs := [(1, [(vi 0)]), (32, (List.replicate 32 (0 : UInt8)).map vu8), (1, [(vi 0)]), (1, [(.slice none 0 0)]), (32, (List.replicate 32 (0 : UInt8)).map vu8)]) (vs := [(0, (.agg ⟨flat [(1, [(vi kd)]), (32, key.map vu8), (1, [(vi dm)]), (1, [(.slice a_61 qn c_62)])]⟩)), (1, (.agg ⟨(drawF df dn u).map vu8⟩))]) (out := [(1, [(vi kd)]), (32, key.map vu8), (1, [(vi dm)]), (1, [(.slice a_61 qn c_62)]), (32, (drawF df dn u).map vu8)]) (cs := flat [(1, [(vi kd)]), (32, key.map vu8), (1, [(vi dm)]), (1, [(.slice a_61 qn c_62)]), (32, (drawF df dn u).map vu8)]) Try.underlying111 (zv Try.typeInfo111 rfl) rfl (SsOk.cons (SOk.v rfl) (SsOk.cons (SOk.u8 lr) (SsOk.cons (SOk.v rfl) (SsOk.cons (SOk.v rfl) (SsOk.cons (SOk.u8 lr) SsOk.nil))))) (pl111 _ Try.underlying111) rfl (FillR.cons [] [(1, [(vi 0)]), (32, (List.replicate 32 (0 : UInt8)).map vu8), (1, [(vi 0)]), (1, [(.slice none 0 0)])] [(1, [(vi kd)]), (32, key.map vu8), (1, [(vi dm)]), (1, [(.slice a_61 qn c_62)])] [(32, (List.replicate 32 (0 : UInt8)).map vu8)] rfl rfl rfl rfl (SsOk.cons (SOk.v rfl) (SsOk.cons (SOk.u8 hq.1) (SsOk.cons (SOk.v rfl) (SsOk.cons (SOk.v rfl) SsOk.nil)))) rfl rfl rfl (FillR.cons [(1, [(vi kd)]), (32, key.map vu8), (1, [(vi dm)]), (1, [(.slice a_61 qn c_62)])] [(32, (List.replicate 32 (0 : UInt8)).map vu8)] [(32, (drawF df dn u).map vu8)] [] rfl rfl rfl rfl (SsOk.cons (SOk.u8 (drawF_len hdf)) SsOk.nil) rfl rfl rfl FillR.nil)) rfl) ?_
    refine WT.s2 ?_ ?_
    ·refine Op1.one rfl (Wn.no rfl) ?_
     refine qV rfl (R.load1 (b := ob) (off := 35) (v := (.slice la lg.length lc)) rfl Try.isAgg48 (h_68.ok _ M5) (Sg.t rfl (Sg.t rfl (Sg.t rfl (Sg.t rfl Sg.h))))) ?_
     refine WL.nil ?_
     refine ⟨(SL.cons (h_68.ok _ M0) (SL.cons (h_68.ok _ M1) (SL.cons (h_68.ok _ M2) (SL.cons (h_68.ok _ M3) (SL.cons (h_68.ok _ M4) (SL.cons (h_68.ok _ M7) (SL.cons (h_68.ok _ M8) (SL.cons (h_68.ok _ M9) (SL.nil _ _))))))))), ?_⟩
     refine WT.s (Op1.one rfl (Wn.no rfl) ?_)
     refine WL.buildSl (vs := [(0, (.agg ⟨flat [(1, [(vi kd)]), (32, key.map vu8), (1, [(vi dm)]), (1, [(.slice a_61 qn c_62)]), (32, (drawF df dn u).map vu8)]⟩))]) (cs := aC (kd, key, dm, data) (.slice a_61 qn c_62) (drawF df dn u)) h_68 Try.underlying48 Try.sizeOf111 (zv Try.typeInfo111 rfl) rfl rfl (fill_1 (zc := flat [(1, [vi 0]), (32, List.replicate 32 (vu8 0)), (1, [vi 0]), (1, [.slice none 0 0]), (32, List.replicate 32 (vu8 0))]) (by kernel_rfl) (SsOk.cons (s := (67, flat [(1, [vi 0]), (32, List.replicate 32 (vu8 0)), (1, [vi 0]), (1, [.slice none 0 0]), (32, List.replicate 32 (vu8 0))])) ⟨by decide, SsOk.one (SsOk.cons (SOk.v rfl) (SsOk.cons (SOk.rep rfl) (SsOk.cons (SOk.v rfl) (SsOk.cons (SOk.v rfl) (SsOk.cons (SOk.rep rfl) SsOk.nil)))))⟩ SsOk.nil) (aC_ok (q := (kd, key, dm, data)) (s := (.slice a_61 qn c_62)) (d := drawF df dn u) hq.1 (drawF_len hdf) rfl)) ((aC_ok (q := (kd, key, dm, data)) (s := (.slice a_61 qn c_62)) (d := drawF df dn u) hq.1 (drawF_len hdf) rfl)).head.len ((aC_ok (q := (kd, key, dm, data)) (s := (.slice a_61 qn c_62)) (d := drawF df dn u) hq.1 (drawF_len hdf) rfl)).head.one rfl rfl (fun b_71 w_72 h_73 => ?_)
     refine WL.nil ?_
     refine ⟨(SL.cons (h_73.ok _ M1) (SL.cons (h_73.ok _ M2) (SL.cons (h_73.ok _ M3) (SL.cons (h_73.ok _ M4) (SL.cons (h_73.ok _ M5) (SL.cons (h_73.ok _ M8) (SL.cons (h_73.ok _ M9) (SL.cons (h_73.ok _ M10) (SL.nil _ _))))))))), ?_⟩
     refine WT.s (Op1.one rfl (Wn.no rfl) ?_)
     refine WL.append (km := lg.length + 1) (xs := lx) (ys := aC (kd, key, dm, data) (.slice a_61 qn c_62) (drawF df dn u)) (zs := lx ++ aC (kd, key, dm, data) (.slice a_61 qn c_62) (drawF df dn u)) h_73 rfl rfl el48 (viewB (h_73.ok _ M0) Sg.h) ((aC_ok (q := (kd, key, dm, data)) (s := (.slice a_61 qn c_62)) (d := drawF df dn u) hq.1 (drawF_len hdf) rfl)).head.len ((aC_ok (q := (kd, key, dm, data)) (s := (.slice a_61 qn c_62)) (d := drawF df dn u) hq.1 (drawF_len hdf) rfl)).head.one rfl (by omega) (by omega) (by omega) (fun _ _ => Y7) rfl (fun a_74 c_75 w_76 h_77 => ?_)
     refine WL.nil ?_
     refine ⟨(SL.cons (h_77.ok _ M1) (SL.cons (h_77.ok _ M2) (SL.cons (h_77.ok _ M3) (SL.cons (h_77.ok _ M4) (SL.cons (h_77.ok _ M5) (SL.cons (h_77.ok _ M8) (SL.cons (h_77.ok _ M9) (SL.cons (h_77.ok _ M10) (SL.nil _ _))))))))), ?_⟩
     refine qT rfl rfl (fun wq hS => R.nilCheck rfl) ?_
     refine qT rfl rfl (fun wq hS => R.fieldAddr (b := ob) (off := 0) (off' := 35) rfl Try.underlying64 rfl Try.sizeOf48 rfl rfl) ?_
     refine WT.s (Op1.one rfl (Wn.no rfl) ?_)
     refine WL.store1 (b := ob) (off := 35) (v := (.slice a_74 (lg.length + 1) c_75)) h_77 rfl rfl Try.sizeOf48 rfl Y6 (by decide) (Sg.t rfl (Sg.t rfl (Sg.t rfl (Sg.t rfl Sg.h)))) (fun w_78 h_79 => ?_)
     refine WL.nil ?_
     refine ⟨(SL.cons (h_79.ok _ M1) (SL.cons (h_79.ok _ M2) (SL.cons (h_79.ok _ M3) (SL.cons (h_79.ok _ M4) (SL.cons (h_79.ok _ M5) (SL.cons (h_79.ok _ M8) (SL.cons (h_79.ok _ M9) (SL.cons (h_79.ok _ M10) (SL.nil _ _))))))))), ?_⟩
     refine WT.nil (thn_n ?_)
     exact ⟨(b_71, a_74, c_75), (U4 rfl rfl rfl rfl (U4 rfl rfl rfl rfl (U4 rfl rfl rfl rfl (Ag.refl _ _)))), ⟨rfl, rfl, rfl, rfl, rfl, rfl, rfl, rfl, rfl, rfl, rfl, rfl, trivial⟩, h_79⟩
    ·refine Op1.one rfl (Wn.no rfl) ?_
     refine WL.buildSl (vs := [(0, (.agg ⟨flat [(1, [(vi kd)]), (32, key.map vu8), (1, [(vi dm)]), (1, [(.slice a_61 qn c_62)]), (32, (drawF df dn u).map vu8)]⟩))]) (cs := aC (kd, key, dm, data) (.slice a_61 qn c_62) (drawF df dn u)) h_68 Try.underlying48 Try.sizeOf111 (zv Try.typeInfo111 rfl) rfl rfl (fill_1 (zc := flat [(1, [vi 0]), (32, List.replicate 32 (vu8 0)), (1, [vi 0]), (1, [.slice none 0 0]), (32, List.replicate 32 (vu8 0))]) (by kernel_rfl) (SsOk.cons (s := (67, flat [(1, [vi 0]), (32, List.replicate 32 (vu8 0)), (1, [vi 0]), (1, [.slice none 0 0]), (32, List.replicate 32 (vu8 0))])) ⟨by decide, SsOk.one (SsOk.cons (SOk.v rfl) (SsOk.cons (SOk.rep rfl) (SsOk.cons (SOk.v rfl) (SsOk.cons (SOk.v rfl) (SsOk.cons (SOk.rep rfl) SsOk.nil)))))⟩ SsOk.nil) (aC_ok (q := (kd, key, dm, data)) (s := (.slice a_61 qn c_62)) (d := drawF df dn u) hq.1 (drawF_len hdf) rfl)) ((aC_ok (q := (kd, key, dm, data)) (s := (.slice a_61 qn c_62)) (d := drawF df dn u) hq.1 (drawF_len hdf) rfl)).head.len ((aC_ok (q := (kd, key, dm, data)) (s := (.slice a_61 qn c_62)) (d := drawF df dn u) hq.1 (drawF_len hdf) rfl)).head.one rfl rfl (fun b_80 w_81 h_82 => ?_)
     refine WL.nil ?_
     refine ⟨(SL.cons (h_82.ok _ M1) (SL.cons (h_82.ok _ M2) (SL.cons (h_82.ok _ M3) (SL.cons (h_82.ok _ M4) (SL.cons (h_82.ok _ M5) (SL.cons (h_82.ok _ M8) (SL.cons (h_82.ok _ M9) (SL.cons (h_82.ok _ M10) (SL.nil _ _))))))))), ?_⟩
     refine WT.s (Op1.one rfl (Wn.no rfl) ?_)
     refine qV rfl (R.load1 (b := ob) (off := 35) (v := (.slice la lg.length lc)) rfl Try.isAgg48 (h_82.ok _ M6) (Sg.t rfl (Sg.t rfl (Sg.t rfl (Sg.t rfl Sg.h))))) ?_
     refine WL.nil ?_
     refine ⟨(SL.cons (h_82.ok _ M1) (SL.cons (h_82.ok _ M2) (SL.cons (h_82.ok _ M3) (SL.cons (h_82.ok _ M4) (SL.cons (h_82.ok _ M5) (SL.cons (h_82.ok _ M8) (SL.cons (h_82.ok _ M9) (SL.cons (h_82.ok _ M10) (SL.nil _ _))))))))), ?_⟩
     refine WT.s (Op1.one rfl (Wn.no rfl) ?_)
     refine WL.append (km := lg.length + 1) (xs := lx) (ys := aC (kd, key, dm, data) (.slice a_61 qn c_62) (drawF df dn u)) (zs := lx ++ aC (kd, key, dm, data) (.slice a_61 qn c_62) (drawF df dn u)) h_82 rfl rfl el48 (viewB (h_82.ok _ M0) Sg.h) ((aC_ok (q := (kd, key, dm, data)) (s := (.slice a_61 qn c_62)) (d := drawF df dn u) hq.1 (drawF_len hdf) rfl)).head.len ((aC_ok (q := (kd, key, dm, data)) (s := (.slice a_61 qn c_62)) (d := drawF df dn u) hq.1 (drawF_len hdf) rfl)).head.one rfl (by omega) (by omega) (by omega) (fun _ _ => Y7) rfl (fun a_83 c_84 w_85 h_86 => ?_)
     refine WL.nil ?_
     refine ⟨(SL.cons (h_86.ok _ M1) (SL.cons (h_86.ok _ M2) (SL.cons (h_86.ok _ M3) (SL.cons (h_86.ok _ M4) (SL.cons (h_86.ok _ M5) (SL.cons (h_86.ok _ M8) (SL.cons (h_86.ok _ M9) (SL.cons (h_86.ok _ M10) (SL.nil _ _))))))))), ?_⟩
     refine qT rfl rfl (fun wq hS => R.nilCheck rfl) ?_
     refine qT rfl rfl (fun wq hS => R.fieldAddr (b := ob) (off := 0) (off' := 35) rfl Try.underlying64 rfl Try.sizeOf48 rfl rfl) ?_
     refine WT.s (Op1.one rfl (Wn.no rfl) ?_)
     refine WL.store1 (b := ob) (off := 35) (v := (.slice a_83 (lg.length + 1) c_84)) h_86 rfl rfl Try.sizeOf48 rfl Y6 (by decide) (Sg.t rfl (Sg.t rfl (Sg.t rfl (Sg.t rfl Sg.h)))) (fun w_87 h_88 => ?_)
     refine WL.nil ?_
     refine ⟨(SL.cons (h_88.ok _ M1) (SL.cons (h_88.ok _ M2) (SL.cons (h_88.ok _ M3) (SL.cons (h_88.ok _ M4) (SL.cons (h_88.ok _ M5) (SL.cons (h_88.ok _ M8) (SL.cons (h_88.ok _ M9) (SL.cons (h_88.ok _ M10) (SL.nil _ _))))))))), ?_⟩
     refine WT.nil (thn_n ?_)
     exact ⟨(b_80, a_83, c_84), (U4 rfl rfl rfl rfl (U4 rfl rfl rfl rfl (U4 rfl rfl rfl rfl (Ag.refl _ _)))), ⟨rfl, rfl, rfl, rfl, rfl, rfl, rfl, rfl, rfl, rfl, rfl, rfl, trivial⟩, h_88⟩
   ·rintro ⟨b_92, a_93, c_94⟩ J_89 w_90 h_91
    refine thn_n (WP.seq (WP.reg ?_))
    refine qV rfl (R.loadA (b := b_47) (off := 0) [] [(32, (drawF df dn u).map vu8)] [] (cs := (drawF df dn u).map vu8) rfl Try.isAgg23 Try.sizeOf23 (h_91.ok _ M2) rfl rfl rfl rfl) ?_
    refine WL.storeA (b := b_7) (off := 0) [] [(32, (List.replicate 32 (0 : UInt8)).map vu8)] [(32, (drawF df dn u).map vu8)] [] (ys := (drawF df dn u).map vu8) h_91 rfl rfl Try.sizeOf23 Y3 (by decide) rfl rfl rfl rfl rfl rfl (SsOk.cons (SOk.u8 (drawF_len hdf)) SsOk.nil) (fun w_95 h_96 => ?_)
    refine WL.nil (thn_n (WP.ret ?_))
    refine ret_of Try.results118 (RV.cell rfl (h_96.loadA (cs := (drawF df dn u).map vu8) Try.isAgg23 Try.sizeOf23 M3 rfl rfl) RV.nil) ?_
    have h_111 := ((((((((((((((h_96.drop rfl).up J1).drop rfl).up J1).drop rfl).up J1).drop rfl).up J1).drop rfl).up J5).up J5).up J4).up J4).up J5).up J5
    have h_112 := HP_logPush (q := (kd, key, dm, data)) (d := drawF df dn u) h_111 hq (drawF_len hdf) (lenApp (a := 0) (b := qn) (rfl : List.length ([] : List UInt8) = 0) hdl (by omega) : List.length (([] : List UInt8) ++ data) = qn)
    have h_122 := ((((((((h_112.up J1).drop rfl).up J1).drop rfl).up J4).up J4).up J2).up J4).up J4
    have hmf : mF id df dn u (kd, key, dm, data) = drawF df dn u := by rw [mF, c_52]; rfl
    have hu2 : (bif id then u + 1 else u) = u + 1 := by rw [c_52]; rfl
    have hse : lg.length + 1 = (lg ++ [((kd, key, dm, data), drawF df dn u)]).length := snoc_len.symm
    have h_113 := h_122
    rw [hse] at h_113
    exact ⟨_, _, _, by rw [anD_miss hfd, hmf]; rfl, by rw [anU_miss hfd, anL_miss hfd, hmf, hu2]; exact h_113⟩
  ·refine WP.skip (thn_n (WP.seq (WP.reg ?_)))
   refine qV rfl (R.fieldAddr (b := b_1) (off := 0) (off' := 34) rfl Try.underlying103 rfl Try.sizeOf37 rfl rfl) (qV rfl (R.load1 (b := b_1) (off := 34) (v := (.slice qa qn qc)) rfl Try.isAgg37 (h_51.ok _ M3) (Sg.t rfl (Sg.t rfl (Sg.t rfl Sg.h)))) ?_)
   have h_123 := h_51.rowNil 5 1
   refine WL.append (km := qn) (xs := []) (ys := data.map vu8) (zs := (([] : List UInt8) ++ data).map vu8) h_123 rfl rfl el37 (viewV (h_123.ok _ M9)) ((len_map hdl).trans (Nat.mul_one _).symm) (one_u8 _) (by simp only [List.map_append, List.map_nil]) (by omega) (by omega) (by omega) (fun _ _ => At.h) rfl (fun a_124 c_125 w_126 h_127 => ?_)
   refine qV rfl (R.fieldAddr (b := b_1) (off := 0) (off' := 34) rfl Try.underlying103 rfl Try.sizeOf37 rfl rfl) ?_
   refine WL.store1 (b := b_1) (off := 34) (v := (.slice a_124 qn c_125)) h_127 rfl rfl Try.sizeOf37 rfl Y4 (by decide) (Sg.t rfl (Sg.t rfl (Sg.t rfl Sg.h))) (fun w_128 h_129 => ?_)
   refine WL.nil (thn_n (WP.seq ?_))
   refine WP.cutG (G := Nat × Option Addr × Nat) [58, 59, 60, 61, 62, 63, 64, 65, 66, 67, 68, 69] (fun (bY11Y8Y0Y0, aY11Y9Y0Y0, cY11Y9Y0Y0) => [(58, (pO ob 0)), (59, (pO ob 0)), (60, (pO ob 0)), (61, (pO ob 35)), (63, (.agg ⟨flat [(1, [(vi kd)]), (32, key.map vu8), (1, [(vi dm)]), (1, [(.slice a_124 qn c_125)])]⟩)), (64, (.agg ⟨cd.map vu8⟩)), (65, (.agg ⟨flat [(1, [(vi kd)]), (32, key.map vu8), (1, [(vi dm)]), (1, [(.slice a_124 qn c_125)]), (32, cd.map vu8)]⟩)), (62, (.slice la lg.length lc)), (66, (.slice (some ⟨bY11Y8Y0Y0, 0, none⟩) 1 1)), (67, (.slice aY11Y9Y0Y0 (lg.length + 1) cY11Y9Y0Y0)), (68, (pO ob 0)), (69, (pO ob 35))]) (fun (bY11Y8Y0Y0, aY11Y9Y0Y0, cY11Y9Y0Y0) w1 => HP w00 w1 (Ent.blk bY11Y8Y0Y0 .nw 111 [(67, aC (kd, key, dm, data) (.slice a_124 qn c_125) cd)] :: Ent.row a_124 qn c_125 5 1 ((([] : List UInt8) ++ data).map vu8) :: Ent.blk b_47 .nw 23 [(32, cd.map vu8)] :: Ent.blk b_7 .nw 23 [(32, (List.replicate 32 (0 : UInt8)).map vu8)] :: Ent.blk b_4 .nw 23 [(32, cd.map vu8)] :: Ent.blk b_1 .nw 103 [(1, [(vi kd)]), (32, key.map vu8), (1, [(vi dm)]), (1, [(.slice a_124 qn c_125)])] :: Ent.blk ob .nw 64 [(1, [(.bool id)]), (32, ms.map vu8), (1, [(.slice da dn dc)]), (1, [(vn u)]), (1, [(.slice aY11Y9Y0Y0 (lg.length + 1) cY11Y9Y0Y0)])] :: Ent.row aY11Y9Y0Y0 (lg.length + 1) cY11Y9Y0Y0 111 67 (lx ++ aC (kd, key, dm, data) (.slice a_124 qn c_125) cd) :: Ent.pin (sblks lx) (fun w => Lgs w lx lg) :: Ent.view da (df.map vu8) :: Ent.view qa (data.map vu8) :: L)) ?_ ?_
   ·refine WP.drawT (SL w00.heap.size [.row a_124 qn c_125 5 1 ((([] : List UInt8) ++ data).map vu8), .blk b_47 .nw 23 [(32, cd.map vu8)], .blk b_7 .nw 23 [(32, (List.replicate 32 (0 : UInt8)).map vu8)], .blk b_4 .nw 23 [(32, cd.map vu8)], .blk b_1 .nw 103 [(1, [(vi kd)]), (32, key.map vu8), (1, [(vi dm)]), (1, [(.slice a_124 qn c_125)])], .pin (sblks lx) (fun w => Lgs w lx lg), .view da (df.map vu8), .view qa (data.map vu8)]) (.q 0 (.q 1 (.q 2 (.q 3 (.q 5 (.q 6 (.q 7 (.s2 4 8 (.s 8 (.s 9 (.q 10 (.q 11 (.s 12 .nil))))) (.s 4 (.s 9 (.q 10 (.q 11 (.s 12 .nil))))))))))))) (by kernel_rfl) (by kernel_rfl) rfl (by kernel_rfl) (fun w_130 hc_132 => (SL.cons ((h_129.same hc_132).ok _ M0) (SL.cons ((h_129.same hc_132).ok _ M1) (SL.cons ((h_129.same hc_132).ok _ M2) (SL.cons ((h_129.same hc_132).ok _ M3) (SL.cons ((h_129.same hc_132).ok _ M4) (SL.cons ((h_129.same hc_132).ok _ M7) (SL.cons ((h_129.same hc_132).ok _ M8) (SL.cons ((h_129.same hc_132).ok _ M9) (SL.nil _ _)))))))))) (fun w_130 hc_132 => ?_)
    have h_131 := h_129.same hc_132
    refine qT rfl rfl (fun wq hS => R.move (v := (pO ob 0)) rfl) ?_
    refine qT rfl rfl (fun wq hS => R.move (v := (pO ob 0)) rfl) ?_
    refine qT rfl rfl (fun wq hS => R.nilCheck rfl) ?_
    refine qT rfl rfl (fun wq hS => R.fieldAddr (b := ob) (off := 0) (off' := 35) rfl Try.underlying64 rfl Try.sizeOf48 rfl rfl) ?_
    refine qT rfl rfl (fun wq hS => R.loadA (b := b_1) (off := 0) [] [(1, [(vi kd)]), (32, key.map vu8), (1, [(vi dm)]), (1, [(.slice a_124 qn c_125)])] [] (cs := flat [(1, [(vi kd)]), (32, key.map vu8), (1, [(vi dm)]), (1, [(.slice a_124 qn c_125)])]) rfl Try.isAgg103 Try.sizeOf103 (hS _ M4) rfl rfl rfl rfl) ?_
    refine qT rfl rfl (fun wq hS => R.loadA (b := b_47) (off := 0) [] [(32, cd.map vu8)] [] (cs := cd.map vu8) rfl Try.isAgg23 Try.sizeOf23 (hS _ M1) rfl rfl rfl rfl) ?_
    refine qT rfl rfl (fun wq hS => R.buildS (pl := [(0, 35), (35, 32)]) (zs := [(1, [(vi 0)]), (32, (List.replicate 32 (0 : UInt8)).map vu8), (1, [(vi 0)]), (1, [(.slice none 0 0)]), (32, (List.replicate 32 (0 : UInt8)).map vu8)]) (vs := [(0, (.agg ⟨flat [(1, [(vi kd)]), (32, key.map vu8), (1, [(vi dm)]), (1, [(.slice a_124 qn c_125)])]⟩)), (1, (.agg ⟨cd.map vu8⟩))]) (out := [(1, [(vi kd)]), (32, key.map vu8), (1, [(vi dm)]), (1, [(.slice a_124 qn c_125)]), (32, cd.map vu8)]) (cs := flat [(1, [(vi kd)]), (32, key.map vu8), (1, [(vi dm)]), (1, [(.slice a_124 qn c_125)]), (32, cd.map vu8)]) Try.underlying111 (zv Try.typeInfo111 rfl) rfl (SsOk.cons (SOk.v rfl) (SsOk.cons (SOk.u8 lr) (SsOk.cons (SOk.v rfl) (SsOk.cons (SOk.v rfl) (SsOk.cons (SOk.u8 lr) SsOk.nil))))) (pl111 _ Try.underlying111) rfl (FillR.cons [] [(1, [(vi 0)]), (32, (List.replicate 32 (0 : UInt8)).map vu8), (1, [(vi 0)]), (1, [(.slice none 0 0)])] [(1, [(vi kd)]), (32, key.map vu8), (1, [(vi dm)]), (1, [(.slice a_124 qn c_125)])] [(32, (List.replicate 32 (0 : UInt8)).map vu8)] rfl rfl rfl rfl (SsOk.cons (SOk.v rfl) (SsOk.cons (SOk.u8 hq.1) (SsOk.cons (SOk.v rfl) (SsOk.cons (SOk.v rfl) SsOk.nil)))) rfl rfl rfl (FillR.cons [(1, [(vi kd)]), (32, key.map vu8), (1, [(vi dm)]), (1, [(.slice a_124 qn c_125)])] [(32, (List.replicate 32 (0 : UInt8)).map vu8)] [(32, cd.map vu8)] [] rfl rfl rfl rfl (SsOk.cons (SOk.u8 hcdl) SsOk.nil) rfl rfl rfl FillR.nil)) rfl) ?_
    refine WT.s2 ?_ ?_
    ·refine Op1.one rfl (Wn.no rfl) ?_
     refine qV rfl (R.load1 (b := ob) (off := 35) (v := (.slice la lg.length lc)) rfl Try.isAgg48 (h_131.ok _ M5) (Sg.t rfl (Sg.t rfl (Sg.t rfl (Sg.t rfl Sg.h))))) ?_
     refine WL.nil ?_
     refine ⟨(SL.cons (h_131.ok _ M0) (SL.cons (h_131.ok _ M1) (SL.cons (h_131.ok _ M2) (SL.cons (h_131.ok _ M3) (SL.cons (h_131.ok _ M4) (SL.cons (h_131.ok _ M7) (SL.cons (h_131.ok _ M8) (SL.cons (h_131.ok _ M9) (SL.nil _ _))))))))), ?_⟩
     refine WT.s (Op1.one rfl (Wn.no rfl) ?_)
     refine WL.buildSl (vs := [(0, (.agg ⟨flat [(1, [(vi kd)]), (32, key.map vu8), (1, [(vi dm)]), (1, [(.slice a_124 qn c_125)]), (32, cd.map vu8)]⟩))]) (cs := aC (kd, key, dm, data) (.slice a_124 qn c_125) cd) h_131 Try.underlying48 Try.sizeOf111 (zv Try.typeInfo111 rfl) rfl rfl (fill_1 (zc := flat [(1, [vi 0]), (32, List.replicate 32 (vu8 0)), (1, [vi 0]), (1, [.slice none 0 0]), (32, List.replicate 32 (vu8 0))]) (by kernel_rfl) (SsOk.cons (s := (67, flat [(1, [vi 0]), (32, List.replicate 32 (vu8 0)), (1, [vi 0]), (1, [.slice none 0 0]), (32, List.replicate 32 (vu8 0))])) ⟨by decide, SsOk.one (SsOk.cons (SOk.v rfl) (SsOk.cons (SOk.rep rfl) (SsOk.cons (SOk.v rfl) (SsOk.cons (SOk.v rfl) (SsOk.cons (SOk.rep rfl) SsOk.nil)))))⟩ SsOk.nil) (aC_ok (q := (kd, key, dm, data)) (s := (.slice a_124 qn c_125)) (d := cd) hq.1 hcdl rfl)) ((aC_ok (q := (kd, key, dm, data)) (s := (.slice a_124 qn c_125)) (d := cd) hq.1 hcdl rfl)).head.len ((aC_ok (q := (kd, key, dm, data)) (s := (.slice a_124 qn c_125)) (d := cd) hq.1 hcdl rfl)).head.one rfl rfl (fun b_134 w_135 h_136 => ?_)
     refine WL.nil ?_
     refine ⟨(SL.cons (h_136.ok _ M1) (SL.cons (h_136.ok _ M2) (SL.cons (h_136.ok _ M3) (SL.cons (h_136.ok _ M4) (SL.cons (h_136.ok _ M5) (SL.cons (h_136.ok _ M8) (SL.cons (h_136.ok _ M9) (SL.cons (h_136.ok _ M10) (SL.nil _ _))))))))), ?_⟩
     refine WT.s (Op1.one rfl (Wn.no rfl) ?_)
     refine WL.append (km := lg.length + 1) (xs := lx) (ys := aC (kd, key, dm, data) (.slice a_124 qn c_125) cd) (zs := lx ++ aC (kd, key, dm, data) (.slice a_124 qn c_125) cd) h_136 rfl rfl el48 (viewB (h_136.ok _ M0) Sg.h) ((aC_ok (q := (kd, key, dm, data)) (s := (.slice a_124 qn c_125)) (d := cd) hq.1 hcdl rfl)).head.len ((aC_ok (q := (kd, key, dm, data)) (s := (.slice a_124 qn c_125)) (d := cd) hq.1 hcdl rfl)).head.one rfl (by omega) (by omega) (by omega) (fun _ _ => Y7) rfl (fun a_137 c_138 w_139 h_140 => ?_)
     refine WL.nil ?_
     refine ⟨(SL.cons (h_140.ok _ M1) (SL.cons (h_140.ok _ M2) (SL.cons (h_140.ok _ M3) (SL.cons (h_140.ok _ M4) (SL.cons (h_140.ok _ M5) (SL.cons (h_140.ok _ M8) (SL.cons (h_140.ok _ M9) (SL.cons (h_140.ok _ M10) (SL.nil _ _))))))))), ?_⟩
     refine qT rfl rfl (fun wq hS => R.nilCheck rfl) ?_
     refine qT rfl rfl (fun wq hS => R.fieldAddr (b := ob) (off := 0) (off' := 35) rfl Try.underlying64 rfl Try.sizeOf48 rfl rfl) ?_
     refine WT.s (Op1.one rfl (Wn.no rfl) ?_)
     refine WL.store1 (b := ob) (off := 35) (v := (.slice a_137 (lg.length + 1) c_138)) h_140 rfl rfl Try.sizeOf48 rfl Y6 (by decide) (Sg.t rfl (Sg.t rfl (Sg.t rfl (Sg.t rfl Sg.h)))) (fun w_141 h_142 => ?_)
     refine WL.nil ?_
     refine ⟨(SL.cons (h_142.ok _ M1) (SL.cons (h_142.ok _ M2) (SL.cons (h_142.ok _ M3) (SL.cons (h_142.ok _ M4) (SL.cons (h_142.ok _ M5) (SL.cons (h_142.ok _ M8) (SL.cons (h_142.ok _ M9) (SL.cons (h_142.ok _ M10) (SL.nil _ _))))))))), ?_⟩
     refine WT.nil (thn_n ?_)
     exact ⟨(b_134, a_137, c_138), (U4 rfl rfl rfl rfl (U4 rfl rfl rfl rfl (U4 rfl rfl rfl rfl (Ag.refl _ _)))), ⟨rfl, rfl, rfl, rfl, rfl, rfl, rfl, rfl, rfl, rfl, rfl, rfl, trivial⟩, h_142⟩
    ·refine Op1.one rfl (Wn.no rfl) ?_
     refine WL.buildSl (vs := [(0, (.agg ⟨flat [(1, [(vi kd)]), (32, key.map vu8), (1, [(vi dm)]), (1, [(.slice a_124 qn c_125)]), (32, cd.map vu8)]⟩))]) (cs := aC (kd, key, dm, data) (.slice a_124 qn c_125) cd) h_131 Try.underlying48 Try.sizeOf111 (zv Try.typeInfo111 rfl) rfl rfl (fill_1 (zc := flat [(1, [vi 0]), (32, List.replicate 32 (vu8 0)), (1, [vi 0]), (1, [.slice none 0 0]), (32, List.replicate 32 (vu8 0))]) (by kernel_rfl) (SsOk.cons (s := (67, flat [(1, [vi 0]), (32, List.replicate 32 (vu8 0)), (1, [vi 0]), (1, [.slice none 0 0]), (32, List.replicate 32 (vu8 0))])) ⟨by decide, SsOk.one (SsOk.cons (SOk.v rfl) (SsOk.cons (SOk.rep rfl) (SsOk.cons (SOk.v rfl) (SsOk.cons (SOk.v rfl) (SsOk.cons (SOk.rep rfl) SsOk.nil)))))⟩ SsOk.nil) (aC_ok (q := (kd, key, dm, data)) (s := (.slice a_124 qn c_125)) (d := cd) hq.1 hcdl rfl)) ((aC_ok (q := (kd, key, dm, data)) (s := (.slice a_124 qn c_125)) (d := cd) hq.1 hcdl rfl)).head.len ((aC_ok (q := (kd, key, dm, data)) (s := (.slice a_124 qn c_125)) (d := cd) hq.1 hcdl rfl)).head.one rfl rfl (fun b_143 w_144 h_145 => ?_)
     refine WL.nil ?_
     refine ⟨(SL.cons (h_145.ok _ M1) (SL.cons (h_145.ok _ M2) (SL.cons (h_145.ok _ M3) (SL.cons (h_145.ok _ M4) (SL.cons (h_145.ok _ M5) (SL.cons (h_145.ok _ M8) (SL.cons (h_145.ok _ M9) (SL.cons (h_145.ok _ M10) (SL.nil _ _))))))))), ?_⟩
     refine WT.s (Op1.one rfl (Wn.no rfl) ?_)
     refine qV rfl (R.load1 (b := ob) (off := 35) (v := (.slice la lg.length lc)) rfl Try.isAgg48 (h_145.ok _ M6) (Sg.t rfl (Sg.t rfl (Sg.t rfl (Sg.t rfl Sg.h))))) ?_
     refine WL.nil ?_
     refine ⟨(SL.cons (h_145.ok _ M1) (SL.cons (h_145.ok _ M2) (SL.cons (h_145.ok _ M3) (SL.cons (h_145.ok _ M4) (SL.cons (h_145.ok _ M5) (SL.cons (h_145.ok _ M8) (SL.cons (h_145.ok _ M9) (SL.cons (h_145.ok _ M10) (SL.nil _ _))))))))), ?_⟩
     refine WT.s (Op1.one rfl (Wn.no rfl) ?_)
     refine WL.append (km := lg.length + 1) (xs := lx) (ys := aC (kd, key, dm, data) (.slice a_124 qn c_125) cd) (zs := lx ++ aC (kd, key, dm, data) (.slice a_124 qn c_125) cd) h_145 rfl rfl el48 (viewB (h_145.ok _ M0) Sg.h) ((aC_ok (q := (kd, key, dm, data)) (s := (.slice a_124 qn c_125)) (d := cd) hq.1 hcdl rfl)).head.len ((aC_ok (q := (kd, key, dm, data)) (s := (.slice a_124 qn c_125)) (d := cd) hq.1 hcdl rfl)).head.one rfl (by omega) (by omega) (by omega) (fun _ _ => Y7) rfl (fun a_146 c_147 w_148 h_149 => ?_)
     refine WL.nil ?_
     refine ⟨(SL.cons (h_149.ok _ M1) (SL.cons (h_149.ok _ M2) (SL.cons (h_149.ok _ M3) (SL.cons (h_149.ok _ M4) (SL.cons (h_149.ok _ M5) (SL.cons (h_149.ok _ M8) (SL.cons (h_149.ok _ M9) (SL.cons (h_149.ok _ M10) (SL.nil _ _))))))))), ?_⟩
     refine qT rfl rfl (fun wq hS => R.nilCheck rfl) ?_
     refine qT rfl rfl (fun wq hS => R.fieldAddr (b := ob) (off := 0) (off' := 35) rfl Try.underlying64 rfl Try.sizeOf48 rfl rfl) ?_
     refine WT.s (Op1.one rfl (Wn.no rfl) ?_)
     refine WL.store1 (b := ob) (off := 35) (v := (.slice a_146 (lg.length + 1) c_147)) h_149 rfl rfl Try.sizeOf48 rfl Y6 (by decide) (Sg.t rfl (Sg.t rfl (Sg.t rfl (Sg.t rfl Sg.h)))) (fun w_150 h_151 => ?_)
     refine WL.nil ?_
     refine ⟨(SL.cons (h_151.ok _ M1) (SL.cons (h_151.ok _ M2) (SL.cons (h_151.ok _ M3) (SL.cons (h_151.ok _ M4) (SL.cons (h_151.ok _ M5) (SL.cons (h_151.ok _ M8) (SL.cons (h_151.ok _ M9) (SL.cons (h_151.ok _ M10) (SL.nil _ _))))))))), ?_⟩
     refine WT.nil (thn_n ?_)
     exact ⟨(b_143, a_146, c_147), (U4 rfl rfl rfl rfl (U4 rfl rfl rfl rfl (U4 rfl rfl rfl rfl (Ag.refl _ _)))), ⟨rfl, rfl, rfl, rfl, rfl, rfl, rfl, rfl, rfl, rfl, rfl, rfl, trivial⟩, h_151⟩
   ·rintro ⟨b_155, a_156, c_157⟩ J_152 w_153 h_154
    refine thn_n (WP.seq (WP.reg ?_))
    refine qV rfl (R.loadA (b := b_47) (off := 0) [] [(32, cd.map vu8)] [] (cs := cd.map vu8) rfl Try.isAgg23 Try.sizeOf23 (h_154.ok _ M2) rfl rfl rfl rfl) ?_
    refine WL.storeA (b := b_7) (off := 0) [] [(32, (List.replicate 32 (0 : UInt8)).map vu8)] [(32, cd.map vu8)] [] (ys := cd.map vu8) h_154 rfl rfl Try.sizeOf23 Y3 (by decide) rfl rfl rfl rfl rfl rfl (SsOk.cons (SOk.u8 hcdl) SsOk.nil) (fun w_158 h_159 => ?_)
    refine WL.nil (thn_n (WP.ret ?_))
    refine ret_of Try.results118 (RV.cell rfl (h_159.loadA (cs := cd.map vu8) Try.isAgg23 Try.sizeOf23 M3 rfl rfl) RV.nil) ?_
    have h_174 := ((((((((((((((h_159.drop rfl).up J1).drop rfl).up J1).drop rfl).up J1).drop rfl).up J1).drop rfl).up J5).up J5).up J4).up J4).up J5).up J5
    have h_175 := HP_logPush (q := (kd, key, dm, data)) (d := cd) h_174 hq hcdl (lenApp (a := 0) (b := qn) (rfl : List.length ([] : List UInt8) = 0) hdl (by omega) : List.length (([] : List UInt8) ++ data) = qn)
    have h_185 := ((((((((h_175.up J1).drop rfl).up J1).drop rfl).up J4).up J4).up J2).up J4).up J4
    have hmf : mF id df dn u (kd, key, dm, data) = cd := by rw [mF, c_52]; exact (hcd c_52).symm
    have hu2 : (bif id then u + 1 else u) = u := by rw [c_52]; rfl
    have hse : lg.length + 1 = (lg ++ [((kd, key, dm, data), cd)]).length := snoc_len.symm
    have h_176 := h_185
    rw [hse] at h_176
    exact ⟨_, _, _, by rw [anD_miss hfd, hmf]; rfl, by rw [anU_miss hfd, anL_miss hfd, hmf, hu2]; exact h_176⟩

theorem c_rAns_r {w00 : World} {L : List Ent} (id : Bool) (ob : Nat) (ms df : List UInt8) (hms : ms.length = 32) (da : Option Addr) (dn dc u : Nat) (hdf : df.length = 32 * dn) (la : Option Addr) (lc : Nat) (lx : List Value) (lg : Lg) (hu : u ≤ 1000000) (hlg : lg.length ≤ 1000000) (kd dm : Int) (key data : List UInt8) (qa : Option Addr) (qn qc : Nat) (hq : okQ (kd, key, dm, data)) (hdl : data.length = qn) (cd : List UInt8) (hcdl : cd.length = 32) (hcd : id = false → cd = cF (kd, key, dm, data)) (w : World) (h_0 : HP w00 w (Ent.blk ob .nw 64 [(1, [(.bool id)]), (32, ms.map vu8), (1, [(.slice da dn dc)]), (1, [(vi ((u : Nat) : Int))]), (1, [(.slice la lg.length lc)])] :: Ent.row la lg.length lc 111 67 lx :: Ent.pin (sblks lx) (fun w => Lgs w lx lg) :: Ent.view da (df.map vu8) :: Ent.row qa qn qc 5 1 (data.map vu8) :: L)) :
  Cs Try.prog 118 [(.pointer (some ⟨ob, 0, none⟩)), (.agg ⟨flat [(1, [(vi kd)]), (32, key.map vu8), (1, [(vi dm)]), (1, [(.slice qa qn qc)])]⟩), (.agg ⟨cd.map vu8⟩)].toArray w (fun v w1 => ∃ la' lc' lx', v = (.agg ⟨(anD id df dn u lg (kd, key, dm, data)).map vu8⟩) ∧ HP w00 w1 (Ent.blk ob .nw 64 [(1, [(.bool id)]), (32, ms.map vu8), (1, [(.slice da dn dc)]), (1, [(vi (((anU id u lg (kd, key, dm, data)) : Nat) : Int))]), (1, [(.slice la' ((anL id df dn u lg (kd, key, dm, data)).length) lc')])] :: Ent.row la' ((anL id df dn u lg (kd, key, dm, data)).length) lc' 111 67 lx' :: Ent.pin (sblks lx') (fun w => Lgs w lx' (anL id df dn u lg (kd, key, dm, data))) :: Ent.view da (df.map vu8) :: Ent.row qa qn qc 5 1 (data.map vu8) :: L)) := by
 have hlgs : Lgs w lx lg := (h_0.ok _ M2).1
 have hlo := hlgs.ok
 have hqn : data.length ≤ 1000000000 := hq.2.2.2
 refine Cs.of (n := 71) (args := [(pO ob 0), (.agg ⟨flat [(1, [(vi kd)]), (32, key.map vu8), (1, [(vi dm)]), (1, [(.slice qa qn qc)])]⟩), (.agg ⟨cd.map vu8⟩)]) Try.func118 rfl rfl rfl ?_
 refine WP.seq (WP.reg ?_)
 refine WL.box (v := (.agg ⟨flat [(1, [(vi kd)]), (32, key.map vu8), (1, [(vi dm)]), (1, [(.slice qa qn qc)])]⟩)) (segs := [(1, [(vi kd)]), (32, key.map vu8), (1, [(vi dm)]), (1, [(.slice qa qn qc)])]) h_0 rfl rfl (SsOk.cons (SOk.v rfl) (SsOk.cons (SOk.u8 hq.1) (SsOk.cons (SOk.v rfl) (SsOk.cons (SOk.v rfl) SsOk.nil)))) rfl (fun b_1 w_2 h_3 => ?_)
 refine WL.box (v := (.agg ⟨cd.map vu8⟩)) (segs := [(32, cd.map vu8)]) h_3 rfl rfl (SsOk.cons (SOk.u8 hcdl) SsOk.nil) rfl (fun b_4 w_5 h_6 => ?_)
 refine WL.alloc (segs := [(32, (List.replicate 32 (0 : UInt8)).map vu8)]) h_6 (zv Try.typeInfo23 rfl) rfl (SsOk.cons (SOk.u8 lr) SsOk.nil) rfl (fun b_7 w_8 h_9 => ?_)
 refine WL.nil (thn_n (WP.seq (WP.seq (WP.reg ?_))))
 refine qA (vi 0) rfl rfl ?_
 refine WL.nil (thn_n (WP.block ?_))
 refine WP.loopG (G := Nat) [7, 9, 10, 11, 12, 13, 14, 15, 16, 17, 18, 19, 20, 21, 22, 23, 24, 25, 26, 27, 28, 29, 30, 31, 32, 33, 34, 35] (fun k => [(7, (vn k))]) (fun k m w1 => HP w00 w1 (Ent.blk b_7 .nw 23 [(32, (List.replicate 32 (0 : UInt8)).map vu8)] :: Ent.blk b_4 .nw 23 [(32, cd.map vu8)] :: Ent.blk b_1 .nw 103 [(1, [(vi kd)]), (32, key.map vu8), (1, [(vi dm)]), (1, [(.slice qa qn qc)])] :: Ent.blk ob .nw 64 [(1, [(.bool id)]), (32, ms.map vu8), (1, [(.slice da dn dc)]), (1, [(vn u)]), (1, [(.slice la lg.length lc)])] :: Ent.row la lg.length lc 111 67 lx :: Ent.pin (sblks lx) (fun w => Lgs w lx lg) :: Ent.view da (df.map vu8) :: Ent.row qa qn qc 5 1 (data.map vu8) :: L) ∧ (k ≤ lg.length) ∧ (∀ j, j < k → (lg.getD j ((kd, key, dm, data), [])).1 ≠ (kd, key, dm, data)) ∧ m = lg.length + 1 - k) ⟨0, _, ⟨rfl, trivial⟩, h_9, Nat.zero_le _, (fun j hj => by omega), rfl⟩ ?_
 rintro k m_12 J_13 w_10 ⟨h_11, hk, hno, rfl⟩
 refine WP.seq (WP.seq (WP.reg ?_))
 refine qM (vn k) rfl rfl (qM (pO ob 0) rfl rfl (qV rfl (R.nilCheck rfl) (qV rfl (R.fieldAddr (b := ob) (off := 0) (off' := 35) rfl Try.underlying64 rfl Try.sizeOf48 rfl rfl) (qV rfl (R.load1 (b := ob) (off := 35) (v := (.slice la lg.length lc)) rfl Try.isAgg48 (h_11.ok _ M3) (Sg.t rfl (Sg.t rfl (Sg.t rfl (Sg.t rfl Sg.h))))) (qV rfl (R.lenS (a := la) (m := lg.length) rfl rfl Try.underlying48) (qV rfl (R.bin rfl rfl (bi_lss (r := decide ((((k : Nat) : Int) : Int) < ((lg.length : Nat) : Int))) rfl)) ?_))))))
 refine WL.nil (thn_n ?_)
 refine WP.cond (b := decide ((((k : Nat) : Int) : Int) < ((lg.length : Nat) : Int))) rfl (fun c_14 => ?_) (fun c_14 => ?_)
 ·have p_15 := of_decide_eq_true c_14
  refine WP.skip (thn_n (WP.seq (WP.block (WP.seq ?_))))
  have hkl : k < lg.length := by omega
  obtain ⟨ka, kn, kc, hkx, hkq, hkn, hkc, hkv, hkb⟩ := Lgs.qget (z := ((kd, key, dm, data), [])) (h_11.ok _ M5).1 hkl
  have h_16 := h_11.within (e' := .view ka ((lg.getD k ((kd, key, dm, data), [])).1.2.2.2.map vu8)) M5 rfl (View.arg hkv) rfl rfl (fun b hb_ => hkb _ (view_sblk hkn b hb_))
  refine WP.drawT (SL w00.heap.size [.view ka ((lg.getD k ((kd, key, dm, data), [])).1.2.2.2.map vu8), .blk b_7 .nw 23 [(32, (List.replicate 32 (0 : UInt8)).map vu8)], .blk b_4 .nw 23 [(32, cd.map vu8)], .blk b_1 .nw 103 [(1, [(vi kd)]), (32, key.map vu8), (1, [(vi dm)]), (1, [(.slice qa qn qc)])], .blk ob .nw 64 [(1, [(.bool id)]), (32, ms.map vu8), (1, [(.slice da dn dc)]), (1, [(vn u)]), (1, [(.slice la lg.length lc)])], .row la lg.length lc 111 67 lx, .pin (sblks lx) (fun w => Lgs w lx lg), .view da (df.map vu8), .row qa qn qc 5 1 (data.map vu8)]) (.q 0 (.q 1 (.q 2 (.q 3 (.q 4 (.q 5 (.q 6 (.q 7 (.q 8 (.s 9 .nil)))))))))) (by kernel_rfl) (by kernel_rfl) rfl (by kernel_rfl) (fun w_17 hc_19 => (SL.cons ((h_16.same hc_19).ok _ M0) (SL.cons ((h_16.same hc_19).ok _ M1) (SL.cons ((h_16.same hc_19).ok _ M2) (SL.cons ((h_16.same hc_19).ok _ M3) (SL.cons ((h_16.same hc_19).ok _ M4) (SL.cons ((h_16.same hc_19).ok _ M5) (SL.cons ((h_16.same hc_19).ok _ M6) (SL.cons ((h_16.same hc_19).ok _ M7) (SL.cons ((h_16.same hc_19).ok _ M8) (SL.nil _ _))))))))))) (fun w_17 hc_19 => ?_)
  have h_18 := h_16.same hc_19
  refine qT rfl rfl (fun wq hS => R.move (v := (pO ob 0)) rfl) ?_
  refine qT rfl rfl (fun wq hS => R.nilCheck rfl) ?_
  refine qT rfl rfl (fun wq hS => R.fieldAddr (b := ob) (off := 0) (off' := 35) rfl Try.underlying64 rfl Try.sizeOf48 rfl rfl) ?_
  refine qT rfl rfl (fun wq hS => R.load1 (b := ob) (off := 35) (v := (.slice la lg.length lc)) rfl Try.isAgg48 (hS _ M4) (Sg.t rfl (Sg.t rfl (Sg.t rfl (Sg.t rfl Sg.h))))) ?_
  refine qT rfl rfl (fun wq hS => R.move (v := (vn k)) rfl) ?_
  refine qT rfl rfl (fun wq hS => R.indexS (a := la) (i := k) (off := k * 67) (xs := lx) rfl rfl rfl (by omega) (ownView (hS _ M5)) (by rw [Lgs.len hlgs]; omega) Try.underlying48 Try.sizeOf111 rfl) ?_
  refine qT rfl rfl (fun wq hS => R.fieldG (a := la) (i := k * 67) (off' := k * 67) rfl Try.underlying111 rfl Try.sizeOf103 rfl rfl) ?_
  refine qT rfl rfl (fun wq hS => R.loadGA (a := la) (i := k * 67) (xs := lx) (cs := flat [(1, [(vi (((lg.getD k ((kd, key, dm, data), [])).1).1))]), (32, (((lg.getD k ((kd, key, dm, data), [])).1).2.1).map vu8), (1, [(vi (((lg.getD k ((kd, key, dm, data), [])).1).2.2.1))]), (1, [(.slice ka kn kc)])]) rfl (ownView (hS _ M5)) Try.isAgg103 Try.sizeOf103 hkx ((SsOk.cons (SOk.v rfl) (SsOk.cons (SOk.u8 hkq.1) (SsOk.cons (SOk.v rfl) (SsOk.cons (SOk.v rfl) SsOk.nil))))).len (by decide)) ?_
  refine qT rfl rfl (fun wq hS => R.loadA (b := b_1) (off := 0) [] [(1, [(vi kd)]), (32, key.map vu8), (1, [(vi dm)]), (1, [(.slice qa qn qc)])] [] (cs := flat [(1, [(vi kd)]), (32, key.map vu8), (1, [(vi dm)]), (1, [(.slice qa qn qc)])]) rfl Try.isAgg103 Try.sizeOf103 (hS _ M3) rfl rfl rfl rfl) ?_
  refine WT.s (Op1.one rfl (Wn.no rfl) ?_)
  refine WL.call Try.call56 rfl rfl (c_rSame ((lg.getD k ((kd, key, dm, data), [])).1) (kd, key, dm, data) hkq.1 hq.1 ka kn kc hkn qa qn qc hdl _ (viewV (h_18.ok _ M0)) (ownView (h_18.ok _ M8))) rfl ?_
  rintro _ w_21 ⟨rfl, hc_20⟩
  have h_22 := h_18.same hc_20
  refine WL.nil ?_
  refine ⟨(SL.cons (h_22.ok _ M0) (SL.cons (h_22.ok _ M1) (SL.cons (h_22.ok _ M2) (SL.cons (h_22.ok _ M3) (SL.cons (h_22.ok _ M4) (SL.cons (h_22.ok _ M5) (SL.cons (h_22.ok _ M6) (SL.cons (h_22.ok _ M7) (SL.cons (h_22.ok _ M8) (SL.nil _ _)))))))))), ?_⟩
  refine WT.nil (thn_n ?_)
  refine WP.cond (b := decide ((lg.getD k ((kd, key, dm, data), [])).1 = (kd, key, dm, data))) rfl (fun c_23 => ?_) (fun c_23 => ?_)
  ·have p_24 := of_decide_eq_true c_23
   refine WP.seq ?_
   have hfd : fdq (kd, key, dm, data) lg 0 = some k := (fdq_at (s := 0) hkl hno p_24).trans (by rw [Nat.zero_add])
   refine WP.reg ?_
   refine qM (pO ob 0) rfl rfl (qV rfl (R.nilCheck rfl) (qV rfl (R.fieldAddr (b := ob) (off := 0) (off' := 35) rfl Try.underlying64 rfl Try.sizeOf48 rfl rfl) (qV rfl (R.load1 (b := ob) (off := 35) (v := (.slice la lg.length lc)) rfl Try.isAgg48 (h_22.ok _ M4) (Sg.t rfl (Sg.t rfl (Sg.t rfl (Sg.t rfl Sg.h))))) (qM (vn k) rfl rfl (qV rfl (R.indexS (a := la) (i := k) (off := k * 67) (xs := lx) rfl rfl rfl (by omega) (ownView (h_22.ok _ M5)) (by rw [Lgs.len hlgs]; omega) Try.underlying48 Try.sizeOf111 rfl) (qV rfl (R.fieldG (a := la) (i := k * 67) (off' := k * 67 + 35) rfl Try.underlying111 rfl Try.sizeOf23 rfl rfl) (qV rfl (R.loadGA (a := la) (i := k * 67 + 35) (xs := lx) (cs := ((lg.getD k ((kd, key, dm, data), [])).2).map vu8) rfl (ownView (h_22.ok _ M5)) Try.isAgg23 Try.sizeOf23 (Lgs.ans (z := ((kd, key, dm, data), [])) hlgs (i := k) hkl).1 (len_map (Lgs.ans (z := ((kd, key, dm, data), [])) hlgs (i := k) hkl).2) (by decide)) ?_)))))))
   refine WL.storeA (b := b_7) (off := 0) [] [(32, (List.replicate 32 (0 : UInt8)).map vu8)] [(32, ((lg.getD k ((kd, key, dm, data), [])).2).map vu8)] [] (ys := ((lg.getD k ((kd, key, dm, data), [])).2).map vu8) h_22 rfl rfl Try.sizeOf23 Y1 (by decide) rfl rfl rfl rfl rfl rfl (SsOk.cons (SOk.u8 ((Lgs.ans (z := ((kd, key, dm, data), [])) hlgs (i := k) hkl).2)) SsOk.nil) (fun w_25 h_26 => ?_)
   refine WL.nil (thn_n (WP.ret (inb_r (thn_r (thn_r (inb_r (thn_r ?_)))))))
   refine ret_of Try.results118 (RV.cell rfl (h_26.loadA (cs := ((lg.getD k ((kd, key, dm, data), [])).2).map vu8) Try.isAgg23 Try.sizeOf23 M1 rfl rfl) RV.nil) ?_
   have h_35 := ((((((((h_26.drop rfl).drop rfl).drop rfl).drop rfl).up J4).up J4).up J4).up J4).up J4
   exact ⟨la, lc, lx, by rw [anD_hit hfd]; rfl, by rw [anU_hit hfd, anL_hit hfd]; exact h_35⟩
  ·have p_36 := of_decide_eq_false c_23
   refine WP.skip (inb_n (thn_n (WP.reg ?_)))
   refine qM (vn k) rfl rfl (qV rfl (R.bin rfl rfl (bi_add (c := ((k + 1 : Nat) : Int)) (by omega) (by omega))) (qA (vn (k + 1)) rfl rfl ?_))
   refine WL.nil (thn_n ?_)
   have h_45 := ((((((((h_22.drop rfl).up J7).up J7).up J7).up J7).up J7).up J7).up J7).up J7
   exact ⟨k + 1, _, (by omega), (U4 rfl rfl rfl rfl (U4 rfl rfl rfl rfl (U4 rfl rfl rfl rfl (U4 rfl rfl rfl rfl (U4 rfl rfl rfl rfl (Ag.updL rfl (Ag.mix _ _ _))))))), ⟨rfl, trivial⟩, h_45, (by omega), (fun j hj => (Nat.lt_or_eq_of_le (Nat.le_of_lt_succ hj)).elim (fun e => hno j e) (fun e => by rw [e]; exact p_36)), rfl⟩
 ·have p_46 := of_decide_eq_false c_14
  refine WP.exit (thn_x (thn_x (inb_hit (thn_n (WP.seq ?_)))))
  have hfd : fdq (kd, key, dm, data) lg 0 = none := fdq_no (z := ((kd, key, dm, data), [])) (fun j hj => hno j (by omega))
  refine WP.reg ?_
  refine qV rfl (R.loadA (b := b_4) (off := 0) [] [(32, cd.map vu8)] [] (cs := cd.map vu8) rfl Try.isAgg23 Try.sizeOf23 (h_11.ok _ M1) rfl rfl rfl rfl) ?_
  refine WL.alloc (segs := [(32, (List.replicate 32 (0 : UInt8)).map vu8)]) h_11 (zv Try.typeInfo23 rfl) rfl (SsOk.cons (SOk.u8 lr) SsOk.nil) rfl (fun b_47 w_48 h_49 => ?_)
  refine WL.storeA (b := b_47) (off := 0) [] [(32, (List.replicate 32 (0 : UInt8)).map vu8)] [(32, cd.map vu8)] [] (ys := cd.map vu8) h_49 rfl rfl Try.sizeOf23 At.h (by decide) rfl rfl rfl rfl rfl rfl (SsOk.cons (SOk.u8 hcdl) SsOk.nil) (fun w_50 h_51 => ?_)
  refine WL.nil (thn_n (WP.seq (WP.seq (WP.reg ?_))))
  refine qM (pO ob 0) rfl rfl (qV rfl (R.nilCheck rfl) (qV rfl (R.fieldAddr (b := ob) (off := 0) (off' := 0) rfl Try.underlying64 rfl Try.sizeOf4 rfl rfl) (qV rfl (R.load1 (b := ob) (off := 0) (v := (.bool id)) rfl Try.isAgg4 (h_51.ok _ M4) Sg.h) ?_)))
  refine WL.nil (thn_n ?_)
  refine WP.cond (b := id) rfl (fun c_52 => ?_) (fun c_52 => ?_)
  ·refine WP.seq (WP.reg ?_)
   refine qM (pO ob 0) rfl rfl (qM (pO ob 0) rfl rfl (qV rfl (R.nilCheck rfl) (qV rfl (R.fieldAddr (b := ob) (off := 0) (off' := 34) rfl Try.underlying64 rfl Try.sizeOf3 rfl rfl) (qV rfl (R.load1 (b := ob) (off := 34) (v := (vn u)) rfl Try.isAgg3 (h_51.ok _ M4) (Sg.t rfl (Sg.t rfl (Sg.t rfl Sg.h)))) ?_))))
   refine WL.call Try.call129 rfl rfl (c_rDraw id ob ms df hms da dn dc u u hdf la lg.length lc (by omega) _ (viewV (h_51.ok _ M7)) (h_51.argR M4)) rfl ?_
   rintro _ w_54 ⟨rfl, hc_53⟩
   have h_55 := h_51.same hc_53
   refine WL.storeA (b := b_47) (off := 0) [] [(32, cd.map vu8)] [(32, (drawF df dn u).map vu8)] [] (ys := (drawF df dn u).map vu8) h_55 rfl rfl Try.sizeOf23 At.h (by decide) rfl rfl rfl rfl rfl rfl (SsOk.cons (SOk.u8 (drawF_len hdf)) SsOk.nil) (fun w_56 h_57 => ?_)
   refine WL.nil (thn_n (WP.reg ?_))
   refine qM (pO ob 0) rfl rfl (qV rfl (R.nilCheck rfl) (qV rfl (R.fieldAddr (b := ob) (off := 0) (off' := 34) rfl Try.underlying64 rfl Try.sizeOf3 rfl rfl) (qV rfl (R.load1 (b := ob) (off := 34) (v := (vn u)) rfl Try.isAgg3 (h_57.ok _ M4) (Sg.t rfl (Sg.t rfl (Sg.t rfl Sg.h)))) (qV rfl (R.bin rfl rfl (bi_add (c := ((u + 1 : Nat) : Int)) (by omega) (by omega))) (qV rfl (R.nilCheck rfl) (qV rfl (R.fieldAddr (b := ob) (off := 0) (off' := 34) rfl Try.underlying64 rfl Try.sizeOf3 rfl rfl) ?_))))))
   refine WL.store1 (b := ob) (off := 34) (v := (vn (u + 1))) h_57 rfl rfl Try.sizeOf3 rfl Y4 (by decide) (Sg.t rfl (Sg.t rfl (Sg.t rfl Sg.h))) (fun w_58 h_59 => ?_)
   refine WL.nil (thn_n (WP.seq (WP.reg ?_)))
   refine qV rfl (R.fieldAddr (b := b_1) (off := 0) (off' := 34) rfl Try.underlying103 rfl Try.sizeOf37 rfl rfl) (qV rfl (R.load1 (b := b_1) (off := 34) (v := (.slice qa qn qc)) rfl Try.isAgg37 (h_59.ok _ M3) (Sg.t rfl (Sg.t rfl (Sg.t rfl Sg.h)))) ?_)
   have h_60 := h_59.rowNil 5 1
   refine WL.append (km := qn) (xs := []) (ys := data.map vu8) (zs := (([] : List UInt8) ++ data).map vu8) h_60 rfl rfl el37 (ownView (h_60.ok _ M9)) ((len_map hdl).trans (Nat.mul_one _).symm) (one_u8 _) (by simp only [List.map_append, List.map_nil]) (by omega) (by omega) (by omega) (fun _ _ => At.h) rfl (fun a_61 c_62 w_63 h_64 => ?_)
   refine qV rfl (R.fieldAddr (b := b_1) (off := 0) (off' := 34) rfl Try.underlying103 rfl Try.sizeOf37 rfl rfl) ?_
   refine WL.store1 (b := b_1) (off := 34) (v := (.slice a_61 qn c_62)) h_64 rfl rfl Try.sizeOf37 rfl Y4 (by decide) (Sg.t rfl (Sg.t rfl (Sg.t rfl Sg.h))) (fun w_65 h_66 => ?_)
   refine WL.nil (thn_n (WP.seq ?_))
   refine WP.cutG (G := Nat × Option Addr × Nat) [58, 59, 60, 61, 62, 63, 64, 65, 66, 67, 68, 69] (fun (bY11Y8Y0Y0, aY11Y9Y0Y0, cY11Y9Y0Y0) => [(58, (pO ob 0)), (59, (pO ob 0)), (60, (pO ob 0)), (61, (pO ob 35)), (63, (.agg ⟨flat [(1, [(vi kd)]), (32, key.map vu8), (1, [(vi dm)]), (1, [(.slice a_61 qn c_62)])]⟩)), (64, (.agg ⟨(drawF df dn u).map vu8⟩)), (65, (.agg ⟨flat [(1, [(vi kd)]), (32, key.map vu8), (1, [(vi dm)]), (1, [(.slice a_61 qn c_62)]), (32, (drawF df dn u).map vu8)]⟩)), (62, (.slice la lg.length lc)), (66, (.slice (some ⟨bY11Y8Y0Y0, 0, none⟩) 1 1)), (67, (.slice aY11Y9Y0Y0 (lg.length + 1) cY11Y9Y0Y0)), (68, (pO ob 0)), (69, (pO ob 35))]) (fun (bY11Y8Y0Y0, aY11Y9Y0Y0, cY11Y9Y0Y0) w1 => HP w00 w1 (Ent.blk bY11Y8Y0Y0 .nw 111 [(67, aC (kd, key, dm, data) (.slice a_61 qn c_62) (drawF df dn u))] :: Ent.row a_61 qn c_62 5 1 ((([] : List UInt8) ++ data).map vu8) :: Ent.blk b_47 .nw 23 [(32, (drawF df dn u).map vu8)] :: Ent.blk b_7 .nw 23 [(32, (List.replicate 32 (0 : UInt8)).map vu8)] :: Ent.blk b_4 .nw 23 [(32, cd.map vu8)] :: Ent.blk b_1 .nw 103 [(1, [(vi kd)]), (32, key.map vu8), (1, [(vi dm)]), (1, [(.slice a_61 qn c_62)])] :: Ent.blk ob .nw 64 [(1, [(.bool id)]), (32, ms.map vu8), (1, [(.slice da dn dc)]), (1, [(vn (u + 1))]), (1, [(.slice aY11Y9Y0Y0 (lg.length + 1) cY11Y9Y0Y0)])] :: Ent.row aY11Y9Y0Y0 (lg.length + 1) cY11Y9Y0Y0 111 67 (lx ++ aC (kd, key, dm, data) (.slice a_61 qn c_62) (drawF df dn u)) :: Ent.pin (sblks lx) (fun w => Lgs w lx lg) :: Ent.view da (df.map vu8) :: Ent.row qa qn qc 5 1 (data.map vu8) :: L)) ?_ ?_
   ·refine WP.drawT (SL w00.heap.size [.row a_61 qn c_62 5 1 ((([] : List UInt8) ++ data).map vu8), .blk b_47 .nw 23 [(32, (drawF df dn u).map vu8)], .blk b_7 .nw 23 [(32, (List.replicate 32 (0 : UInt8)).map vu8)], .blk b_4 .nw 23 [(32, cd.map vu8)], .blk b_1 .nw 103 [(1, [(vi kd)]), (32, key.map vu8), (1, [(vi dm)]), (1, [(.slice a_61 qn c_62)])], .pin (sblks lx) (fun w => Lgs w lx lg), .view da (df.map vu8), .row qa qn qc 5 1 (data.map vu8)]) (.q 0 (.q 1 (.q 2 (.q 3 (.q 5 (.q 6 (.q 7 (.s2 4 8 (.s 8 (.s 9 (.q 10 (.q 11 (.s 12 .nil))))) (.s 4 (.s 9 (.q 10 (.q 11 (.s 12 .nil))))))))))))) (by kernel_rfl) (by kernel_rfl) rfl (by kernel_rfl) (fun w_67 hc_69 => (SL.cons ((h_66.same hc_69).ok _ M0) (SL.cons ((h_66.same hc_69).ok _ M1) (SL.cons ((h_66.same hc_69).ok _ M2) (SL.cons ((h_66.same hc_69).ok _ M3) (SL.cons ((h_66.same hc_69).ok _ M4) (SL.cons ((h_66.same hc_69).ok _ M7) (SL.cons ((h_66.same hc_69).ok _ M8) (SL.cons ((h_66.same hc_69).ok _ M9) (SL.nil _ _)))))))))) (fun w_67 hc_69 => ?_)
    have h_68 := h_66.same hc_69
    refine qT rfl rfl (fun wq hS => R.move (v := (pO ob 0)) rfl) ?_
    refine qT rfl rfl (fun wq hS => R.move (v := (pO ob 0)) rfl) ?_
    refine qT rfl rfl (fun wq hS => R.nilCheck rfl) ?_
    refine qT rfl rfl (fun wq hS => R.fieldAddr (b := ob) (off := 0) (off' := 35) rfl Try.underlying64 rfl Try.sizeOf48 rfl rfl) ?_
    refine qT rfl rfl (fun wq hS => R.loadA (b := b_1) (off := 0) [] [(1, [(vi kd)]), (32, key.map vu8), (1, [(vi dm)]), (1, [(.slice a_61 qn c_62)])] [] (cs := flat [(1, [(vi kd)]), (32, key.map vu8), (1, [(vi dm)]), (1, [(.slice a_61 qn c_62)])]) rfl Try.isAgg103 Try.sizeOf103 (hS _ M4) rfl rfl rfl rfl) ?_
    refine qT rfl rfl (fun wq hS => R.loadA (b := b_47) (off := 0) [] [(32, (drawF df dn u).map vu8)] [] (cs := (drawF df dn u).map vu8) rfl Try.isAgg23 Try.sizeOf23 (hS _ M1) rfl rfl rfl rfl) ?_
    refine qT rfl rfl (fun wq hS => R.buildS (pl := [(0, 35), (35, 32)]) (zs := [(1, [(vi 0)]), (32, (List.replicate 32 (0 : UInt8)).map vu8), (1, [(vi 0)]), (1, [(.slice none 0 0)]), (32, (List.replicate 32 (0 : UInt8)).map vu8)]) (vs := [(0, (.agg ⟨flat [(1, [(vi kd)]), (32, key.map vu8), (1, [(vi dm)]), (1, [(.slice a_61 qn c_62)])]⟩)), (1, (.agg ⟨(drawF df dn u).map vu8⟩))]) (out := [(1, [(vi kd)]), (32, key.map vu8), (1, [(vi dm)]), (1, [(.slice a_61 qn c_62)]), (32, (drawF df dn u).map vu8)]) (cs := flat [(1, [(vi kd)]), (32, key.map vu8), (1, [(vi dm)]), (1, [(.slice a_61 qn c_62)]), (32, (drawF df dn u).map vu8)]) Try.underlying111 (zv Try.typeInfo111 rfl) rfl (SsOk.cons (SOk.v rfl) (SsOk.cons (SOk.u8 lr) (SsOk.cons (SOk.v rfl) (SsOk.cons (SOk.v rfl) (SsOk.cons (SOk.u8 lr) SsOk.nil))))) (pl111 _ Try.underlying111) rfl (FillR.cons [] [(1, [(vi 0)]), (32, (List.replicate 32 (0 : UInt8)).map vu8), (1, [(vi 0)]), (1, [(.slice none 0 0)])] [(1, [(vi kd)]), (32, key.map vu8), (1, [(vi dm)]), (1, [(.slice a_61 qn c_62)])] [(32, (List.replicate 32 (0 : UInt8)).map vu8)] rfl rfl rfl rfl (SsOk.cons (SOk.v rfl) (SsOk.cons (SOk.u8 hq.1) (SsOk.cons (SOk.v rfl) (SsOk.cons (SOk.v rfl) SsOk.nil)))) rfl rfl rfl (FillR.cons [(1, [(vi kd)]), (32, key.map vu8), (1, [(vi dm)]), (1, [(.slice a_61 qn c_62)])] [(32, (List.replicate 32 (0 : UInt8)).map vu8)] [(32, (drawF df dn u).map vu8)] [] rfl rfl rfl rfl (SsOk.cons (SOk.u8 (drawF_len hdf)) SsOk.nil) rfl rfl rfl FillR.nil)) rfl) ?_
    refine WT.s2 ?_ ?_
    ·refine Op1.one rfl (Wn.no rfl) ?_
     refine qV rfl (R.load1 (b := ob) (off := 35) (v := (.slice la lg.length lc)) rfl Try.isAgg48 (h_68.ok _ M5) (Sg.t rfl (Sg.t rfl (Sg.t rfl (Sg.t rfl Sg.h))))) ?_
     refine WL.nil ?_
     refine ⟨(SL.cons (h_68.ok _ M0) (SL.cons (h_68.ok _ M1) (SL.cons (h_68.ok _ M2) (SL.cons (h_68.ok _ M3) (SL.cons (h_68.ok _ M4) (SL.cons (h_68.ok _ M7) (SL.cons (h_68.ok _ M8) (SL.cons (h_68.ok _ M9) (SL.nil _ _))))))))), ?_⟩
     refine WT.s (Op1.one rfl (Wn.no rfl) ?_)
     refine WL.buildSl (vs := [(0, (.agg ⟨flat [(1, [(vi kd)]), (32, key.map vu8), (1, [(vi dm)]), (1, [(.slice a_61 qn c_62)]), (32, (drawF df dn u).map vu8)]⟩))]) (cs := aC (kd, key, dm, data) (.slice a_61 qn c_62) (drawF df dn u)) h_68 Try.underlying48 Try.sizeOf111 (zv Try.typeInfo111 rfl) rfl rfl (fill_1 (zc := flat [(1, [vi 0]), (32, List.replicate 32 (vu8 0)), (1, [vi 0]), (1, [.slice none 0 0]), (32, List.replicate 32 (vu8 0))]) (by kernel_rfl) (SsOk.cons (s := (67, flat [(1, [vi 0]), (32, List.replicate 32 (vu8 0)), (1, [vi 0]), (1, [.slice none 0 0]), (32, List.replicate 32 (vu8 0))])) ⟨by decide, SsOk.one (SsOk.cons (SOk.v rfl) (SsOk.cons (SOk.rep rfl) (SsOk.cons (SOk.v rfl) (SsOk.cons (SOk.v rfl) (SsOk.cons (SOk.rep rfl) SsOk.nil)))))⟩ SsOk.nil) (aC_ok (q := (kd, key, dm, data)) (s := (.slice a_61 qn c_62)) (d := drawF df dn u) hq.1 (drawF_len hdf) rfl)) ((aC_ok (q := (kd, key, dm, data)) (s := (.slice a_61 qn c_62)) (d := drawF df dn u) hq.1 (drawF_len hdf) rfl)).head.len ((aC_ok (q := (kd, key, dm, data)) (s := (.slice a_61 qn c_62)) (d := drawF df dn u) hq.1 (drawF_len hdf) rfl)).head.one rfl rfl (fun b_71 w_72 h_73 => ?_)
     refine WL.nil ?_
     refine ⟨(SL.cons (h_73.ok _ M1) (SL.cons (h_73.ok _ M2) (SL.cons (h_73.ok _ M3) (SL.cons (h_73.ok _ M4) (SL.cons (h_73.ok _ M5) (SL.cons (h_73.ok _ M8) (SL.cons (h_73.ok _ M9) (SL.cons (h_73.ok _ M10) (SL.nil _ _))))))))), ?_⟩
     refine WT.s (Op1.one rfl (Wn.no rfl) ?_)
     refine WL.append (km := lg.length + 1) (xs := lx) (ys := aC (kd, key, dm, data) (.slice a_61 qn c_62) (drawF df dn u)) (zs := lx ++ aC (kd, key, dm, data) (.slice a_61 qn c_62) (drawF df dn u)) h_73 rfl rfl el48 (viewB (h_73.ok _ M0) Sg.h) ((aC_ok (q := (kd, key, dm, data)) (s := (.slice a_61 qn c_62)) (d := drawF df dn u) hq.1 (drawF_len hdf) rfl)).head.len ((aC_ok (q := (kd, key, dm, data)) (s := (.slice a_61 qn c_62)) (d := drawF df dn u) hq.1 (drawF_len hdf) rfl)).head.one rfl (by omega) (by omega) (by omega) (fun _ _ => Y7) rfl (fun a_74 c_75 w_76 h_77 => ?_)
     refine WL.nil ?_
     refine ⟨(SL.cons (h_77.ok _ M1) (SL.cons (h_77.ok _ M2) (SL.cons (h_77.ok _ M3) (SL.cons (h_77.ok _ M4) (SL.cons (h_77.ok _ M5) (SL.cons (h_77.ok _ M8) (SL.cons (h_77.ok _ M9) (SL.cons (h_77.ok _ M10) (SL.nil _ _))))))))), ?_⟩
     refine qT rfl rfl (fun wq hS => R.nilCheck rfl) ?_
     refine qT rfl rfl (fun wq hS => R.fieldAddr (b := ob) (off := 0) (off' := 35) rfl Try.underlying64 rfl Try.sizeOf48 rfl rfl) ?_
     refine WT.s (Op1.one rfl (Wn.no rfl) ?_)
     refine WL.store1 (b := ob) (off := 35) (v := (.slice a_74 (lg.length + 1) c_75)) h_77 rfl rfl Try.sizeOf48 rfl Y6 (by decide) (Sg.t rfl (Sg.t rfl (Sg.t rfl (Sg.t rfl Sg.h)))) (fun w_78 h_79 => ?_)
     refine WL.nil ?_
     refine ⟨(SL.cons (h_79.ok _ M1) (SL.cons (h_79.ok _ M2) (SL.cons (h_79.ok _ M3) (SL.cons (h_79.ok _ M4) (SL.cons (h_79.ok _ M5) (SL.cons (h_79.ok _ M8) (SL.cons (h_79.ok _ M9) (SL.cons (h_79.ok _ M10) (SL.nil _ _))))))))), ?_⟩
     refine WT.nil (thn_n ?_)
     exact ⟨(b_71, a_74, c_75), (U4 rfl rfl rfl rfl (U4 rfl rfl rfl rfl (U4 rfl rfl rfl rfl (Ag.refl _ _)))), ⟨rfl, rfl, rfl, rfl, rfl, rfl, rfl, rfl, rfl, rfl, rfl, rfl, trivial⟩, h_79⟩
    ·refine Op1.one rfl (Wn.no rfl) ?_
     refine WL.buildSl (vs := [(0, (.agg ⟨flat [(1, [(vi kd)]), (32, key.map vu8), (1, [(vi dm)]), (1, [(.slice a_61 qn c_62)]), (32, (drawF df dn u).map vu8)]⟩))]) (cs := aC (kd, key, dm, data) (.slice a_61 qn c_62) (drawF df dn u)) h_68 Try.underlying48 Try.sizeOf111 (zv Try.typeInfo111 rfl) rfl rfl (fill_1 (zc := flat [(1, [vi 0]), (32, List.replicate 32 (vu8 0)), (1, [vi 0]), (1, [.slice none 0 0]), (32, List.replicate 32 (vu8 0))]) (by kernel_rfl) (SsOk.cons (s := (67, flat [(1, [vi 0]), (32, List.replicate 32 (vu8 0)), (1, [vi 0]), (1, [.slice none 0 0]), (32, List.replicate 32 (vu8 0))])) ⟨by decide, SsOk.one (SsOk.cons (SOk.v rfl) (SsOk.cons (SOk.rep rfl) (SsOk.cons (SOk.v rfl) (SsOk.cons (SOk.v rfl) (SsOk.cons (SOk.rep rfl) SsOk.nil)))))⟩ SsOk.nil) (aC_ok (q := (kd, key, dm, data)) (s := (.slice a_61 qn c_62)) (d := drawF df dn u) hq.1 (drawF_len hdf) rfl)) ((aC_ok (q := (kd, key, dm, data)) (s := (.slice a_61 qn c_62)) (d := drawF df dn u) hq.1 (drawF_len hdf) rfl)).head.len ((aC_ok (q := (kd, key, dm, data)) (s := (.slice a_61 qn c_62)) (d := drawF df dn u) hq.1 (drawF_len hdf) rfl)).head.one rfl rfl (fun b_80 w_81 h_82 => ?_)
     refine WL.nil ?_
     refine ⟨(SL.cons (h_82.ok _ M1) (SL.cons (h_82.ok _ M2) (SL.cons (h_82.ok _ M3) (SL.cons (h_82.ok _ M4) (SL.cons (h_82.ok _ M5) (SL.cons (h_82.ok _ M8) (SL.cons (h_82.ok _ M9) (SL.cons (h_82.ok _ M10) (SL.nil _ _))))))))), ?_⟩
     refine WT.s (Op1.one rfl (Wn.no rfl) ?_)
     refine qV rfl (R.load1 (b := ob) (off := 35) (v := (.slice la lg.length lc)) rfl Try.isAgg48 (h_82.ok _ M6) (Sg.t rfl (Sg.t rfl (Sg.t rfl (Sg.t rfl Sg.h))))) ?_
     refine WL.nil ?_
     refine ⟨(SL.cons (h_82.ok _ M1) (SL.cons (h_82.ok _ M2) (SL.cons (h_82.ok _ M3) (SL.cons (h_82.ok _ M4) (SL.cons (h_82.ok _ M5) (SL.cons (h_82.ok _ M8) (SL.cons (h_82.ok _ M9) (SL.cons (h_82.ok _ M10) (SL.nil _ _))))))))), ?_⟩
     refine WT.s (Op1.one rfl (Wn.no rfl) ?_)
     refine WL.append (km := lg.length + 1) (xs := lx) (ys := aC (kd, key, dm, data) (.slice a_61 qn c_62) (drawF df dn u)) (zs := lx ++ aC (kd, key, dm, data) (.slice a_61 qn c_62) (drawF df dn u)) h_82 rfl rfl el48 (viewB (h_82.ok _ M0) Sg.h) ((aC_ok (q := (kd, key, dm, data)) (s := (.slice a_61 qn c_62)) (d := drawF df dn u) hq.1 (drawF_len hdf) rfl)).head.len ((aC_ok (q := (kd, key, dm, data)) (s := (.slice a_61 qn c_62)) (d := drawF df dn u) hq.1 (drawF_len hdf) rfl)).head.one rfl (by omega) (by omega) (by omega) (fun _ _ => Y7) rfl (fun a_83 c_84 w_85 h_86 => ?_)
     refine WL.nil ?_
     refine ⟨(SL.cons (h_86.ok _ M1) (SL.cons (h_86.ok _ M2) (SL.cons (h_86.ok _ M3) (SL.cons (h_86.ok _ M4) (SL.cons (h_86.ok _ M5) (SL.cons (h_86.ok _ M8) (SL.cons (h_86.ok _ M9) (SL.cons (h_86.ok _ M10) (SL.nil _ _))))))))), ?_⟩
     refine qT rfl rfl (fun wq hS => R.nilCheck rfl) ?_
     refine qT rfl rfl (fun wq hS => R.fieldAddr (b := ob) (off := 0) (off' := 35) rfl Try.underlying64 rfl Try.sizeOf48 rfl rfl) ?_
     refine WT.s (Op1.one rfl (Wn.no rfl) ?_)
     refine WL.store1 (b := ob) (off := 35) (v := (.slice a_83 (lg.length + 1) c_84)) h_86 rfl rfl Try.sizeOf48 rfl Y6 (by decide) (Sg.t rfl (Sg.t rfl (Sg.t rfl (Sg.t rfl Sg.h)))) (fun w_87 h_88 => ?_)
     refine WL.nil ?_
     refine ⟨(SL.cons (h_88.ok _ M1) (SL.cons (h_88.ok _ M2) (SL.cons (h_88.ok _ M3) (SL.cons (h_88.ok _ M4) (SL.cons (h_88.ok _ M5) (SL.cons (h_88.ok _ M8) (SL.cons (h_88.ok _ M9) (SL.cons (h_88.ok _ M10) (SL.nil _ _))))))))), ?_⟩
     refine WT.nil (thn_n ?_)
     exact ⟨(b_80, a_83, c_84), (U4 rfl rfl rfl rfl (U4 rfl rfl rfl rfl (U4 rfl rfl rfl rfl (Ag.refl _ _)))), ⟨rfl, rfl, rfl, rfl, rfl, rfl, rfl, rfl, rfl, rfl, rfl, rfl, trivial⟩, h_88⟩
   ·rintro ⟨b_92, a_93, c_94⟩ J_89 w_90 h_91
    refine thn_n (WP.seq (WP.reg ?_))
    refine qV rfl (R.loadA (b := b_47) (off := 0) [] [(32, (drawF df dn u).map vu8)] [] (cs := (drawF df dn u).map vu8) rfl Try.isAgg23 Try.sizeOf23 (h_91.ok _ M2) rfl rfl rfl rfl) ?_
    refine WL.storeA (b := b_7) (off := 0) [] [(32, (List.replicate 32 (0 : UInt8)).map vu8)] [(32, (drawF df dn u).map vu8)] [] (ys := (drawF df dn u).map vu8) h_91 rfl rfl Try.sizeOf23 Y3 (by decide) rfl rfl rfl rfl rfl rfl (SsOk.cons (SOk.u8 (drawF_len hdf)) SsOk.nil) (fun w_95 h_96 => ?_)
    refine WL.nil (thn_n (WP.ret ?_))
    refine ret_of Try.results118 (RV.cell rfl (h_96.loadA (cs := (drawF df dn u).map vu8) Try.isAgg23 Try.sizeOf23 M3 rfl rfl) RV.nil) ?_
    have h_111 := ((((((((((((((h_96.drop rfl).up J1).drop rfl).up J1).drop rfl).up J1).drop rfl).up J1).drop rfl).up J5).up J5).up J4).up J4).up J5).up J5
    have h_112 := HP_logPush (q := (kd, key, dm, data)) (d := drawF df dn u) h_111 hq (drawF_len hdf) (lenApp (a := 0) (b := qn) (rfl : List.length ([] : List UInt8) = 0) hdl (by omega) : List.length (([] : List UInt8) ++ data) = qn)
    have h_122 := ((((((((h_112.up J1).drop rfl).up J1).drop rfl).up J4).up J4).up J2).up J4).up J4
    have hmf : mF id df dn u (kd, key, dm, data) = drawF df dn u := by rw [mF, c_52]; rfl
    have hu2 : (bif id then u + 1 else u) = u + 1 := by rw [c_52]; rfl
    have hse : lg.length + 1 = (lg ++ [((kd, key, dm, data), drawF df dn u)]).length := snoc_len.symm
    have h_113 := h_122
    rw [hse] at h_113
    exact ⟨_, _, _, by rw [anD_miss hfd, hmf]; rfl, by rw [anU_miss hfd, anL_miss hfd, hmf, hu2]; exact h_113⟩
  ·refine WP.skip (thn_n (WP.seq (WP.reg ?_)))
   refine qV rfl (R.fieldAddr (b := b_1) (off := 0) (off' := 34) rfl Try.underlying103 rfl Try.sizeOf37 rfl rfl) (qV rfl (R.load1 (b := b_1) (off := 34) (v := (.slice qa qn qc)) rfl Try.isAgg37 (h_51.ok _ M3) (Sg.t rfl (Sg.t rfl (Sg.t rfl Sg.h)))) ?_)
   have h_123 := h_51.rowNil 5 1
   refine WL.append (km := qn) (xs := []) (ys := data.map vu8) (zs := (([] : List UInt8) ++ data).map vu8) h_123 rfl rfl el37 (ownView (h_123.ok _ M9)) ((len_map hdl).trans (Nat.mul_one _).symm) (one_u8 _) (by simp only [List.map_append, List.map_nil]) (by omega) (by omega) (by omega) (fun _ _ => At.h) rfl (fun a_124 c_125 w_126 h_127 => ?_)
   refine qV rfl (R.fieldAddr (b := b_1) (off := 0) (off' := 34) rfl Try.underlying103 rfl Try.sizeOf37 rfl rfl) ?_
   refine WL.store1 (b := b_1) (off := 34) (v := (.slice a_124 qn c_125)) h_127 rfl rfl Try.sizeOf37 rfl Y4 (by decide) (Sg.t rfl (Sg.t rfl (Sg.t rfl Sg.h))) (fun w_128 h_129 => ?_)
   refine WL.nil (thn_n (WP.seq ?_))
   refine WP.cutG (G := Nat × Option Addr × Nat) [58, 59, 60, 61, 62, 63, 64, 65, 66, 67, 68, 69] (fun (bY11Y8Y0Y0, aY11Y9Y0Y0, cY11Y9Y0Y0) => [(58, (pO ob 0)), (59, (pO ob 0)), (60, (pO ob 0)), (61, (pO ob 35)), (63, (.agg ⟨flat [(1, [(vi kd)]), (32, key.map vu8), (1, [(vi dm)]), (1, [(.slice a_124 qn c_125)])]⟩)), (64, (.agg ⟨cd.map vu8⟩)), (65, (.agg ⟨flat [(1, [(vi kd)]), (32, key.map vu8), (1, [(vi dm)]), (1, [(.slice a_124 qn c_125)]), (32, cd.map vu8)]⟩)), (62, (.slice la lg.length lc)), (66, (.slice (some ⟨bY11Y8Y0Y0, 0, none⟩) 1 1)), (67, (.slice aY11Y9Y0Y0 (lg.length + 1) cY11Y9Y0Y0)), (68, (pO ob 0)), (69, (pO ob 35))]) (fun (bY11Y8Y0Y0, aY11Y9Y0Y0, cY11Y9Y0Y0) w1 => HP w00 w1 (Ent.blk bY11Y8Y0Y0 .nw 111 [(67, aC (kd, key, dm, data) (.slice a_124 qn c_125) cd)] :: Ent.row a_124 qn c_125 5 1 ((([] : List UInt8) ++ data).map vu8) :: Ent.blk b_47 .nw 23 [(32, cd.map vu8)] :: Ent.blk b_7 .nw 23 [(32, (List.replicate 32 (0 : UInt8)).map vu8)] :: Ent.blk b_4 .nw 23 [(32, cd.map vu8)] :: Ent.blk b_1 .nw 103 [(1, [(vi kd)]), (32, key.map vu8), (1, [(vi dm)]), (1, [(.slice a_124 qn c_125)])] :: Ent.blk ob .nw 64 [(1, [(.bool id)]), (32, ms.map vu8), (1, [(.slice da dn dc)]), (1, [(vn u)]), (1, [(.slice aY11Y9Y0Y0 (lg.length + 1) cY11Y9Y0Y0)])] :: Ent.row aY11Y9Y0Y0 (lg.length + 1) cY11Y9Y0Y0 111 67 (lx ++ aC (kd, key, dm, data) (.slice a_124 qn c_125) cd) :: Ent.pin (sblks lx) (fun w => Lgs w lx lg) :: Ent.view da (df.map vu8) :: Ent.row qa qn qc 5 1 (data.map vu8) :: L)) ?_ ?_
   ·refine WP.drawT (SL w00.heap.size [.row a_124 qn c_125 5 1 ((([] : List UInt8) ++ data).map vu8), .blk b_47 .nw 23 [(32, cd.map vu8)], .blk b_7 .nw 23 [(32, (List.replicate 32 (0 : UInt8)).map vu8)], .blk b_4 .nw 23 [(32, cd.map vu8)], .blk b_1 .nw 103 [(1, [(vi kd)]), (32, key.map vu8), (1, [(vi dm)]), (1, [(.slice a_124 qn c_125)])], .pin (sblks lx) (fun w => Lgs w lx lg), .view da (df.map vu8), .row qa qn qc 5 1 (data.map vu8)]) (.q 0 (.q 1 (.q 2 (.q 3 (.q 5 (.q 6 (.q 7 (.s2 4 8 (.s 8 (.s 9 (.q 10 (.q 11 (.s 12 .nil))))) (.s 4 (.s 9 (.q 10 (.q 11 (.s 12 .nil))))))))))))) (by kernel_rfl) (by kernel_rfl) rfl (by kernel_rfl) (fun w_130 hc_132 => (SL.cons ((h_129.same hc_132).ok _ M0) (SL.cons ((h_129.same hc_132).ok _ M1) (SL.cons ((h_129.same hc_132).ok _ M2) (SL.cons ((h_129.same hc_132).ok _ M3) (SL.cons ((h_129.same hc_132).ok _ M4) (SL.cons ((h_129.same hc_132).ok _ M7) (SL.cons ((h_129.same hc_132).ok _ M8) (SL.cons ((h_129.same hc_132).ok _ M9) (SL.nil _ _)))))))))) (fun w_130 hc_132 => ?_)
    have h_131 := h_129.same hc_132
    refine qT rfl rfl (fun wq hS => R.move (v := (pO ob 0)) rfl) ?_
    refine qT rfl rfl (fun wq hS => R.move (v := (pO ob 0)) rfl) ?_
    refine qT rfl rfl (fun wq hS => R.nilCheck rfl) ?_
    refine qT rfl rfl (fun wq hS => R.fieldAddr (b := ob) (off := 0) (off' := 35) rfl Try.underlying64 rfl Try.sizeOf48 rfl rfl) ?_
    refine qT rfl rfl (fun wq hS => R.loadA (b := b_1) (off := 0) [] [(1, [(vi kd)]), (32, key.map vu8), (1, [(vi dm)]), (1, [(.slice a_124 qn c_125)])] [] (cs := flat [(1, [(vi kd)]), (32, key.map vu8), (1, [(vi dm)]), (1, [(.slice a_124 qn c_125)])]) rfl Try.isAgg103 Try.sizeOf103 (hS _ M4) rfl rfl rfl rfl) ?_
    refine qT rfl rfl (fun wq hS => R.loadA (b := b_47) (off := 0) [] [(32, cd.map vu8)] [] (cs := cd.map vu8) rfl Try.isAgg23 Try.sizeOf23 (hS _ M1) rfl rfl rfl rfl) ?_
    refine qT rfl rfl (fun wq hS => R.buildS (pl := [(0, 35), (35, 32)]) (zs := [(1, [(vi 0)]), (32, (List.replicate 32 (0 : UInt8)).map vu8), (1, [(vi 0)]), (1, [(.slice none 0 0)]), (32, (List.replicate 32 (0 : UInt8)).map vu8)]) (vs := [(0, (.agg ⟨flat [(1, [(vi kd)]), (32, key.map vu8), (1, [(vi dm)]), (1, [(.slice a_124 qn c_125)])]⟩)), (1, (.agg ⟨cd.map vu8⟩))]) (out := [(1, [(vi kd)]), (32, key.map vu8), (1, [(vi dm)]), (1, [(.slice a_124 qn c_125)]), (32, cd.map vu8)]) (cs := flat [(1, [(vi kd)]), (32, key.map vu8), (1, [(vi dm)]), (1, [(.slice a_124 qn c_125)]), (32, cd.map vu8)]) Try.underlying111 (zv Try.typeInfo111 rfl) rfl (SsOk.cons (SOk.v rfl) (SsOk.cons (SOk.u8 lr) (SsOk.cons (SOk.v rfl) (SsOk.cons (SOk.v rfl) (SsOk.cons (SOk.u8 lr) SsOk.nil))))) (pl111 _ Try.underlying111) rfl (FillR.cons [] [(1, [(vi 0)]), (32, (List.replicate 32 (0 : UInt8)).map vu8), (1, [(vi 0)]), (1, [(.slice none 0 0)])] [(1, [(vi kd)]), (32, key.map vu8), (1, [(vi dm)]), (1, [(.slice a_124 qn c_125)])] [(32, (List.replicate 32 (0 : UInt8)).map vu8)] rfl rfl rfl rfl (SsOk.cons (SOk.v rfl) (SsOk.cons (SOk.u8 hq.1) (SsOk.cons (SOk.v rfl) (SsOk.cons (SOk.v rfl) SsOk.nil)))) rfl rfl rfl (FillR.cons [(1, [(vi kd)]), (32, key.map vu8), (1, [(vi dm)]), (1, [(.slice a_124 qn c_125)])] [(32, (List.replicate 32 (0 : UInt8)).map vu8)] [(32, cd.map vu8)] [] rfl rfl rfl rfl (SsOk.cons (SOk.u8 hcdl) SsOk.nil) rfl rfl rfl FillR.nil)) rfl) ?_
    refine WT.s2 ?_ ?_
    ·refine Op1.one rfl (Wn.no rfl) ?_
     refine qV rfl (R.load1 (b := ob) (off := 35) (v := (.slice la lg.length lc)) rfl Try.isAgg48 (h_131.ok _ M5) (Sg.t rfl (Sg.t rfl (Sg.t rfl (Sg.t rfl Sg.h))))) ?_
     refine WL.nil ?_
     refine ⟨(SL.cons (h_131.ok _ M0) (SL.cons (h_131.ok _ M1) (SL.cons (h_131.ok _ M2) (SL.cons (h_131.ok _ M3) (SL.cons (h_131.ok _ M4) (SL.cons (h_131.ok _ M7) (SL.cons (h_131.ok _ M8) (SL.cons (h_131.ok _ M9) (SL.nil _ _))))))))), ?_⟩
     refine WT.s (Op1.one rfl (Wn.no rfl) ?_)
     refine WL.buildSl (vs := [(0, (.agg ⟨flat [(1, [(vi kd)]), (32, key.map vu8), (1, [(vi dm)]), (1, [(.slice a_124 qn c_125)]), (32, cd.map vu8)]⟩))]) (cs := aC (kd, key, dm, data) (.slice a_124 qn c_125) cd) h_131 Try.underlying48 Try.sizeOf111 (zv Try.typeInfo111 rfl) rfl rfl (fill_1 (zc := flat [(1, [vi 0]), (32, List.replicate 32 (vu8 0)), (1, [vi 0]), (1, [.slice none 0 0]), (32, List.replicate 32 (vu8 0))]) (by kernel_rfl) (SsOk.cons (s := (67, flat [(1, [vi 0]), (32, List.replicate 32 (vu8 0)), (1, [vi 0]), (1, [.slice none 0 0]), (32, List.replicate 32 (vu8 0))])) ⟨by decide, SsOk.one (SsOk.cons (SOk.v rfl) (SsOk.cons (SOk.rep rfl) (SsOk.cons (SOk.v rfl) (SsOk.cons (SOk.v rfl) (SsOk.cons (SOk.rep rfl) SsOk.nil)))))⟩ SsOk.nil) (aC_ok (q := (kd, key, dm, data)) (s := (.slice a_124 qn c_125)) (d := cd) hq.1 hcdl rfl)) ((aC_ok (q := (kd, key, dm, data)) (s := (.slice a_124 qn c_125)) (d := cd) hq.1 hcdl rfl)).head.len ((aC_ok (q := (kd, key, dm, data)) (s := (.slice a_124 qn c_125)) (d := cd) hq.1 hcdl rfl)).head.one rfl rfl (fun b_134 w_135 h_136 => ?_)
     refine WL.nil ?_
     refine ⟨(SL.cons (h_136.ok _ M1) (SL.cons (h_136.ok _ M2) (SL.cons (h_136.ok _ M3) (SL.cons (h_136.ok _ M4) (SL.cons (h_136.ok _ M5) (SL.cons (h_136.ok _ M8) (SL.cons (h_136.ok _ M9) (SL.cons (h_136.ok _ M10) (SL.nil _ _))))))))), ?_⟩
     refine WT.s (Op1.one rfl (Wn.no rfl) ?_)
     refine WL.append (km := lg.length + 1) (xs := lx) (ys := aC (kd, key, dm, data) (.slice a_124 qn c_125) cd) (zs := lx ++ aC (kd, key, dm, data) (.slice a_124 qn c_125) cd) h_136 rfl rfl el48 (viewB (h_136.ok _ M0) Sg.h) ((aC_ok (q := (kd, key, dm, data)) (s := (.slice a_124 qn c_125)) (d := cd) hq.1 hcdl rfl)).head.len ((aC_ok (q := (kd, key, dm, data)) (s := (.slice a_124 qn c_125)) (d := cd) hq.1 hcdl rfl)).head.one rfl (by omega) (by omega) (by omega) (fun _ _ => Y7) rfl (fun a_137 c_138 w_139 h_140 => ?_)
     refine WL.nil ?_
     refine ⟨(SL.cons (h_140.ok _ M1) (SL.cons (h_140.ok _ M2) (SL.cons (h_140.ok _ M3) (SL.cons (h_140.ok _ M4) (SL.cons (h_140.ok _ M5) (SL.cons (h_140.ok _ M8) (SL.cons (h_140.ok _ M9) (SL.cons (h_140.ok _ M10) (SL.nil _ _))))))))), ?_⟩
     refine qT rfl rfl (fun wq hS => R.nilCheck rfl) ?_
     refine qT rfl rfl (fun wq hS => R.fieldAddr (b := ob) (off := 0) (off' := 35) rfl Try.underlying64 rfl Try.sizeOf48 rfl rfl) ?_
     refine WT.s (Op1.one rfl (Wn.no rfl) ?_)
     refine WL.store1 (b := ob) (off := 35) (v := (.slice a_137 (lg.length + 1) c_138)) h_140 rfl rfl Try.sizeOf48 rfl Y6 (by decide) (Sg.t rfl (Sg.t rfl (Sg.t rfl (Sg.t rfl Sg.h)))) (fun w_141 h_142 => ?_)
     refine WL.nil ?_
     refine ⟨(SL.cons (h_142.ok _ M1) (SL.cons (h_142.ok _ M2) (SL.cons (h_142.ok _ M3) (SL.cons (h_142.ok _ M4) (SL.cons (h_142.ok _ M5) (SL.cons (h_142.ok _ M8) (SL.cons (h_142.ok _ M9) (SL.cons (h_142.ok _ M10) (SL.nil _ _))))))))), ?_⟩
     refine WT.nil (thn_n ?_)
     exact ⟨(b_134, a_137, c_138), (U4 rfl rfl rfl rfl (U4 rfl rfl rfl rfl (U4 rfl rfl rfl rfl (Ag.refl _ _)))), ⟨rfl, rfl, rfl, rfl, rfl, rfl, rfl, rfl, rfl, rfl, rfl, rfl, trivial⟩, h_142⟩
    ·refine Op1.one rfl (Wn.no rfl) ?_
     refine WL.buildSl (vs := [(0, (.agg ⟨flat [(1, [(vi kd)]), (32, key.map vu8), (1, [(vi dm)]), (1, [(.slice a_124 qn c_125)]), (32, cd.map vu8)]⟩))]) (cs := aC (kd, key, dm, data) (.slice a_124 qn c_125) cd) h_131 Try.underlying48 Try.sizeOf111 (zv Try.typeInfo111 rfl) rfl rfl (fill_1 (zc := flat [(1, [vi 0]), (32, List.replicate 32 (vu8 0)), (1, [vi 0]), (1, [.slice none 0 0]), (32, List.replicate 32 (vu8 0))]) (by kernel_rfl) (SsOk.cons (s := (67, flat [(1, [vi 0]), (32, List.replicate 32 (vu8 0)), (1, [vi 0]), (1, [.slice none 0 0]), (32, List.replicate 32 (vu8 0))])) ⟨by decide, SsOk.one (SsOk.cons (SOk.v rfl) (SsOk.cons (SOk.rep rfl) (SsOk.cons (SOk.v rfl) (SsOk.cons (SOk.v rfl) (SsOk.cons (SOk.rep rfl) SsOk.nil)))))⟩ SsOk.nil) (aC_ok (q := (kd, key, dm, data)) (s := (.slice a_124 qn c_125)) (d := cd) hq.1 hcdl rfl)) ((aC_ok (q := (kd, key, dm, data)) (s := (.slice a_124 qn c_125)) (d := cd) hq.1 hcdl rfl)).head.len ((aC_ok (q := (kd, key, dm, data)) (s := (.slice a_124 qn c_125)) (d := cd) hq.1 hcdl rfl)).head.one rfl rfl (fun b_143 w_144 h_145 => ?_)
     refine WL.nil ?_
     refine ⟨(SL.cons (h_145.ok _ M1) (SL.cons (h_145.ok _ M2) (SL.cons (h_145.ok _ M3) (SL.cons (h_145.ok _ M4) (SL.cons (h_145.ok _ M5) (SL.cons (h_145.ok _ M8) (SL.cons (h_145.ok _ M9) (SL.cons (h_145.ok _ M10) (SL.nil _ _))))))))), ?_⟩
     refine WT.s (Op1.one rfl (Wn.no rfl) ?_)
     refine qV rfl (R.load1 (b := ob) (off := 35) (v := (.slice la lg.length lc)) rfl Try.isAgg48 (h_145.ok _ M6) (Sg.t rfl (Sg.t rfl (Sg.t rfl (Sg.t rfl Sg.h))))) ?_
     refine WL.nil ?_
     refine ⟨(SL.cons (h_145.ok _ M1) (SL.cons (h_145.ok _ M2) (SL.cons (h_145.ok _ M3) (SL.cons (h_145.ok _ M4) (SL.cons (h_145.ok _ M5) (SL.cons (h_145.ok _ M8) (SL.cons (h_145.ok _ M9) (SL.cons (h_145.ok _ M10) (SL.nil _ _))))))))), ?_⟩
     refine WT.s (Op1.one rfl (Wn.no rfl) ?_)
     refine WL.append (km := lg.length + 1) (xs := lx) (ys := aC (kd, key, dm, data) (.slice a_124 qn c_125) cd) (zs := lx ++ aC (kd, key, dm, data) (.slice a_124 qn c_125) cd) h_145 rfl rfl el48 (viewB (h_145.ok _ M0) Sg.h) ((aC_ok (q := (kd, key, dm, data)) (s := (.slice a_124 qn c_125)) (d := cd) hq.1 hcdl rfl)).head.len ((aC_ok (q := (kd, key, dm, data)) (s := (.slice a_124 qn c_125)) (d := cd) hq.1 hcdl rfl)).head.one rfl (by omega) (by omega) (by omega) (fun _ _ => Y7) rfl (fun a_146 c_147 w_148 h_149 => ?_)
     refine WL.nil ?_
     refine ⟨(SL.cons (h_149.ok _ M1) (SL.cons (h_149.ok _ M2) (SL.cons (h_149.ok _ M3) (SL.cons (h_149.ok _ M4) (SL.cons (h_149.ok _ M5) (SL.cons (h_149.ok _ M8) (SL.cons (h_149.ok _ M9) (SL.cons (h_149.ok _ M10) (SL.nil _ _))))))))), ?_⟩
     refine qT rfl rfl (fun wq hS => R.nilCheck rfl) ?_
     refine qT rfl rfl (fun wq hS => R.fieldAddr (b := ob) (off := 0) (off' := 35) rfl Try.underlying64 rfl Try.sizeOf48 rfl rfl) ?_
     refine WT.s (Op1.one rfl (Wn.no rfl) ?_)
     refine WL.store1 (b := ob) (off := 35) (v := (.slice a_146 (lg.length + 1) c_147)) h_149 rfl rfl Try.sizeOf48 rfl Y6 (by decide) (Sg.t rfl (Sg.t rfl (Sg.t rfl (Sg.t rfl Sg.h)))) (fun w_150 h_151 => ?_)
     refine WL.nil ?_
     refine ⟨(SL.cons (h_151.ok _ M1) (SL.cons (h_151.ok _ M2) (SL.cons (h_151.ok _ M3) (SL.cons (h_151.ok _ M4) (SL.cons (h_151.ok _ M5) (SL.cons (h_151.ok _ M8) (SL.cons (h_151.ok _ M9) (SL.cons (h_151.ok _ M10) (SL.nil _ _))))))))), ?_⟩
     refine WT.nil (thn_n ?_)
     exact ⟨(b_143, a_146, c_147), (U4 rfl rfl rfl rfl (U4 rfl rfl rfl rfl (U4 rfl rfl rfl rfl (Ag.refl _ _)))), ⟨rfl, rfl, rfl, rfl, rfl, rfl, rfl, rfl, rfl, rfl, rfl, rfl, trivial⟩, h_151⟩
   ·rintro ⟨b_155, a_156, c_157⟩ J_152 w_153 h_154
    refine thn_n (WP.seq (WP.reg ?_))
    refine qV rfl (R.loadA (b := b_47) (off := 0) [] [(32, cd.map vu8)] [] (cs := cd.map vu8) rfl Try.isAgg23 Try.sizeOf23 (h_154.ok _ M2) rfl rfl rfl rfl) ?_
    refine WL.storeA (b := b_7) (off := 0) [] [(32, (List.replicate 32 (0 : UInt8)).map vu8)] [(32, cd.map vu8)] [] (ys := cd.map vu8) h_154 rfl rfl Try.sizeOf23 Y3 (by decide) rfl rfl rfl rfl rfl rfl (SsOk.cons (SOk.u8 hcdl) SsOk.nil) (fun w_158 h_159 => ?_)
    refine WL.nil (thn_n (WP.ret ?_))
    refine ret_of Try.results118 (RV.cell rfl (h_159.loadA (cs := cd.map vu8) Try.isAgg23 Try.sizeOf23 M3 rfl rfl) RV.nil) ?_
    have h_174 := ((((((((((((((h_159.drop rfl).up J1).drop rfl).up J1).drop rfl).up J1).drop rfl).up J1).drop rfl).up J5).up J5).up J4).up J4).up J5).up J5
    have h_175 := HP_logPush (q := (kd, key, dm, data)) (d := cd) h_174 hq hcdl (lenApp (a := 0) (b := qn) (rfl : List.length ([] : List UInt8) = 0) hdl (by omega) : List.length (([] : List UInt8) ++ data) = qn)
    have h_185 := ((((((((h_175.up J1).drop rfl).up J1).drop rfl).up J4).up J4).up J2).up J4).up J4
    have hmf : mF id df dn u (kd, key, dm, data) = cd := by rw [mF, c_52]; exact (hcd c_52).symm
    have hu2 : (bif id then u + 1 else u) = u := by rw [c_52]; rfl
    have hse : lg.length + 1 = (lg ++ [((kd, key, dm, data), cd)]).length := snoc_len.symm
    have h_176 := h_185
    rw [hse] at h_176
    exact ⟨_, _, _, by rw [anD_miss hfd, hmf]; rfl, by rw [anU_miss hfd, anL_miss hfd, hmf, hu2]; exact h_176⟩

theorem c_rAsk {w00 : World} {L : List Ent} (id : Bool) (ob : Nat) (ms df : List UInt8) (hms : ms.length = 32) (da : Option Addr) (dn dc u : Nat) (hdf : df.length = 32 * dn) (la : Option Addr) (lc : Nat) (lx : List Value) (lg : Lg) (hu : u ≤ 1000000) (hlg : lg.length ≤ 1000000) (kd dm : Int) (key data : List UInt8) (qa : Option Addr) (qn qc : Nat) (hq : okQ (kd, key, dm, data)) (hdl : data.length = qn) (w : World) (h_0 : HP w00 w (Ent.blk ob .nw 64 [(1, [(.bool id)]), (32, ms.map vu8), (1, [(.slice da dn dc)]), (1, [(vi ((u : Nat) : Int))]), (1, [(.slice la lg.length lc)])] :: Ent.row la lg.length lc 111 67 lx :: Ent.pin (sblks lx) (fun w => Lgs w lx lg) :: Ent.view da (df.map vu8) :: Ent.view qa (data.map vu8) :: L)) :
  Cs Try.prog 106 [(.pointer (some ⟨ob, 0, none⟩)), (.agg ⟨flat [(1, [(vi kd)]), (32, key.map vu8), (1, [(vi dm)]), (1, [(.slice qa qn qc)])]⟩)].toArray w (fun v w1 => ∃ la' lc' lx', v = (.agg ⟨(anD id df dn u lg (kd, key, dm, data)).map vu8⟩) ∧ HP w00 w1 (Ent.blk ob .nw 64 [(1, [(.bool id)]), (32, ms.map vu8), (1, [(.slice da dn dc)]), (1, [(vi (((anU id u lg (kd, key, dm, data)) : Nat) : Int))]), (1, [(.slice la' ((anL id df dn u lg (kd, key, dm, data)).length) lc')])] :: Ent.row la' ((anL id df dn u lg (kd, key, dm, data)).length) lc' 111 67 lx' :: Ent.pin (sblks lx') (fun w => Lgs w lx' (anL id df dn u lg (kd, key, dm, data))) :: Ent.view da (df.map vu8) :: Ent.view qa (data.map vu8) :: L)) := by
 have hk1 : 1 ≤ kd ∧ kd ≤ 4 := hq.2.1
 have hd1 : 1 ≤ dm ∧ dm ≤ 16 := hq.2.2.1
 have hqn : data.length ≤ 1000000000 := hq.2.2.2
 refine Cs.of (n := 26) (args := [(pO ob 0), (.agg ⟨flat [(1, [(vi kd)]), (32, key.map vu8), (1, [(vi dm)]), (1, [(.slice qa qn qc)])]⟩)]) Try.func106 rfl rfl rfl ?_
 refine WP.seq (WP.reg ?_)
 refine WL.box (v := (.agg ⟨flat [(1, [(vi kd)]), (32, key.map vu8), (1, [(vi dm)]), (1, [(.slice qa qn qc)])]⟩)) (segs := [(1, [(vi kd)]), (32, key.map vu8), (1, [(vi dm)]), (1, [(.slice qa qn qc)])]) h_0 rfl rfl (SsOk.cons (SOk.v rfl) (SsOk.cons (SOk.u8 hq.1) (SsOk.cons (SOk.v rfl) (SsOk.cons (SOk.v rfl) SsOk.nil)))) rfl (fun b_1 w_2 h_3 => ?_)
 refine WL.alloc (segs := [(32, (List.replicate 32 (0 : UInt8)).map vu8)]) h_3 (zv Try.typeInfo23 rfl) rfl (SsOk.cons (SOk.u8 lr) SsOk.nil) rfl (fun b_4 w_5 h_6 => ?_)
 refine WL.nil (thn_n (WP.seq (WP.reg ?_)))
 refine WL.alloc (segs := [(32, (List.replicate 32 (0 : UInt8)).map vu8)]) h_6 (zv Try.typeInfo23 rfl) rfl (SsOk.cons (SOk.u8 lr) SsOk.nil) rfl (fun b_7 w_8 h_9 => ?_)
 refine WL.nil (thn_n (WP.seq (WP.seq (WP.reg ?_))))
 refine qM (pO ob 0) rfl rfl (qV rfl (R.nilCheck rfl) (qV rfl (R.fieldAddr (b := ob) (off := 0) (off' := 0) rfl Try.underlying64 rfl Try.sizeOf4 rfl rfl) (qV rfl (R.load1 (b := ob) (off := 0) (v := (.bool id)) rfl Try.isAgg4 (h_9.ok _ M3) Sg.h) (qV rfl (R.not (b := id) rfl) ?_))))
 refine WL.nil (thn_n ?_)
 refine WP.cond (b := !id) rfl (fun c_10 => ?_) (fun c_10 => ?_)
 ·refine WP.seq (WP.reg ?_)
  refine qV rfl (R.fieldAddr (b := b_1) (off := 0) (off' := 0) rfl Try.underlying103 rfl Try.sizeOf101 rfl rfl) (qV rfl (R.load1 (b := b_1) (off := 0) (v := (vi kd)) rfl Try.isAgg101 (h_9.ok _ M2) Sg.h) (qV rfl (R.bin rfl rfl (bi_eql (r := decide ((kd : Int) = 1)) rfl)) ?_))
  refine WL.nil (thn_n ?_)
  refine WP.cond (b := decide ((kd : Int) = 1)) rfl (fun c_11 => ?_) (fun c_11 => ?_)
  ·have p_12 := of_decide_eq_true c_11
   refine WP.reg ?_
   refine qV rfl (R.loadA (b := b_1) (off := 0) [] [(1, [(vi kd)]), (32, key.map vu8), (1, [(vi dm)]), (1, [(.slice qa qn qc)])] [] (cs := flat [(1, [(vi kd)]), (32, key.map vu8), (1, [(vi dm)]), (1, [(.slice qa qn qc)])]) rfl Try.isAgg103 Try.sizeOf103 (h_9.ok _ M2) rfl rfl rfl rfl) ?_
   refine WL.call Try.call116 rfl rfl (c_rText kd dm key data qa qn qc hq hdl _ (viewV (h_9.ok _ M7))) rfl ?_
   rintro _ w_15 ⟨a_13, cap_14, rfl, hc_16, ho_17⟩
   have h_18 := h_9.gotRow hc_16 ho_17
   refine WL.call Try.call115 rfl rfl (c_SumR a_13 (34 + qn) cap_14 (cT (kd, key, dm, data)) (cT_len hq hdl) (by omega) _ (ownView (h_18.ok _ M0))) rfl ?_
   rintro _ w_20 ⟨rfl, hc_19⟩
   have h_21 := h_18.same hc_19
   refine WL.storeA (b := b_7) (off := 0) [] [(32, (List.replicate 32 (0 : UInt8)).map vu8)] [(32, (sumL (cT (kd, key, dm, data))).map vu8)] [] (ys := (sumL (cT (kd, key, dm, data))).map vu8) h_21 rfl rfl Try.sizeOf23 Y1 (by decide) rfl rfl rfl rfl rfl rfl (SsOk.cons (SOk.u8 (sumL_len _)) SsOk.nil) (fun w_22 h_23 => ?_)
   refine WL.nil (thn_n (WP.seq (WP.reg ?_)))
   refine qM (pO ob 0) rfl rfl (qV rfl (R.loadA (b := b_1) (off := 0) [] [(1, [(vi kd)]), (32, key.map vu8), (1, [(vi dm)]), (1, [(.slice qa qn qc)])] [] (cs := flat [(1, [(vi kd)]), (32, key.map vu8), (1, [(vi dm)]), (1, [(.slice qa qn qc)])]) rfl Try.isAgg103 Try.sizeOf103 (h_23.ok _ M3) rfl rfl rfl rfl) (qV rfl (R.loadA (b := b_7) (off := 0) [] [(32, (sumL (cT (kd, key, dm, data))).map vu8)] [] (cs := (sumL (cT (kd, key, dm, data))).map vu8) rfl Try.isAgg23 Try.sizeOf23 (h_23.ok _ M1) rfl rfl rfl rfl) ?_))
   have h_28 := ((((h_23.up J8).up J8).up J8).up J8).up J8
   have h32_w_32 := (Lgs.ok32 (h_28.ok _ M2).1)
   refine WL.call Try.call118 rfl rfl (c_rAns id ob ms df hms da dn dc u hdf la lc lx lg hu hlg kd dm key data qa qn qc hq hdl (sumL (cT (kd, key, dm, data))) (sumL_len _) (fun _ => by rw [cF, if_pos p_12]) _ h_28) rfl ?_
   rintro _ w_32 ⟨la_29, lc_30, lx_31, rfl, h_33⟩
   refine WL.storeA (b := b_4) (off := 0) [] [(32, (List.replicate 32 (0 : UInt8)).map vu8)] [(32, (anD id df dn u lg (kd, key, dm, data)).map vu8)] [] (ys := (anD id df dn u lg (kd, key, dm, data)).map vu8) h_33 rfl rfl Try.sizeOf23 Y7 (by decide) rfl rfl rfl rfl rfl rfl (SsOk.cons (SOk.u8 (anD_len hdf h32_w_32)) SsOk.nil) (fun w_34 h_35 => ?_)
   refine WL.nil (thn_n (WP.ret ?_))
   refine ret_of Try.results106 (RV.cell rfl (h_35.loadA (cs := (anD id df dn u lg (kd, key, dm, data)).map vu8) Try.isAgg23 Try.sizeOf23 M7 rfl rfl) RV.nil) ?_
   have h_48 := ((((((((((((h_35.up J5).drop rfl).up J5).drop rfl).up J5).drop rfl).up J5).drop rfl).up J4).up J4).up J4).up J4).up J4
   exact ⟨_, _, _, rfl, h_48⟩
  ·have p_49 := of_decide_eq_false c_11
   refine WP.drawZ 5 (SL w00.heap.size [.blk b_7 .nw 23 [(32, (List.replicate 32 (0 : UInt8)).map vu8)], .blk b_4 .nw 23 [(32, (List.replicate 32 (0 : UInt8)).map vu8)], .blk b_1 .nw 103 [(1, [(vi kd)]), (32, key.map vu8), (1, [(vi dm)]), (1, [(.slice qa qn qc)])], .blk ob .nw 64 [(1, [(.bool id)]), (32, ms.map vu8), (1, [(.slice da dn dc)]), (1, [(vn u)]), (1, [(.slice la lg.length lc)])], .row la lg.length lc 111 67 lx, .pin (sblks lx) (fun w => Lgs w lx lg), .view da (df.map vu8), .view qa (data.map vu8)]) (.q 0 (.q 1 (.q 2 (.s 3 (.s 4 (.s 5 .nil)))))) (by kernel_rfl) (by kernel_rfl) rfl (by kernel_rfl) (fun w_50 hc_52 => (SL.cons ((h_9.same hc_52).ok _ M0) (SL.cons ((h_9.same hc_52).ok _ M1) (SL.cons ((h_9.same hc_52).ok _ M2) (SL.cons ((h_9.same hc_52).ok _ M3) (SL.cons ((h_9.same hc_52).ok _ M4) (SL.cons ((h_9.same hc_52).ok _ M5) (SL.cons ((h_9.same hc_52).ok _ M6) (SL.cons ((h_9.same hc_52).ok _ M7) (SL.nil _ _)))))))))) (fun w_50 hc_52 => ?_)
   have h_51 := h_9.same hc_52
   refine ZT.q rfl (Wn.no rfl) rfl rfl (fun wq hS => R.fieldAddr (b := b_1) (off := 0) (off' := 1) rfl Try.underlying103 rfl Try.sizeOf23 rfl rfl) ?_
   refine ZT.q rfl (Wn.no rfl) rfl rfl (fun wq hS => R.sliceA (b := b_1) (off := 1) (off' := 1) (l := 0) (h := 32) rfl EvB.dflt EvB.dflt (by decide) (by decide) Try.underlying23 Try.sizeOf5 rfl) ?_
   refine ZT.q rfl (Wn.no rfl) rfl rfl (fun wq hS => R.loadA (b := b_1) (off := 0) [] [(1, [(vi kd)]), (32, key.map vu8), (1, [(vi dm)]), (1, [(.slice qa qn qc)])] [] (cs := flat [(1, [(vi kd)]), (32, key.map vu8), (1, [(vi dm)]), (1, [(.slice qa qn qc)])]) rfl Try.isAgg103 Try.sizeOf103 (hS _ M2) rfl rfl rfl rfl) ?_
   refine ZT.s ?_
   refine OpZ.one rfl (Wn.no rfl) ?_
   refine WL.call Try.call116 rfl rfl (c_rText kd dm key data qa qn qc hq hdl _ (viewV (h_51.ok _ M7))) rfl ?_
   rintro _ w_55 ⟨a_53, cap_54, rfl, hc_56, ho_57⟩
   have h_58 := h_51.gotRow hc_56 ho_57
   refine WL.nil ?_
   refine ⟨(SL.cons (h_58.ok _ M1) (SL.cons (h_58.ok _ M2) (SL.cons (h_58.ok _ M3) (SL.cons (h_58.ok _ M4) (SL.cons (h_58.ok _ M5) (SL.cons (h_58.ok _ M6) (SL.cons (h_58.ok _ M7) (SL.cons (h_58.ok _ M8) (SL.nil _ _))))))))), ?_⟩
   refine ZT.s ?_
   refine OpZ.one rfl (Wn.no rfl) ?_
   refine WL.call Try.call117 rfl rfl (c_TagR (some ⟨b_1, 1, none⟩) 32 32 key hq.1 (by decide) (by decide) a_53 (34 + qn) cap_54 (cT (kd, key, dm, data)) (cT_len hq hdl) (h_58.own M0).2.2.1 (by omega) _ (viewB (h_58.ok _ M3) (Sg.t rfl Sg.h)) (ownView (h_58.ok _ M0))) rfl ?_
   rintro _ w_60 ⟨rfl, hc_59⟩
   have h_61 := h_58.same hc_59
   refine WL.nil ?_
   refine ⟨(SL.cons (h_61.ok _ M1) (SL.cons (h_61.ok _ M2) (SL.cons (h_61.ok _ M3) (SL.cons (h_61.ok _ M4) (SL.cons (h_61.ok _ M5) (SL.cons (h_61.ok _ M6) (SL.cons (h_61.ok _ M7) (SL.cons (h_61.ok _ M8) (SL.nil _ _))))))))), ?_⟩
   refine ZT.s ?_
   refine OpZ.last rfl (Wn.no rfl) ?_
   refine WL.storeA (b := b_7) (off := 0) [] [(32, (List.replicate 32 (0 : UInt8)).map vu8)] [(32, (tagL key (cT (kd, key, dm, data))).map vu8)] [] (ys := (tagL key (cT (kd, key, dm, data))).map vu8) h_61 rfl rfl Try.sizeOf23 Y1 (by decide) rfl rfl rfl rfl rfl rfl (SsOk.cons (SOk.u8 (tagL_len _ _)) SsOk.nil) (fun w_62 h_63 => ?_)
   refine WL.nil (ZT.nil (thn_n (WP.seq (WP.reg ?_))))
   refine qM (pO ob 0) rfl rfl (qV rfl (R.loadA (b := b_1) (off := 0) [] [(1, [(vi kd)]), (32, key.map vu8), (1, [(vi dm)]), (1, [(.slice qa qn qc)])] [] (cs := flat [(1, [(vi kd)]), (32, key.map vu8), (1, [(vi dm)]), (1, [(.slice qa qn qc)])]) rfl Try.isAgg103 Try.sizeOf103 (h_63.ok _ M3) rfl rfl rfl rfl) (qV rfl (R.loadA (b := b_7) (off := 0) [] [(32, (tagL key (cT (kd, key, dm, data))).map vu8)] [] (cs := (tagL key (cT (kd, key, dm, data))).map vu8) rfl Try.isAgg23 Try.sizeOf23 (h_63.ok _ M1) rfl rfl rfl rfl) ?_))
   have h_68 := ((((h_63.up J8).up J8).up J8).up J8).up J8
   have h32_w_72 := (Lgs.ok32 (h_68.ok _ M2).1)
   refine WL.call Try.call118 rfl rfl (c_rAns id ob ms df hms da dn dc u hdf la lc lx lg hu hlg kd dm key data qa qn qc hq hdl (tagL key (cT (kd, key, dm, data))) (tagL_len _ _) (fun _ => by rw [cF, if_neg p_49]) _ h_68) rfl ?_
   rintro _ w_72 ⟨la_69, lc_70, lx_71, rfl, h_73⟩
   refine WL.storeA (b := b_4) (off := 0) [] [(32, (List.replicate 32 (0 : UInt8)).map vu8)] [(32, (anD id df dn u lg (kd, key, dm, data)).map vu8)] [] (ys := (anD id df dn u lg (kd, key, dm, data)).map vu8) h_73 rfl rfl Try.sizeOf23 Y7 (by decide) rfl rfl rfl rfl rfl rfl (SsOk.cons (SOk.u8 (anD_len hdf h32_w_72)) SsOk.nil) (fun w_74 h_75 => ?_)
   refine WL.nil (thn_n (WP.ret ?_))
   refine ret_of Try.results106 (RV.cell rfl (h_75.loadA (cs := (anD id df dn u lg (kd, key, dm, data)).map vu8) Try.isAgg23 Try.sizeOf23 M7 rfl rfl) RV.nil) ?_
   have h_88 := ((((((((((((h_75.up J5).drop rfl).up J5).drop rfl).up J5).drop rfl).up J5).drop rfl).up J4).up J4).up J4).up J4).up J4
   exact ⟨_, _, _, rfl, h_88⟩
 ·refine WP.skip (thn_n (WP.seq (WP.reg ?_)))
  refine qM (pO ob 0) rfl rfl (qV rfl (R.loadA (b := b_1) (off := 0) [] [(1, [(vi kd)]), (32, key.map vu8), (1, [(vi dm)]), (1, [(.slice qa qn qc)])] [] (cs := flat [(1, [(vi kd)]), (32, key.map vu8), (1, [(vi dm)]), (1, [(.slice qa qn qc)])]) rfl Try.isAgg103 Try.sizeOf103 (h_9.ok _ M2) rfl rfl rfl rfl) (qV rfl (R.loadA (b := b_7) (off := 0) [] [(32, (List.replicate 32 (0 : UInt8)).map vu8)] [] (cs := (List.replicate 32 (0 : UInt8)).map vu8) rfl Try.isAgg23 Try.sizeOf23 (h_9.ok _ M0) rfl rfl rfl rfl) ?_))
  have h_93 := ((((h_9.up J7).up J7).up J7).up J7).up J7
  have h32_w_97 := (Lgs.ok32 (h_93.ok _ M2).1)
  refine WL.call Try.call118 rfl rfl (c_rAns id ob ms df hms da dn dc u hdf la lc lx lg hu hlg kd dm key data qa qn qc hq hdl (List.replicate 32 (0 : UInt8)) lr (fun h => by rw [h] at c_10; cases c_10) _ h_93) rfl ?_
  rintro _ w_97 ⟨la_94, lc_95, lx_96, rfl, h_98⟩
  refine WL.storeA (b := b_4) (off := 0) [] [(32, (List.replicate 32 (0 : UInt8)).map vu8)] [(32, (anD id df dn u lg (kd, key, dm, data)).map vu8)] [] (ys := (anD id df dn u lg (kd, key, dm, data)).map vu8) h_98 rfl rfl Try.sizeOf23 Y6 (by decide) rfl rfl rfl rfl rfl rfl (SsOk.cons (SOk.u8 (anD_len hdf h32_w_97)) SsOk.nil) (fun w_99 h_100 => ?_)
  refine WL.nil (thn_n (WP.ret ?_))
  refine ret_of Try.results106 (RV.cell rfl (h_100.loadA (cs := (anD id df dn u lg (kd, key, dm, data)).map vu8) Try.isAgg23 Try.sizeOf23 M6 rfl rfl) RV.nil) ?_
  have h_111 := ((((((((((h_100.up J5).drop rfl).up J5).drop rfl).up J5).drop rfl).up J4).up J4).up J4).up J4).up J4
  exact ⟨_, _, _, rfl, h_111⟩

theorem c_rAsk_r {w00 : World} {L : List Ent} (id : Bool) (ob : Nat) (ms df : List UInt8) (hms : ms.length = 32) (da : Option Addr) (dn dc u : Nat) (hdf : df.length = 32 * dn) (la : Option Addr) (lc : Nat) (lx : List Value) (lg : Lg) (hu : u ≤ 1000000) (hlg : lg.length ≤ 1000000) (kd dm : Int) (key data : List UInt8) (qa : Option Addr) (qn qc : Nat) (hq : okQ (kd, key, dm, data)) (hdl : data.length = qn) (w : World) (h_0 : HP w00 w (Ent.blk ob .nw 64 [(1, [(.bool id)]), (32, ms.map vu8), (1, [(.slice da dn dc)]), (1, [(vi ((u : Nat) : Int))]), (1, [(.slice la lg.length lc)])] :: Ent.row la lg.length lc 111 67 lx :: Ent.pin (sblks lx) (fun w => Lgs w lx lg) :: Ent.view da (df.map vu8) :: Ent.row qa qn qc 5 1 (data.map vu8) :: L)) :
  Cs Try.prog 106 [(.pointer (some ⟨ob, 0, none⟩)), (.agg ⟨flat [(1, [(vi kd)]), (32, key.map vu8), (1, [(vi dm)]), (1, [(.slice qa qn qc)])]⟩)].toArray w (fun v w1 => ∃ la' lc' lx', v = (.agg ⟨(anD id df dn u lg (kd, key, dm, data)).map vu8⟩) ∧ HP w00 w1 (Ent.blk ob .nw 64 [(1, [(.bool id)]), (32, ms.map vu8), (1, [(.slice da dn dc)]), (1, [(vi (((anU id u lg (kd, key, dm, data)) : Nat) : Int))]), (1, [(.slice la' ((anL id df dn u lg (kd, key, dm, data)).length) lc')])] :: Ent.row la' ((anL id df dn u lg (kd, key, dm, data)).length) lc' 111 67 lx' :: Ent.pin (sblks lx') (fun w => Lgs w lx' (anL id df dn u lg (kd, key, dm, data))) :: Ent.view da (df.map vu8) :: Ent.row qa qn qc 5 1 (data.map vu8) :: L)) := by
 have hk1 : 1 ≤ kd ∧ kd ≤ 4 := hq.2.1
 have hd1 : 1 ≤ dm ∧ dm ≤ 16 := hq.2.2.1
 have hqn : data.length ≤ 1000000000 := hq.2.2.2
 refine Cs.of (n := 26) (args := [(pO ob 0), (.agg ⟨flat [(1, [(vi kd)]), (32, key.map vu8), (1, [(vi dm)]), (1, [(.slice qa qn qc)])]⟩)]) Try.func106 rfl rfl rfl ?_
 refine WP.seq (WP.reg ?_)
 refine WL.box (v := (.agg ⟨flat [(1, [(vi kd)]), (32, key.map vu8), (1, [(vi dm)]), (1, [(.slice qa qn qc)])]⟩)) (segs := [(1, [(vi kd)]), (32, key.map vu8), (1, [(vi dm)]), (1, [(.slice qa qn qc)])]) h_0 rfl rfl (SsOk.cons (SOk.v rfl) (SsOk.cons (SOk.u8 hq.1) (SsOk.cons (SOk.v rfl) (SsOk.cons (SOk.v rfl) SsOk.nil)))) rfl (fun b_1 w_2 h_3 => ?_)
 refine WL.alloc (segs := [(32, (List.replicate 32 (0 : UInt8)).map vu8)]) h_3 (zv Try.typeInfo23 rfl) rfl (SsOk.cons (SOk.u8 lr) SsOk.nil) rfl (fun b_4 w_5 h_6 => ?_)
 refine WL.nil (thn_n (WP.seq (WP.reg ?_)))
 refine WL.alloc (segs := [(32, (List.replicate 32 (0 : UInt8)).map vu8)]) h_6 (zv Try.typeInfo23 rfl) rfl (SsOk.cons (SOk.u8 lr) SsOk.nil) rfl (fun b_7 w_8 h_9 => ?_)
 refine WL.nil (thn_n (WP.seq (WP.seq (WP.reg ?_))))
 refine qM (pO ob 0) rfl rfl (qV rfl (R.nilCheck rfl) (qV rfl (R.fieldAddr (b := ob) (off := 0) (off' := 0) rfl Try.underlying64 rfl Try.sizeOf4 rfl rfl) (qV rfl (R.load1 (b := ob) (off := 0) (v := (.bool id)) rfl Try.isAgg4 (h_9.ok _ M3) Sg.h) (qV rfl (R.not (b := id) rfl) ?_))))
 refine WL.nil (thn_n ?_)
 refine WP.cond (b := !id) rfl (fun c_10 => ?_) (fun c_10 => ?_)
 ·refine WP.seq (WP.reg ?_)
  refine qV rfl (R.fieldAddr (b := b_1) (off := 0) (off' := 0) rfl Try.underlying103 rfl Try.sizeOf101 rfl rfl) (qV rfl (R.load1 (b := b_1) (off := 0) (v := (vi kd)) rfl Try.isAgg101 (h_9.ok _ M2) Sg.h) (qV rfl (R.bin rfl rfl (bi_eql (r := decide ((kd : Int) = 1)) rfl)) ?_))
  refine WL.nil (thn_n ?_)
  refine WP.cond (b := decide ((kd : Int) = 1)) rfl (fun c_11 => ?_) (fun c_11 => ?_)
  ·have p_12 := of_decide_eq_true c_11
   refine WP.reg ?_
   refine qV rfl (R.loadA (b := b_1) (off := 0) [] [(1, [(vi kd)]), (32, key.map vu8), (1, [(vi dm)]), (1, [(.slice qa qn qc)])] [] (cs := flat [(1, [(vi kd)]), (32, key.map vu8), (1, [(vi dm)]), (1, [(.slice qa qn qc)])]) rfl Try.isAgg103 Try.sizeOf103 (h_9.ok _ M2) rfl rfl rfl rfl) ?_
   refine WL.call Try.call116 rfl rfl (c_rText kd dm key data qa qn qc hq hdl _ (ownView (h_9.ok _ M7))) rfl ?_
   rintro _ w_15 ⟨a_13, cap_14, rfl, hc_16, ho_17⟩
   have h_18 := h_9.gotRow hc_16 ho_17
   refine WL.call Try.call115 rfl rfl (c_SumR a_13 (34 + qn) cap_14 (cT (kd, key, dm, data)) (cT_len hq hdl) (by omega) _ (ownView (h_18.ok _ M0))) rfl ?_
   rintro _ w_20 ⟨rfl, hc_19⟩
   have h_21 := h_18.same hc_19
   refine WL.storeA (b := b_7) (off := 0) [] [(32, (List.replicate 32 (0 : UInt8)).map vu8)] [(32, (sumL (cT (kd, key, dm, data))).map vu8)] [] (ys := (sumL (cT (kd, key, dm, data))).map vu8) h_21 rfl rfl Try.sizeOf23 Y1 (by decide) rfl rfl rfl rfl rfl rfl (SsOk.cons (SOk.u8 (sumL_len _)) SsOk.nil) (fun w_22 h_23 => ?_)
   refine WL.nil (thn_n (WP.seq (WP.reg ?_)))
   refine qM (pO ob 0) rfl rfl (qV rfl (R.loadA (b := b_1) (off := 0) [] [(1, [(vi kd)]), (32, key.map vu8), (1, [(vi dm)]), (1, [(.slice qa qn qc)])] [] (cs := flat [(1, [(vi kd)]), (32, key.map vu8), (1, [(vi dm)]), (1, [(.slice qa qn qc)])]) rfl Try.isAgg103 Try.sizeOf103 (h_23.ok _ M3) rfl rfl rfl rfl) (qV rfl (R.loadA (b := b_7) (off := 0) [] [(32, (sumL (cT (kd, key, dm, data))).map vu8)] [] (cs := (sumL (cT (kd, key, dm, data))).map vu8) rfl Try.isAgg23 Try.sizeOf23 (h_23.ok _ M1) rfl rfl rfl rfl) ?_))
   have h_28 := ((((h_23.up J8).up J8).up J8).up J8).up J8
   have h32_w_32 := (Lgs.ok32 (h_28.ok _ M2).1)
   refine WL.call Try.call118 rfl rfl (c_rAns_r id ob ms df hms da dn dc u hdf la lc lx lg hu hlg kd dm key data qa qn qc hq hdl (sumL (cT (kd, key, dm, data))) (sumL_len _) (fun _ => by rw [cF, if_pos p_12]) _ h_28) rfl ?_
   rintro _ w_32 ⟨la_29, lc_30, lx_31, rfl, h_33⟩
   refine WL.storeA (b := b_4) (off := 0) [] [(32, (List.replicate 32 (0 : UInt8)).map vu8)] [(32, (anD id df dn u lg (kd, key, dm, data)).map vu8)] [] (ys := (anD id df dn u lg (kd, key, dm, data)).map vu8) h_33 rfl rfl Try.sizeOf23 Y7 (by decide) rfl rfl rfl rfl rfl rfl (SsOk.cons (SOk.u8 (anD_len hdf h32_w_32)) SsOk.nil) (fun w_34 h_35 => ?_)
   refine WL.nil (thn_n (WP.ret ?_))
   refine ret_of Try.results106 (RV.cell rfl (h_35.loadA (cs := (anD id df dn u lg (kd, key, dm, data)).map vu8) Try.isAgg23 Try.sizeOf23 M7 rfl rfl) RV.nil) ?_
   have h_48 := ((((((((((((h_35.up J5).drop rfl).up J5).drop rfl).up J5).drop rfl).up J5).drop rfl).up J4).up J4).up J4).up J4).up J4
   exact ⟨_, _, _, rfl, h_48⟩
  ·have p_49 := of_decide_eq_false c_11
   refine WP.drawZ 5 (SL w00.heap.size [.blk b_7 .nw 23 [(32, (List.replicate 32 (0 : UInt8)).map vu8)], .blk b_4 .nw 23 [(32, (List.replicate 32 (0 : UInt8)).map vu8)], .blk b_1 .nw 103 [(1, [(vi kd)]), (32, key.map vu8), (1, [(vi dm)]), (1, [(.slice qa qn qc)])], .blk ob .nw 64 [(1, [(.bool id)]), (32, ms.map vu8), (1, [(.slice da dn dc)]), (1, [(vn u)]), (1, [(.slice la lg.length lc)])], .row la lg.length lc 111 67 lx, .pin (sblks lx) (fun w => Lgs w lx lg), .view da (df.map vu8), .row qa qn qc 5 1 (data.map vu8)]) (.q 0 (.q 1 (.q 2 (.s 3 (.s 4 (.s 5 .nil)))))) (by kernel_rfl) (by kernel_rfl) rfl (by kernel_rfl) (fun w_50 hc_52 => (SL.cons ((h_9.same hc_52).ok _ M0) (SL.cons ((h_9.same hc_52).ok _ M1) (SL.cons ((h_9.same hc_52).ok _ M2) (SL.cons ((h_9.same hc_52).ok _ M3) (SL.cons ((h_9.same hc_52).ok _ M4) (SL.cons ((h_9.same hc_52).ok _ M5) (SL.cons ((h_9.same hc_52).ok _ M6) (SL.cons ((h_9.same hc_52).ok _ M7) (SL.nil _ _)))))))))) (fun w_50 hc_52 => ?_)
   have h_51 := h_9.same hc_52
   refine ZT.q rfl (Wn.no rfl) rfl rfl (fun wq hS => R.fieldAddr (b := b_1) (off := 0) (off' := 1) rfl Try.underlying103 rfl Try.sizeOf23 rfl rfl) ?_
   refine ZT.q rfl (Wn.no rfl) rfl rfl (fun wq hS => R.sliceA (b := b_1) (off := 1) (off' := 1) (l := 0) (h := 32) rfl EvB.dflt EvB.dflt (by decide) (by decide) Try.underlying23 Try.sizeOf5 rfl) ?_
   refine ZT.q rfl (Wn.no rfl) rfl rfl (fun wq hS => R.loadA (b := b_1) (off := 0) [] [(1, [(vi kd)]), (32, key.map vu8), (1, [(vi dm)]), (1, [(.slice qa qn qc)])] [] (cs := flat [(1, [(vi kd)]), (32, key.map vu8), (1, [(vi dm)]), (1, [(.slice qa qn qc)])]) rfl Try.isAgg103 Try.sizeOf103 (hS _ M2) rfl rfl rfl rfl) ?_
   refine ZT.s ?_
   refine OpZ.one rfl (Wn.no rfl) ?_
   refine WL.call Try.call116 rfl rfl (c_rText kd dm key data qa qn qc hq hdl _ (ownView (h_51.ok _ M7))) rfl ?_
   rintro _ w_55 ⟨a_53, cap_54, rfl, hc_56, ho_57⟩
   have h_58 := h_51.gotRow hc_56 ho_57
   refine WL.nil ?_
   refine ⟨(SL.cons (h_58.ok _ M1) (SL.cons (h_58.ok _ M2) (SL.cons (h_58.ok _ M3) (SL.cons (h_58.ok _ M4) (SL.cons (h_58.ok _ M5) (SL.cons (h_58.ok _ M6) (SL.cons (h_58.ok _ M7) (SL.cons (h_58.ok _ M8) (SL.nil _ _))))))))), ?_⟩
   refine ZT.s ?_
   refine OpZ.one rfl (Wn.no rfl) ?_
   refine WL.call Try.call117 rfl rfl (c_TagR (some ⟨b_1, 1, none⟩) 32 32 key hq.1 (by decide) (by decide) a_53 (34 + qn) cap_54 (cT (kd, key, dm, data)) (cT_len hq hdl) (h_58.own M0).2.2.1 (by omega) _ (viewB (h_58.ok _ M3) (Sg.t rfl Sg.h)) (ownView (h_58.ok _ M0))) rfl ?_
   rintro _ w_60 ⟨rfl, hc_59⟩
   have h_61 := h_58.same hc_59
   refine WL.nil ?_
   refine ⟨(SL.cons (h_61.ok _ M1) (SL.cons (h_61.ok _ M2) (SL.cons (h_61.ok _ M3) (SL.cons (h_61.ok _ M4) (SL.cons (h_61.ok _ M5) (SL.cons (h_61.ok _ M6) (SL.cons (h_61.ok _ M7) (SL.cons (h_61.ok _ M8) (SL.nil _ _))))))))), ?_⟩
   refine ZT.s ?_
   refine OpZ.last rfl (Wn.no rfl) ?_
   refine WL.storeA (b := b_7) (off := 0) [] [(32, (List.replicate 32 (0 : UInt8)).map vu8)] [(32, (tagL key (cT (kd, key, dm, data))).map vu8)] [] (ys := (tagL key (cT (kd, key, dm, data))).map vu8) h_61 rfl rfl Try.sizeOf23 Y1 (by decide) rfl rfl rfl rfl rfl rfl (SsOk.cons (SOk.u8 (tagL_len _ _)) SsOk.nil) (fun w_62 h_63 => ?_)
   refine WL.nil (ZT.nil (thn_n (WP.seq (WP.reg ?_))))
   refine qM (pO ob 0) rfl rfl (qV rfl (R.loadA (b := b_1) (off := 0) [] [(1, [(vi kd)]), (32, key.map vu8), (1, [(vi dm)]), (1, [(.slice qa qn qc)])] [] (cs := flat [(1, [(vi kd)]), (32, key.map vu8), (1, [(vi dm)]), (1, [(.slice qa qn qc)])]) rfl Try.isAgg103 Try.sizeOf103 (h_63.ok _ M3) rfl rfl rfl rfl) (qV rfl (R.loadA (b := b_7) (off := 0) [] [(32, (tagL key (cT (kd, key, dm, data))).map vu8)] [] (cs := (tagL key (cT (kd, key, dm, data))).map vu8) rfl Try.isAgg23 Try.sizeOf23 (h_63.ok _ M1) rfl rfl rfl rfl) ?_))
   have h_68 := ((((h_63.up J8).up J8).up J8).up J8).up J8
   have h32_w_72 := (Lgs.ok32 (h_68.ok _ M2).1)
   refine WL.call Try.call118 rfl rfl (c_rAns_r id ob ms df hms da dn dc u hdf la lc lx lg hu hlg kd dm key data qa qn qc hq hdl (tagL key (cT (kd, key, dm, data))) (tagL_len _ _) (fun _ => by rw [cF, if_neg p_49]) _ h_68) rfl ?_
   rintro _ w_72 ⟨la_69, lc_70, lx_71, rfl, h_73⟩
   refine WL.storeA (b := b_4) (off := 0) [] [(32, (List.replicate 32 (0 : UInt8)).map vu8)] [(32, (anD id df dn u lg (kd, key, dm, data)).map vu8)] [] (ys := (anD id df dn u lg (kd, key, dm, data)).map vu8) h_73 rfl rfl Try.sizeOf23 Y7 (by decide) rfl rfl rfl rfl rfl rfl (SsOk.cons (SOk.u8 (anD_len hdf h32_w_72)) SsOk.nil) (fun w_74 h_75 => ?_)
   refine WL.nil (thn_n (WP.ret ?_))
   refine ret_of Try.results106 (RV.cell rfl (h_75.loadA (cs := (anD id df dn u lg (kd, key, dm, data)).map vu8) Try.isAgg23 Try.sizeOf23 M7 rfl rfl) RV.nil) ?_
   have h_88 := ((((((((((((h_75.up J5).drop rfl).up J5).drop rfl).up J5).drop rfl).up J5).drop rfl).up J4).up J4).up J4).up J4).up J4
   exact ⟨_, _, _, rfl, h_88⟩
 ·refine WP.skip (thn_n (WP.seq (WP.reg ?_)))
  refine qM (pO ob 0) rfl rfl (qV rfl (R.loadA (b := b_1) (off := 0) [] [(1, [(vi kd)]), (32, key.map vu8), (1, [(vi dm)]), (1, [(.slice qa qn qc)])] [] (cs := flat [(1, [(vi kd)]), (32, key.map vu8), (1, [(vi dm)]), (1, [(.slice qa qn qc)])]) rfl Try.isAgg103 Try.sizeOf103 (h_9.ok _ M2) rfl rfl rfl rfl) (qV rfl (R.loadA (b := b_7) (off := 0) [] [(32, (List.replicate 32 (0 : UInt8)).map vu8)] [] (cs := (List.replicate 32 (0 : UInt8)).map vu8) rfl Try.isAgg23 Try.sizeOf23 (h_9.ok _ M0) rfl rfl rfl rfl) ?_))
  have h_93 := ((((h_9.up J7).up J7).up J7).up J7).up J7
  have h32_w_97 := (Lgs.ok32 (h_93.ok _ M2).1)
  refine WL.call Try.call118 rfl rfl (c_rAns_r id ob ms df hms da dn dc u hdf la lc lx lg hu hlg kd dm key data qa qn qc hq hdl (List.replicate 32 (0 : UInt8)) lr (fun h => by rw [h] at c_10; cases c_10) _ h_93) rfl ?_
  rintro _ w_97 ⟨la_94, lc_95, lx_96, rfl, h_98⟩
  refine WL.storeA (b := b_4) (off := 0) [] [(32, (List.replicate 32 (0 : UInt8)).map vu8)] [(32, (anD id df dn u lg (kd, key, dm, data)).map vu8)] [] (ys := (anD id df dn u lg (kd, key, dm, data)).map vu8) h_98 rfl rfl Try.sizeOf23 Y6 (by decide) rfl rfl rfl rfl rfl rfl (SsOk.cons (SOk.u8 (anD_len hdf h32_w_97)) SsOk.nil) (fun w_99 h_100 => ?_)
  refine WL.nil (thn_n (WP.ret ?_))
  refine ret_of Try.results106 (RV.cell rfl (h_100.loadA (cs := (anD id df dn u lg (kd, key, dm, data)).map vu8) Try.isAgg23 Try.sizeOf23 M6 rfl rfl) RV.nil) ?_
  have h_111 := ((((((((((h_100.up J5).drop rfl).up J5).drop rfl).up J5).drop rfl).up J4).up J4).up J4).up J4).up J4
  exact ⟨_, _, _, rfl, h_111⟩

theorem c_rTag_r {w00 : World} {L : List Ent} (id : Bool) (ob : Nat) (ms df : List UInt8) (hms : ms.length = 32) (da : Option Addr) (dn dc u : Nat) (hdf : df.length = 32 * dn) (la : Option Addr) (lc : Nat) (lx : List Value) (lg : Lg) (hu : u ≤ 1000000) (hlg : lg.length ≤ 1000000) (dm : Int) (data : List UInt8) (qa : Option Addr) (qn qc : Nat) (hdm : 1 ≤ dm ∧ dm ≤ 16) (hqn : data.length ≤ 1000000000) (hdl : data.length = qn) (key : List UInt8) (hk : key.length = 32) (w : World) (h_0 : HP w00 w (Ent.blk ob .nw 64 [(1, [(.bool id)]), (32, ms.map vu8), (1, [(.slice da dn dc)]), (1, [(vi ((u : Nat) : Int))]), (1, [(.slice la lg.length lc)])] :: Ent.row la lg.length lc 111 67 lx :: Ent.pin (sblks lx) (fun w => Lgs w lx lg) :: Ent.view da (df.map vu8) :: Ent.row qa qn qc 5 1 (data.map vu8) :: L)) :
  Cs Try.prog 89 [(.pointer (some ⟨ob, 0, none⟩)), (.agg ⟨key.map vu8⟩), (vi dm), (.slice qa qn qc)].toArray w (fun v w1 => ∃ la' lc' lx', v = (.agg ⟨(anD id df dn u lg (2, key, dm, data)).map vu8⟩) ∧ HP w00 w1 (Ent.blk ob .nw 64 [(1, [(.bool id)]), (32, ms.map vu8), (1, [(.slice da dn dc)]), (1, [(vi (((anU id u lg (2, key, dm, data)) : Nat) : Int))]), (1, [(.slice la' ((anL id df dn u lg (2, key, dm, data)).length) lc')])] :: Ent.row la' ((anL id df dn u lg (2, key, dm, data)).length) lc' 111 67 lx' :: Ent.pin (sblks lx') (fun w => Lgs w lx' (anL id df dn u lg (2, key, dm, data))) :: Ent.view da (df.map vu8) :: Ent.row qa qn qc 5 1 (data.map vu8) :: L)) := by
 refine Cs.of (n := 15) (args := [(pO ob 0), (.agg ⟨key.map vu8⟩), (vi dm), (.slice qa qn qc)]) Try.func89 rfl rfl rfl ?_
 refine WP.seq (WP.reg ?_)
 refine WL.box (v := (.agg ⟨key.map vu8⟩)) (segs := [(32, key.map vu8)]) h_0 rfl rfl (SsOk.cons (SOk.u8 hk) SsOk.nil) rfl (fun b_1 w_2 h_3 => ?_)
 refine WL.alloc (segs := [(32, (List.replicate 32 (0 : UInt8)).map vu8)]) h_3 (zv Try.typeInfo23 rfl) rfl (SsOk.cons (SOk.u8 lr) SsOk.nil) rfl (fun b_4 w_5 h_6 => ?_)
 refine WL.nil (thn_n (WP.seq (WP.reg ?_)))
 refine qM (pO ob 0) rfl rfl (qV rfl (R.loadA (b := b_1) (off := 0) [] [(32, key.map vu8)] [] (cs := key.map vu8) rfl Try.isAgg23 Try.sizeOf23 (h_6.ok _ M1) rfl rfl rfl rfl) (qM (vi dm) rfl rfl (qM (.slice qa qn qc) rfl rfl (qV rfl (R.buildS (pl := [(0, 1), (1, 32), (33, 1), (34, 1)]) (zs := [(1, [(vi 0)]), (32, (List.replicate 32 (0 : UInt8)).map vu8), (1, [(vi 0)]), (1, [(.slice none 0 0)])]) (vs := [(0, (vi 2)), (1, (.agg ⟨key.map vu8⟩)), (2, (vi dm)), (3, (.slice qa qn qc))]) (out := [(1, [(vi 2)]), (32, key.map vu8), (1, [(vi dm)]), (1, [(.slice qa qn qc)])]) (cs := flat [(1, [(vi 2)]), (32, key.map vu8), (1, [(vi dm)]), (1, [(.slice qa qn qc)])]) Try.underlying103 (zv Try.typeInfo103 rfl) rfl (SsOk.cons (SOk.v rfl) (SsOk.cons (SOk.u8 lr) (SsOk.cons (SOk.v rfl) (SsOk.cons (SOk.v rfl) SsOk.nil)))) (pl103 _ Try.underlying103) rfl (FillR.cons [] [(1, [(vi 0)])] [(1, [(vi 2)])] [(32, (List.replicate 32 (0 : UInt8)).map vu8), (1, [(vi 0)]), (1, [(.slice none 0 0)])] rfl rfl rfl rfl (SsOk.cons (SOk.v rfl) SsOk.nil) rfl rfl rfl (FillR.cons [(1, [(vi 2)])] [(32, (List.replicate 32 (0 : UInt8)).map vu8)] [(32, key.map vu8)] [(1, [(vi 0)]), (1, [(.slice none 0 0)])] rfl rfl rfl rfl (SsOk.cons (SOk.u8 hk) SsOk.nil) rfl rfl rfl (FillR.cons [(1, [(vi 2)]), (32, key.map vu8)] [(1, [(vi 0)])] [(1, [(vi dm)])] [(1, [(.slice none 0 0)])] rfl rfl rfl rfl (SsOk.cons (SOk.v rfl) SsOk.nil) rfl rfl rfl (FillR.cons [(1, [(vi 2)]), (32, key.map vu8), (1, [(vi dm)])] [(1, [(.slice none 0 0)])] [(1, [(.slice qa qn qc)])] [] rfl rfl rfl rfl (SsOk.cons (SOk.v rfl) SsOk.nil) rfl rfl rfl FillR.nil)))) rfl) ?_))))
 have h_12 := ((((h_6.up J6).up J6).up J6).up J6).up J6
 have h32_w_16 := (Lgs.ok32 (h_12.ok _ M2).1)
 refine WL.call Try.call106 rfl rfl (c_rAsk_r id ob ms df hms da dn dc u hdf la lc lx lg hu hlg 2 dm key data qa qn qc ⟨hk, by show (1 : Int) ≤ 2 ∧ (2 : Int) ≤ 4; omega, by show (1 : Int) ≤ dm ∧ (dm : Int) ≤ 16; omega, by show List.length data ≤ 1000000000; first | decide | (simp only [List.length_append, leN_len]; omega) | omega⟩ hdl  _ h_12) rfl ?_
 rintro _ w_16 ⟨la_13, lc_14, lx_15, rfl, h_17⟩
 refine WL.storeA (b := b_4) (off := 0) [] [(32, (List.replicate 32 (0 : UInt8)).map vu8)] [(32, (anD id df dn u lg (2, key, dm, data)).map vu8)] [] (ys := (anD id df dn u lg (2, key, dm, data)).map vu8) h_17 rfl rfl Try.sizeOf23 Y5 (by decide) rfl rfl rfl rfl rfl rfl (SsOk.cons (SOk.u8 (anD_len hdf h32_w_16)) SsOk.nil) (fun w_18 h_19 => ?_)
 refine WL.nil (thn_n (WP.ret ?_))
 refine ret_of Try.results89 (RV.cell rfl (h_19.loadA (cs := (anD id df dn u lg (2, key, dm, data)).map vu8) Try.isAgg23 Try.sizeOf23 M5 rfl rfl) RV.nil) ?_
 have h_28 := ((((((((h_19.up J5).drop rfl).up J5).drop rfl).up J4).up J4).up J4).up J4).up J4
 exact ⟨_, _, _, rfl, h_28⟩

theorem c_rKey {w00 : World} {L : List Ent} (id : Bool) (ob : Nat) (ms df : List UInt8) (hms : ms.length = 32) (da : Option Addr) (dn dc u : Nat) (hdf : df.length = 32 * dn) (la : Option Addr) (lc : Nat) (lx : List Value) (lg : Lg) (hu : u ≤ 1000000) (hlg : lg.length ≤ 1000000) (dm : Int) (data : List UInt8) (qa : Option Addr) (qn qc : Nat) (hdm : 1 ≤ dm ∧ dm ≤ 16) (hqn : data.length ≤ 1000000000) (hdl : data.length = qn) (w : World) (h_0 : HP w00 w (Ent.blk ob .nw 64 [(1, [(.bool id)]), (32, ms.map vu8), (1, [(.slice da dn dc)]), (1, [(vi ((u : Nat) : Int))]), (1, [(.slice la lg.length lc)])] :: Ent.row la lg.length lc 111 67 lx :: Ent.pin (sblks lx) (fun w => Lgs w lx lg) :: Ent.view da (df.map vu8) :: Ent.view qa (data.map vu8) :: L)) :
  Cs Try.prog 90 [(.pointer (some ⟨ob, 0, none⟩)), (vi dm), (.slice qa qn qc)].toArray w (fun v w1 => ∃ la' lc' lx', v = (.agg ⟨(anD id df dn u lg (3, ms, dm, data)).map vu8⟩) ∧ HP w00 w1 (Ent.blk ob .nw 64 [(1, [(.bool id)]), (32, ms.map vu8), (1, [(.slice da dn dc)]), (1, [(vi (((anU id u lg (3, ms, dm, data)) : Nat) : Int))]), (1, [(.slice la' ((anL id df dn u lg (3, ms, dm, data)).length) lc')])] :: Ent.row la' ((anL id df dn u lg (3, ms, dm, data)).length) lc' 111 67 lx' :: Ent.pin (sblks lx') (fun w => Lgs w lx' (anL id df dn u lg (3, ms, dm, data))) :: Ent.view da (df.map vu8) :: Ent.view qa (data.map vu8) :: L)) := by
 refine Cs.of (n := 16) (args := [(pO ob 0), (vi dm), (.slice qa qn qc)]) Try.func90 rfl rfl rfl ?_
 refine WP.seq (WP.reg ?_)
 refine WL.alloc (segs := [(32, (List.replicate 32 (0 : UInt8)).map vu8)]) h_0 (zv Try.typeInfo23 rfl) rfl (SsOk.cons (SOk.u8 lr) SsOk.nil) rfl (fun b_1 w_2 h_3 => ?_)
 refine WL.nil (thn_n (WP.seq (WP.reg ?_)))
 refine qM (pO ob 0) rfl rfl (qM (pO ob 0) rfl rfl (qV rfl (R.nilCheck rfl) (qV rfl (R.fieldAddr (b := ob) (off := 0) (off' := 1) rfl Try.underlying64 rfl Try.sizeOf23 rfl rfl) (qV rfl (R.loadA (b := ob) (off := 1) [(1, [(.bool id)])] [(32, ms.map vu8)] [(1, [(.slice da dn dc)]), (1, [(vn u)]), (1, [(.slice la lg.length lc)])] (cs := ms.map vu8) rfl Try.isAgg23 Try.sizeOf23 (h_3.ok _ M1) rfl rfl rfl rfl) (qM (vi dm) rfl rfl (qM (.slice qa qn qc) rfl rfl (qV rfl (R.buildS (pl := [(0, 1), (1, 32), (33, 1), (34, 1)]) (zs := [(1, [(vi 0)]), (32, (List.replicate 32 (0 : UInt8)).map vu8), (1, [(vi 0)]), (1, [(.slice none 0 0)])]) (vs := [(0, (vi 3)), (1, (.agg ⟨ms.map vu8⟩)), (2, (vi dm)), (3, (.slice qa qn qc))]) (out := [(1, [(vi 3)]), (32, ms.map vu8), (1, [(vi dm)]), (1, [(.slice qa qn qc)])]) (cs := flat [(1, [(vi 3)]), (32, ms.map vu8), (1, [(vi dm)]), (1, [(.slice qa qn qc)])]) Try.underlying103 (zv Try.typeInfo103 rfl) rfl (SsOk.cons (SOk.v rfl) (SsOk.cons (SOk.u8 lr) (SsOk.cons (SOk.v rfl) (SsOk.cons (SOk.v rfl) SsOk.nil)))) (pl103 _ Try.underlying103) rfl (FillR.cons [] [(1, [(vi 0)])] [(1, [(vi 3)])] [(32, (List.replicate 32 (0 : UInt8)).map vu8), (1, [(vi 0)]), (1, [(.slice none 0 0)])] rfl rfl rfl rfl (SsOk.cons (SOk.v rfl) SsOk.nil) rfl rfl rfl (FillR.cons [(1, [(vi 3)])] [(32, (List.replicate 32 (0 : UInt8)).map vu8)] [(32, ms.map vu8)] [(1, [(vi 0)]), (1, [(.slice none 0 0)])] rfl rfl rfl rfl (SsOk.cons (SOk.u8 hms) SsOk.nil) rfl rfl rfl (FillR.cons [(1, [(vi 3)]), (32, ms.map vu8)] [(1, [(vi 0)])] [(1, [(vi dm)])] [(1, [(.slice none 0 0)])] rfl rfl rfl rfl (SsOk.cons (SOk.v rfl) SsOk.nil) rfl rfl rfl (FillR.cons [(1, [(vi 3)]), (32, ms.map vu8), (1, [(vi dm)])] [(1, [(.slice none 0 0)])] [(1, [(.slice qa qn qc)])] [] rfl rfl rfl rfl (SsOk.cons (SOk.v rfl) SsOk.nil) rfl rfl rfl FillR.nil)))) rfl) ?_)))))))
 have h_9 := ((((h_3.up J5).up J5).up J5).up J5).up J5
 have h32_w_13 := (Lgs.ok32 (h_9.ok _ M2).1)
 refine WL.call Try.call106 rfl rfl (c_rAsk id ob ms df hms da dn dc u hdf la lc lx lg hu hlg 3 dm ms data qa qn qc ⟨hms, by show (1 : Int) ≤ 3 ∧ (3 : Int) ≤ 4; omega, by show (1 : Int) ≤ dm ∧ (dm : Int) ≤ 16; omega, by show List.length data ≤ 1000000000; first | decide | (simp only [List.length_append, leN_len]; omega) | omega⟩ hdl  _ h_9) rfl ?_
 rintro _ w_13 ⟨la_10, lc_11, lx_12, rfl, h_14⟩
 refine WL.storeA (b := b_1) (off := 0) [] [(32, (List.replicate 32 (0 : UInt8)).map vu8)] [(32, (anD id df dn u lg (3, ms, dm, data)).map vu8)] [] (ys := (anD id df dn u lg (3, ms, dm, data)).map vu8) h_14 rfl rfl Try.sizeOf23 Y5 (by decide) rfl rfl rfl rfl rfl rfl (SsOk.cons (SOk.u8 (anD_len hdf h32_w_13)) SsOk.nil) (fun w_15 h_16 => ?_)
 refine WL.nil (thn_n (WP.ret ?_))
 refine ret_of Try.results90 (RV.cell rfl (h_16.loadA (cs := (anD id df dn u lg (3, ms, dm, data)).map vu8) Try.isAgg23 Try.sizeOf23 M5 rfl rfl) RV.nil) ?_
 have h_23 := ((((((h_16.up J5).drop rfl).up J4).up J4).up J4).up J4).up J4
 exact ⟨_, _, _, rfl, h_23⟩

end Go.Proofs.Ytnhppjimimhlkaa

namespace Go.Proofs.Ytnhppjimimhlkaa
open Go.Vc Go.Orc Go.Sh Go.RowKit
set_option maxRecDepth 20000

theorem c_CloneA (a : Option Addr) (n cap : Nat) (xs : List Value) (lg : Lg) (hn : lg.length = n) (hlg : n ≤ 1000000) (w : World) (hv : View w a xs) (hp : Lgs w xs lg) :
  Cs Try.prog 57 [(.slice a n cap)].toArray w (fun v w1 => ∃ a cap, v = .slice a n cap ∧ Chg w w1 [] ∧ Own w.heap.size w1 111 67 a n cap xs) := by
 refine Cs.of (n := 8) (args := [(.slice a n cap)]) Try.func57 rfl rfl rfl ?_
 have h_0 := HP.init w
 have h_01 := h_0.oldV (View.arg hv) rfl (by simp [Ent.mut])
 have h_00 := h_01.oldV (Lgs.pin hp) rfl (by simp [Ent.mut])
 refine WP.seq (WP.reg ?_)
 refine qA (.slice none 0 0) rfl rfl ?_
 refine WL.nil (thn_n (WP.seq (WP.seq (WP.reg ?_))))
 refine qM (.slice a n cap) rfl rfl (qV rfl (R.eqNilS rfl rfl Try.underlying48) ?_)
 refine WL.nil (thn_n ?_)
 refine WP.cond (b := a.isNone) rfl (fun c_1 => ?_) (fun c_1 => ?_)
 ·refine WP.seq (WP.reg ?_)
  refine qA (.slice none 0 0) rfl rfl ?_
  refine WL.nil (thn_n (WP.ret (thn_r ?_)))
  refine ret_of Try.results57 (RV.tmp (v := (.slice none 0 0)) rfl RV.nil) ?_
  obtain rfl : xs = [] := view_noneV c_1 hv
  obtain rfl : n = 0 := by have := Lgs.len hp; simp at this; omega
  exact ⟨none, 0, rfl, h_00.chgS, Own.nil ..⟩
 ·refine WP.skip (thn_n (WP.seq (WP.reg ?_)))
  refine WL.buildSl0 h_00 Try.underlying48 Try.sizeOf111 rfl (fun b_2 w_3 h_4 => ?_)
  refine qM (.slice a n cap) rfl rfl ?_
  refine WL.append (km := n) (xs := []) (ys := xs) (zs := xs) h_4 rfl rfl el48 (viewV (h_4.ok _ M2)) (by rw [Lgs.len hp, hn]) (Lgs.one hp) rfl (by omega) (by omega) (by omega) (fun _ _ => At.h) rfl (fun a_5 c_6 w_7 h_8 => ?_)
  refine qA (.slice a_5 n c_6) rfl rfl ?_
  refine WL.nil (thn_n (WP.ret ?_))
  refine ret_of Try.results57 (RV.tmp (v := (.slice a_5 n c_6)) rfl RV.nil) ?_
  exact ⟨_, _, rfl, h_8.chgS, h_8.ok _ M0⟩

theorem c_oLog {w00 : World} {L : List Ent} (id : Bool) (ob mp : Nat) (ms df : List UInt8) (hms : ms.length = 32) (da : Option Addr) (dn dc u : Nat) (hdf : df.length = 32 * dn) (la : Option Addr) (lc : Nat) (lx : List Value) (lg : Lg) (hu : u ≤ 1000000) (hlg : lg.length ≤ 1000000) (w : World) (h_0 : HP w00 w (Ent.blk ob .nw 50 [(1, [(.bool id)]), (32, ms.map vu8), (1, [(.slice da dn dc)]), (1, [(vi ((u : Nat) : Int))]), (1, [(.map (some mp))]), (1, [(.slice la lg.length lc)])] :: Ent.row la lg.length lc 111 67 lx :: Ent.obj mp .nw (.map (mArr lg) lg.length) :: Ent.pin (sblks lx) (fun w => Lgs w lx lg) :: Ent.view da (df.map vu8) :: L)) :
  Cs Try.prog 25 [(.pointer (some ⟨ob, 0, none⟩))].toArray w (fun v w1 => ∃ a cap ys, v = .slice a lg.length cap ∧ HP w00 w1 (.row a lg.length cap 111 67 ys :: .pin (sblks ys) (fun w => Lgs w ys lg) :: Ent.blk ob .nw 50 [(1, [(.bool id)]), (32, ms.map vu8), (1, [(.slice da dn dc)]), (1, [(vi ((u : Nat) : Int))]), (1, [(.map (some mp))]), (1, [(.slice la lg.length lc)])] :: Ent.row la lg.length lc 111 67 lx :: Ent.obj mp .nw (.map (mArr lg) lg.length) :: Ent.pin (sblks lx) (fun w => Lgs w lx lg) :: Ent.view da (df.map vu8) :: L)) := by
 refine Cs.of (n := 32) (args := [(pO ob 0)]) Try.func25 rfl rfl rfl ?_
 refine WP.seq (WP.reg ?_)
 refine qA (.slice none 0 0) rfl rfl ?_
 refine WL.nil (thn_n (WP.seq (WP.seq (WP.reg ?_))))
 refine qM (pO ob 0) rfl rfl ?_
 refine WL.call Try.call52 rfl rfl (c_othere id ob mp ms hms da dn dc u la lg.length lc _ (h_0.argR M0)) rfl ?_
 rintro _ w_2 ⟨rfl, hc_1⟩
 have h_3 := h_0.same hc_1
 refine qV rfl (R.not (b := true) rfl) ?_
 refine WL.nil (thn_n ?_)
 refine WP.condF rfl ?_
 refine WP.skip (thn_n (WP.seq (WP.reg ?_)))
 refine qM (pO ob 0) rfl rfl (qV rfl (R.nilCheck rfl) (qV rfl (R.fieldAddr (b := ob) (off := 0) (off' := 36) rfl Try.underlying50 rfl Try.sizeOf48 rfl rfl) (qV rfl (R.load1 (b := ob) (off := 36) (v := (.slice la lg.length lc)) rfl Try.isAgg48 (h_3.ok _ M0) (Sg.t rfl (Sg.t rfl (Sg.t rfl (Sg.t rfl (Sg.t rfl Sg.h)))))) ?_)))
 refine WL.call Try.call57 rfl rfl (c_CloneA la lg.length lc lx lg rfl (by omega) _ (ownView (h_3.ok _ M1)) (h_3.ok _ M3).1) rfl ?_
 rintro _ w_6 ⟨a_4, cap_5, rfl, hc_7, ho_8⟩
 have h_9 := h_3.gotRow hc_7 ho_8
 refine qA (.slice a_4 lg.length cap_5) rfl rfl ?_
 refine WL.nil (thn_n (WP.seq (WP.seq (WP.reg ?_))))
 refine qM (.slice a_4 lg.length cap_5) rfl rfl (qV rfl (R.lenS (a := a_4) (m := lg.length) rfl rfl Try.underlying48) (qM (vi 0) rfl rfl ?_))
 refine WL.nil (thn_n (WP.block ?_))
 have h_10 := h_9.within M4 rfl (h_9.ok _ M4) rfl rfl (fun b hb => hb)
 have h_17 := ((((((h_10.up J6).up J6).up J6).up J6).up J6).up J5).up J6
 refine WP.loopG (G := Nat × List Value) [4, 15, 16, 17, 18, 19, 20, 21, 22, 23, 24, 25, 26, 27, 28, 29, 30] (fun (k, ys) => [(15, (vn k))]) (fun (k, ys) m w1 => HP w00 w1 (Ent.row a_4 lg.length cap_5 111 67 ys :: Ent.pin (sblks ys) (fun w => Lgs w ys lg) :: Ent.blk ob .nw 50 [(1, [(.bool id)]), (32, ms.map vu8), (1, [(.slice da dn dc)]), (1, [(vn u)]), (1, [(.map (some mp))]), (1, [(.slice la lg.length lc)])] :: Ent.row la lg.length lc 111 67 lx :: Ent.obj mp .nw (.map (mArr lg) lg.length) :: Ent.pin (sblks lx) (fun w => Lgs w lx lg) :: Ent.view da (df.map vu8) :: L) ∧ (k ≤ lg.length) ∧ m = lg.length + 1 - k) ⟨(0, lx), _, ⟨rfl, trivial⟩, h_17, Nat.zero_le _, rfl⟩ ?_
 rintro ⟨k, ys⟩ m_20 J_21 w_18 ⟨h_19, hk, rfl⟩
 refine WP.seq (WP.reg ?_)
 refine qV rfl (R.bin rfl rfl (bi_lss (r := decide ((((k : Nat) : Int) : Int) < ((lg.length : Nat) : Int))) rfl)) ?_
 refine WL.nil (thn_n (WP.seq ?_))
 refine WP.cond (b := decide ((((k : Nat) : Int) : Int) < ((lg.length : Nat) : Int))) rfl (fun c_22 => ?_) (fun c_22 => ?_)
 ·have p_23 := of_decide_eq_true c_22
  refine WP.skip (thn_n (WP.seq (WP.block (WP.seq (WP.reg ?_)))))
  refine qM (vn k) rfl rfl (qA (vn k) rfl rfl ?_)
  refine WL.nil (thn_n ?_)
  have hkl : k < lg.length := by omega
  have hyl := Lgs.len (h_19.ok _ M1).1
  obtain ⟨ka, kn, kc, khx, khq, khn, khc, khv, khb⟩ := Lgs.qget (i := k) (z := ((0, [], 0, []), [])) (h_19.ok _ M1).1 hkl
  have kbd : kn ≤ 1000000000 := by have hq4 := khq.2.2.2; rw [khn] at hq4; exact hq4
  have h_24 := h_19.within (e' := .view ka ((lg.getD k ((0, [], 0, []), [])).1.2.2.2.map vu8)) M1 rfl (View.arg khv) rfl rfl (fun b hb_ => khb _ (view_sblk khn b hb_))
  refine WP.reg ?_
  refine qM (.slice a_4 lg.length cap_5) rfl rfl (qM (vn k) rfl rfl (qM (.slice a_4 lg.length cap_5) rfl rfl (qM (vn k) rfl rfl (qV rfl (R.indexS (a := a_4) (i := k) (off := k * 67) (xs := ys) rfl rfl rfl (by omega) (ownView (h_24.ok _ M1)) (by rw [hyl]; omega) Try.underlying48 Try.sizeOf111 rfl) (qV rfl (R.fieldG (a := a_4) (i := k * 67) (off' := k * 67) rfl Try.underlying111 rfl Try.sizeOf103 rfl rfl) (qV rfl (R.fieldG (a := a_4) (i := k * 67) (off' := k * 67 + 34) rfl Try.underlying103 rfl Try.sizeOf37 rfl rfl) (qV rfl (R.loadG (a := a_4) (i := k * 67 + 34) (xs := ys) (v := (.slice ka kn kc)) rfl (ownView (h_24.ok _ M1)) Try.isAgg37 (q34 khq.1 khx)) ?_)))))))
  refine WL.call Try.call58 rfl rfl (c_Clone ka kn kc ((lg.getD k ((0, [], 0, []), [])).1.2.2.2) khn (by omega) _ (viewV (h_24.ok _ M0))) rfl ?_
  rintro _ w_27 ⟨a_25, cap_26, rfl, hc_28, ho_29⟩
  have h_30 := h_24.gotRow hc_28 ho_29
  refine qV rfl (R.indexS (a := a_4) (i := k) (off := k * 67) (xs := ys) rfl rfl rfl (by omega) (ownView (h_30.ok _ M2)) (by rw [hyl]; omega) Try.underlying48 Try.sizeOf111 rfl) (qV rfl (R.fieldG (a := a_4) (i := k * 67) (off' := k * 67) rfl Try.underlying111 rfl Try.sizeOf103 rfl rfl) (qV rfl (R.fieldG (a := a_4) (i := k * 67) (off' := k * 67 + 34) rfl Try.underlying103 rfl Try.sizeOf37 rfl rfl) ?_))
  refine WL.storeR (a := a_4) (i := k * 67 + 34) (v := (.slice a_25 kn cap_26)) (xs' := ys.set (k * 67 + 34) (.slice a_25 kn cap_26)) h_30 rfl rfl Try.sizeOf37 rfl Y2 (by rw [hyl]; omega) rfl (fun w_31 h_32 => ?_)
  refine WL.nil (inb_n (thn_n (WP.reg ?_)))
  refine qV rfl (R.bin rfl rfl (bi_add (c := ((k + 1 : Nat) : Int)) (by omega) (by omega))) (qM (vn (k + 1)) rfl rfl ?_)
  refine WL.nil (thn_n ?_)
  have h_42 := (((((((((h_32.up J1).drop rfl).up J7).up J7).up J7).up J7).up J7).up J6).up J7).up J7
  have h_43 := HP_logSet (z := ((0, [], 0, []), [])) h_42 hkl khn
  have h_54 := ((((((((((h_43.up J1).drop rfl).up J1).drop rfl).up J6).up J6).up J6).up J6).up J6).up J5).up J6
  exact ⟨(k + 1, _), _, (by omega), (Ag.upd rfl (U4 rfl rfl rfl rfl (U4 rfl rfl rfl rfl (U4 rfl rfl rfl rfl (U4 rfl rfl rfl rfl (Ag.updL rfl (Ag.mix _ _ _))))))), ⟨rfl, trivial⟩, h_54, (by omega), rfl⟩
 ·have p_55 := of_decide_eq_false c_22
  refine WP.exit (thn_x (thn_x (inb_hit (thn_n (WP.seq (WP.reg ?_))))))
  refine qM (.slice a_4 lg.length cap_5) rfl rfl (qA (.slice a_4 lg.length cap_5) rfl rfl ?_)
  refine WL.nil (thn_n (WP.ret ?_))
  refine ret_of Try.results25 (RV.tmp (v := (.slice a_4 lg.length cap_5)) rfl RV.nil) ?_
  have h_62 := ((((((h_19.up J6).up J6).up J6).up J6).up J6).up J6).up J6
  exact ⟨_, _, _, rfl, h_62⟩

theorem c_rSameLog (a : Option Addr) (n cap : Nat) (xs : List Value) (lg : Lg) (hn : lg.length = n) (hlg : n ≤ 1000000) (a2 : Option Addr) (cap2 : Nat) (ys : List Value) (w : World) (hv : View w a xs) (hp : Lgs w xs lg) (hv2 : View w a2 ys) (hp2 : Lgs w ys lg) :
  Cs Try.prog 24 [(.slice a n cap), (.slice a2 n cap2)].toArray w (fun v w1 => v = (.bool true) ∧ Chg w w1 []) := by
 refine Cs.of (n := 42) (args := [(.slice a n cap), (.slice a2 n cap2)]) Try.func24 rfl rfl rfl ?_
 have h_0 := HP.init w
 have h_01 := h_0.oldV (View.arg hv) rfl (by simp [Ent.mut])
 have h_02 := h_01.oldV (Lgs.pin hp) rfl (by simp [Ent.mut])
 have h_03 := h_02.oldV (View.arg hv2) rfl (by simp [Ent.mut])
 have h_00 := h_03.oldV (Lgs.pin hp2) rfl (by simp [Ent.mut])
 refine WP.seq (WP.reg ?_)
 refine qA (.bool false) rfl rfl ?_
 refine WL.nil (thn_n (WP.seq (WP.seq (WP.reg ?_))))
 refine qM (.slice a n cap) rfl rfl (qV rfl (R.lenS (a := a) (m := n) rfl rfl Try.underlying48) (qM (.slice a2 n cap2) rfl rfl (qV rfl (R.lenS (a := a2) (m := n) rfl rfl Try.underlying48) (qV rfl (R.bin rfl rfl (bi_neq (r := false) (by simp))) ?_))))
 refine WL.nil (thn_n ?_)
 refine WP.condF rfl ?_
 refine WP.skip (thn_n (WP.seq (WP.seq (WP.reg ?_))))
 refine qA (vi 0) rfl rfl ?_
 refine WL.nil (thn_n (WP.block ?_))
 refine WP.loopG (G := Nat) [4, 5, 11, 12, 13, 14, 15, 16, 17, 18, 19, 20, 21, 22, 23, 24, 25, 26, 27, 28, 29, 30, 31, 32, 33, 34, 35, 36, 37, 38, 39, 40, 41] (fun k => [(5, (vn k))]) (fun k m w1 => HP w w1 [.pin (sblks ys) (fun w => Lgs w ys lg), .view a2 ys, .pin (sblks xs) (fun w => Lgs w xs lg), .view a xs] ∧ (k ≤ n) ∧ m = n + 1 - k) ⟨0, _, ⟨rfl, trivial⟩, h_00, Nat.zero_le _, rfl⟩ ?_
 rintro k m_3 J_4 w_1 ⟨h_2, hk, rfl⟩
 refine WP.seq (WP.seq (WP.reg ?_))
 refine qM (vn k) rfl rfl (qM (.slice a n cap) rfl rfl (qV rfl (R.lenS (a := a) (m := n) rfl rfl Try.underlying48) (qV rfl (R.bin rfl rfl (bi_lss (r := decide ((((k : Nat) : Int) : Int) < ((n : Nat) : Int))) rfl)) ?_)))
 refine WL.nil (thn_n ?_)
 refine WP.cond (b := decide ((((k : Nat) : Int) : Int) < ((n : Nat) : Int))) rfl (fun c_5 => ?_) (fun c_5 => ?_)
 ·have p_6 := of_decide_eq_true c_5
  refine WP.skip (thn_n (WP.seq (WP.block (WP.seq ?_))))
  have hkl : k < lg.length := by omega
  obtain ⟨ka, kn, kc, khx, khq, khn, khc, khv, khb⟩ := Lgs.qget (i := k) (z := ((0, [], 0, []), [])) (h_2.ok _ M2).1 hkl
  have kbd : kn ≤ 1000000000 := by have hq4 := khq.2.2.2; rw [khn] at hq4; exact hq4
  have h_7 := h_2.within (e' := .view ka ((lg.getD k ((0, [], 0, []), [])).1.2.2.2.map vu8)) M2 rfl (View.arg khv) rfl rfl (fun b hb_ => khb _ (view_sblk khn b hb_))
  obtain ⟨ga, gn, gc, ghx, ghq, ghn, ghc, ghv, ghb⟩ := Lgs.qget (i := k) (z := ((0, [], 0, []), [])) (h_7.ok _ M1).1 hkl
  have gbd : gn ≤ 1000000000 := by have hq4 := ghq.2.2.2; rw [ghn] at hq4; exact hq4
  have h_8 := h_7.within (e' := .view ga ((lg.getD k ((0, [], 0, []), [])).1.2.2.2.map vu8)) M1 rfl (View.arg ghv) rfl rfl (fun b hb_ => ghb _ (view_sblk ghn b hb_))
  refine WP.drawT (SL w.heap.size [.view ga ((lg.getD k ((0, [], 0, []), [])).1.2.2.2.map vu8), .view ka ((lg.getD k ((0, [], 0, []), [])).1.2.2.2.map vu8), .pin (sblks ys) (fun w => Lgs w ys lg), .view a2 ys, .pin (sblks xs) (fun w => Lgs w xs lg), .view a xs]) (.q 0 (.q 1 (.q 2 (.q 3 (.q 4 (.q 5 (.q 6 (.q 7 (.q 8 (.q 9 (.s 10 (.q 11 (.q 12 (.q 13 (.q 14 (.q 15 (.q 16 (.q 17 (.q 18 (.q 19 (.q 20 (.q 21 (.q 22 (.q 23 (.q 24 .nil))))))))))))))))))))))))) (by kernel_rfl) (by kernel_rfl) rfl (by kernel_rfl) (fun w_9 hc_11 => (SL.cons ((h_8.same hc_11).ok _ M0) (SL.cons ((h_8.same hc_11).ok _ M1) (SL.cons ((h_8.same hc_11).ok _ M2) (SL.cons ((h_8.same hc_11).ok _ M3) (SL.cons ((h_8.same hc_11).ok _ M4) (SL.cons ((h_8.same hc_11).ok _ M5) (SL.nil _ _)))))))) (fun w_9 hc_11 => ?_)
  have h_10 := h_8.same hc_11
  refine qT rfl rfl (fun wq hS => R.move (v := (.slice a n cap)) rfl) ?_
  refine qT rfl rfl (fun wq hS => R.move (v := (vn k)) rfl) ?_
  refine qT rfl rfl (fun wq hS => R.indexS (a := a) (i := k) (off := k * 67) (xs := xs) rfl rfl rfl (by omega) (viewV (hS _ M5)) (by rw [Lgs.len hp, hn]; omega) Try.underlying48 Try.sizeOf111 rfl) ?_
  refine qT rfl rfl (fun wq hS => R.fieldG (a := a) (i := k * 67) (off' := k * 67) rfl Try.underlying111 rfl Try.sizeOf103 rfl rfl) ?_
  refine qT rfl rfl (fun wq hS => R.loadGA (a := a) (i := k * 67) (xs := xs) (cs := flat [(1, [(vi (((lg.getD k ((0, [], 0, []), [])).1).1))]), (32, (((lg.getD k ((0, [], 0, []), [])).1).2.1).map vu8), (1, [(vi (((lg.getD k ((0, [], 0, []), [])).1).2.2.1))]), (1, [(.slice ka kn kc)])]) rfl (viewV (hS _ M5)) Try.isAgg103 Try.sizeOf103 khx ((SsOk.cons (SOk.v rfl) (SsOk.cons (SOk.u8 khq.1) (SsOk.cons (SOk.v rfl) (SsOk.cons (SOk.v rfl) SsOk.nil))))).len (by decide)) ?_
  refine qT rfl rfl (fun wq hS => R.move (v := (.slice a2 n cap2)) rfl) ?_
  refine qT rfl rfl (fun wq hS => R.move (v := (vn k)) rfl) ?_
  refine qT rfl rfl (fun wq hS => R.indexS (a := a2) (i := k) (off := k * 67) (xs := ys) rfl rfl rfl (by omega) (viewV (hS _ M3)) (by rw [Lgs.len hp2, hn]; omega) Try.underlying48 Try.sizeOf111 rfl) ?_
  refine qT rfl rfl (fun wq hS => R.fieldG (a := a2) (i := k * 67) (off' := k * 67) rfl Try.underlying111 rfl Try.sizeOf103 rfl rfl) ?_
  refine qT rfl rfl (fun wq hS => R.loadGA (a := a2) (i := k * 67) (xs := ys) (cs := flat [(1, [(vi (((lg.getD k ((0, [], 0, []), [])).1).1))]), (32, (((lg.getD k ((0, [], 0, []), [])).1).2.1).map vu8), (1, [(vi (((lg.getD k ((0, [], 0, []), [])).1).2.2.1))]), (1, [(.slice ga gn gc)])]) rfl (viewV (hS _ M3)) Try.isAgg103 Try.sizeOf103 ghx ((SsOk.cons (SOk.v rfl) (SsOk.cons (SOk.u8 ghq.1) (SsOk.cons (SOk.v rfl) (SsOk.cons (SOk.v rfl) SsOk.nil))))).len (by decide)) ?_
  refine WT.s (Op1.one rfl (Wn.no rfl) ?_)
  refine WL.call Try.call56 rfl rfl (c_rSame ((lg.getD k ((0, [], 0, []), [])).1) ((lg.getD k ((0, [], 0, []), [])).1) khq.1 ghq.1 ka kn kc khn ga gn gc ghn _ (viewV (h_10.ok _ M1)) (viewV (h_10.ok _ M0))) rfl ?_
  rintro _ w_13 ⟨rfl, hc_12⟩
  have h_14 := h_10.same hc_12
  refine WL.nil ?_
  refine ⟨(SL.cons (h_14.ok _ M0) (SL.cons (h_14.ok _ M1) (SL.cons (h_14.ok _ M2) (SL.cons (h_14.ok _ M3) (SL.cons (h_14.ok _ M4) (SL.cons (h_14.ok _ M5) (SL.nil _ _))))))), ?_⟩
  refine qT rfl rfl (fun wq hS => R.not (b := true) (congrArg Value.bool (decide_eq_true rfl))) ?_
  refine qT rfl rfl (fun wq hS => R.move (v := (.bool false)) rfl) ?_
  refine WT.q rfl (Wn.yes rfl rfl rfl) rfl rfl (fun wq hS => R.move (v := (.slice a n cap)) rfl) ?_
  refine WT.q rfl (Wn.yes rfl rfl rfl) rfl rfl (fun wq hS => R.move (v := (vn k)) rfl) ?_
  refine WT.q rfl (Wn.yes rfl rfl rfl) rfl rfl (fun wq hS => R.indexS (a := a) (i := k) (off := k * 67) (xs := xs) rfl rfl rfl (by omega) (viewV (hS _ M5)) (by rw [Lgs.len hp, hn]; omega) Try.underlying48 Try.sizeOf111 rfl) ?_
  refine WT.q rfl (Wn.yes rfl rfl rfl) rfl rfl (fun wq hS => R.fieldG (a := a) (i := k * 67) (off' := k * 67 + 35) rfl Try.underlying111 rfl Try.sizeOf23 rfl rfl) ?_
  refine WT.q rfl (Wn.yes rfl rfl rfl) rfl rfl (fun wq hS => R.loadGA (a := a) (i := k * 67 + 35) (xs := xs) (cs := ((lg.getD k ((0, [], 0, []), [])).2).map vu8) rfl (viewV (hS _ M5)) Try.isAgg23 Try.sizeOf23 (Lgs.ans (z := ((0, [], 0, []), [])) hp (i := k) hkl).1 (len_map (Lgs.ans (z := ((0, [], 0, []), [])) hp (i := k) hkl).2) (by decide)) ?_
  refine WT.q rfl (Wn.yes rfl rfl rfl) rfl rfl (fun wq hS => R.move (v := (.slice a2 n cap2)) rfl) ?_
  refine WT.q rfl (Wn.yes rfl rfl rfl) rfl rfl (fun wq hS => R.move (v := (vn k)) rfl) ?_
  refine WT.q rfl (Wn.yes rfl rfl rfl) rfl rfl (fun wq hS => R.indexS (a := a2) (i := k) (off := k * 67) (xs := ys) rfl rfl rfl (by omega) (viewV (hS _ M3)) (by rw [Lgs.len hp2, hn]; omega) Try.underlying48 Try.sizeOf111 rfl) ?_
  refine WT.q rfl (Wn.yes rfl rfl rfl) rfl rfl (fun wq hS => R.fieldG (a := a2) (i := k * 67) (off' := k * 67 + 35) rfl Try.underlying111 rfl Try.sizeOf23 rfl rfl) ?_
  refine WT.q rfl (Wn.yes rfl rfl rfl) rfl rfl (fun wq hS => R.loadGA (a := a2) (i := k * 67 + 35) (xs := ys) (cs := ((lg.getD k ((0, [], 0, []), [])).2).map vu8) rfl (viewV (hS _ M3)) Try.isAgg23 Try.sizeOf23 (Lgs.ans (z := ((0, [], 0, []), [])) hp2 (i := k) hkl).1 (len_map (Lgs.ans (z := ((0, [], 0, []), [])) hp2 (i := k) hkl).2) (by decide)) ?_
  refine WT.q rfl (Wn.yes rfl rfl rfl) rfl rfl (fun wq hS => R.neA (xs := ((lg.getD k ((0, [], 0, []), [])).2).map vu8) (ys := ((lg.getD k ((0, [], 0, []), [])).2).map vu8) (r := false) rfl rfl Try.eqGuardType23 kt23 (by decide) ag23 (Typ.u8s Try.underlying23 ce23 Try.underlying5 ce5 ((Lgs.ans (z := ((0, [], 0, []), [])) hp (i := k) hkl).2)) (Typ.u8s Try.underlying23 ce23 Try.underlying5 ce5 ((Lgs.ans (z := ((0, [], 0, []), [])) hp2 (i := k) hkl).2)) (neT rfl)) ?_
  refine qT rfl rfl (fun wq hS => R.pickF (v := (.bool false)) rfl rfl) ?_
  refine WT.nil (thn_n ?_)
  refine WP.condF rfl ?_
  refine WP.skip (inb_n (thn_n (WP.reg ?_)))
  refine qM (vn k) rfl rfl (qV rfl (R.bin rfl rfl (bi_add (c := ((k + 1 : Nat) : Int)) (by omega) (by omega))) (qA (vn (k + 1)) rfl rfl ?_))
  refine WL.nil (thn_n ?_)
  have h_20 := (((((h_14.drop rfl).drop rfl).up J3).up J3).up J3).up J3
  exact ⟨k + 1, _, (by omega), (U4 rfl rfl rfl rfl (U4 rfl rfl rfl rfl (U4 rfl rfl rfl rfl (U4 rfl rfl rfl rfl (U4 rfl rfl rfl rfl (U4 rfl rfl rfl rfl (U4 rfl rfl rfl rfl (U4 rfl rfl rfl rfl (Ag.updL rfl (Ag.mix _ _ _)))))))))), ⟨rfl, trivial⟩, h_20, (by omega), rfl⟩
 ·have p_21 := of_decide_eq_false c_5
  refine WP.exit (thn_x (thn_x (inb_hit (thn_n (WP.seq (WP.reg ?_))))))
  refine qA (.bool true) rfl rfl ?_
  refine WL.nil (thn_n (WP.ret ?_))
  refine ret_of Try.results24 (RV.tmp (v := (.bool true)) rfl RV.nil) ?_
  exact ⟨rfl, h_2.chgS⟩
end Go.Proofs.Ytnhppjimimhlkaa

namespace Go.Orc
open Go.Vc Go.RowKit
section
variable {P : Program} {n : Nat} {ops : Array Oper} {Q : Exit → Fr → World → Prop} {rest : List Oper} {F : Fr} {w w' w0 : World} {L : List Ent} {ty : TypeId} {pos : String} {after : Array Edge}
end
end Go.Orc

namespace Go.Proofs.Ytnhppjimimhlkaa
open Go.Vc Go.Orc Go.Sh Go.RowKit
set_option maxRecDepth 20000

theorem ns_all (ns : List Nat) : (ns.map Int.ofNat).all nonneg = true := by
 rw [List.all_eq_true]
 intro x hx
 obtain ⟨y, _, rfl⟩ := List.mem_map.1 hx
 simp [nonneg]
theorem c_Cut_t (a : Option Addr) (n cap : Nat) (bs : List UInt8) (hl : bs.length = n) (hn : n ≤ 1099511627776) (a2 : Option Addr) (n2 cap2 : Nat) (ns : List Nat) (hl2 : ns.length = n2) (hn2 : n2 ≤ 1099511627776) (lr : List (List UInt8)) (hx : Go.Wr.cutL ns bs = some lr) (w : World) (hv : View w a (bs.map vu8)) (hv2 : View w a2 ((ns.map Int.ofNat).map vi64)) :
  Cs Try.prog 84 [(.slice a n cap), (.slice a2 n2 cap2)].toArray w (fun v w1 => ∃ a cap xs, v = .tuple [.slice a lr.length cap, vi 0].toArray ∧ Chg w w1 [] ∧ View w1 a xs ∧ Sls w1 xs lr ∧ ∀ b ∈ (Ent.view a xs).blocks ++ sblks xs, w.heap.size ≤ b) := by
 refine Cs.of (n := 39) (args := [(.slice a n cap), (.slice a2 n2 cap2)]) Try.func84 rfl rfl rfl ?_
 have h_0 := HP.init w
 have h_01 := h_0.oldV (View.arg hv) rfl (by simp [Ent.mut])
 have h_00 := h_01.oldV (View.arg hv2) rfl (by simp [Ent.mut])
 refine WP.seq (WP.reg ?_)
 refine qA (.slice none 0 0) rfl rfl (qA (vi 0) rfl rfl ?_)
 refine WL.nil (thn_n (WP.seq (WP.seq (WP.reg ?_))))
 refine qM (.slice a2 n2 cap2) rfl rfl ?_
 refine WL.call Try.call102 rfl rfl (c_CfZ_t a2 n2 cap2 (ns.map Int.ofNat) ((List.length_map ..).trans hl2) (by omega) (ns_all ns) _ (viewV (h_00.ok _ M0))) rfl ?_
 rintro _ w_2 ⟨rfl, hc_1⟩
 have h_3 := h_00.same hc_1
 refine WL.nil (thn_n ?_)
 refine WP.condF rfl ?_
 refine WP.skip (thn_n (WP.seq (WP.reg ?_)))
 refine qA (.slice none 0 0) rfl rfl ?_
 refine WL.nil (thn_n (WP.seq (WP.reg ?_)))
 refine qM (.slice a n cap) rfl rfl ?_
 refine WL.call Try.call58 rfl rfl (c_Clone a n cap bs hl (by omega) _ (viewV (h_3.ok _ M1))) rfl ?_
 rintro _ w_6 ⟨a_4, cap_5, rfl, hc_7, ho_8⟩
 have h_9 := h_3.gotRow hc_7 ho_8
 have hq_10 := ho_8.2.2.1
 refine qA (.slice a_4 n cap_5) rfl rfl ?_
 refine WL.nil (thn_n (WP.seq (WP.seq (WP.reg ?_))))
 refine qM (.slice a2 n2 cap2) rfl rfl (qV rfl (R.lenS (a := a2) (m := n2) rfl rfl Try.underlying70) (qM (vi 0) rfl rfl ?_))
 refine WL.nil (thn_n (WP.block ?_))
 have hf_11 := Own.blk (h_9.own M0)
 have h_12 := h_9.rowView
 have h_13 := h_12.slsNil
 have h_14 := h_13.rowNil 37 1
 refine WP.loopG (G := Nat × Option Addr × Nat × List Value × List (List UInt8) × Option Addr × Nat × Nat × List UInt8) [4, 5, 6, 7, 9, 16, 17, 18, 19, 20, 21, 22, 23, 24, 25, 26, 27, 28, 29, 30, 31, 32, 33, 34] (fun (k, oa, oc, xs, ls, ra, rc, z, r) => [(6, (.slice oa k oc)), (7, (.slice ra z rc)), (16, (vn k))]) (fun (k, oa, oc, xs, ls, ra, rc, z, r) m w1 => HP w w1 [.row oa k oc 37 1 xs, .pin (sblks xs) (fun w => Sls w xs ls), .view ra (r.map vu8), .view a2 ((ns.map Int.ofNat).map vi64), .view a (bs.map vu8)] ∧ (k ≤ n2) ∧ (r.length = z) ∧ (z ≤ rc) ∧ (z ≤ n) ∧ (ls.length = k) ∧ (∀ b ∈ sblks xs, w.heap.size ≤ b) ∧ (∀ b ∈ (Ent.view ra (r.map vu8)).blocks, w.heap.size ≤ b) ∧ (Go.Wr.cutL ns bs = (Go.Wr.cutL (ns.drop k) r).map (ls ++ ·)) ∧ m = n2 - k) ⟨(0, none, 0, [], [], a_4, cap_5, n, bs), _, ⟨rfl, rfl, rfl, trivial⟩, h_14, (by omega), hl, (by omega), Nat.le_refl n, rfl, (fun b hb => by cases hb), hf_11, (by rw [List.drop_zero]; cases Go.Wr.cutL ns bs <;> simp), rfl⟩ ?_
 rintro ⟨k, oa, oc, xs, ls, ra, rc, z, r⟩ m_17 J_18 w_15 ⟨h_16, hk, hz, hrc, hrn, hkl, hf1, hf2, hsp, rfl⟩
 refine WP.seq (WP.reg ?_)
 refine qV rfl (R.bin rfl rfl (bi_lss (r := decide ((((k : Nat) : Int) : Int) < ((n2 : Nat) : Int))) rfl)) ?_
 refine WL.nil (thn_n (WP.seq ?_))
 refine WP.cond (b := decide ((((k : Nat) : Int) : Int) < ((n2 : Nat) : Int))) rfl (fun c_19 => ?_) (fun c_19 => ?_)
 ·have p_20 := of_decide_eq_true c_19
  refine WP.skip (thn_n (WP.seq (WP.block (WP.seq (WP.reg ?_)))))
  refine qV rfl (R.indexS (a := a2) (i := k) (off := k) (xs := (ns.map Int.ofNat).map vi64) rfl rfl rfl (by omega) (viewV (h_16.ok _ M3)) (lt_len (K := n2) (len_map ((List.length_map ..).trans hl2)) (by omega)) Try.underlying70 Try.sizeOf3 (Nat.mul_one _).symm) (qV rfl (R.loadG (a := a2) (i := k) (xs := (ns.map Int.ofNat).map vi64) (v := (vn (ns.getD k 0))) rfl (viewV (h_16.ok _ M3)) Try.isAgg3 (Go.Wr.ints_get (by omega))) (qA (vn (ns.getD k 0)) rfl rfl ?_))
  refine WL.nil (thn_n (WP.seq (WP.seq (WP.reg ?_))))
  refine qM (vn (ns.getD k 0)) rfl rfl (qM (.slice ra z rc) rfl rfl (qV rfl (R.lenS (a := ra) (m := z) rfl rfl Try.underlying37) (qV rfl (R.bin rfl rfl (bi_gtr (r := decide ((((ns.getD k 0 : Nat) : Int) : Int) > ((z : Nat) : Int))) rfl)) ?_)))
  refine WL.nil (thn_n ?_)
  refine WP.cond (b := decide ((((ns.getD k 0 : Nat) : Int) : Int) > ((z : Nat) : Int))) rfl (fun c_21 => ?_) (fun c_21 => ?_)
  ·have p_22 := of_decide_eq_true c_21
   refine WP.seq (WP.reg ?_)
   refine qA (.slice none 0 0) rfl rfl (qA (vi 4) rfl rfl ?_)
   refine WL.nil (thn_n (WP.ret (thn_r (inb_r (thn_r (thn_r (inb_r (thn_r ?_))))))))
   refine ret_of Try.results84 (RV.tmp (v := (.slice none 0 0)) rfl (RV.tmp (v := (vi 4)) rfl RV.nil)) ?_
   have hp_23 := p_20
   have hp_24 := p_22
   have hb := (Go.Wr.opt_none hsp (Go.Wr.cut_big (by omega) rfl (by omega)))
   rw [hx] at hb; cases hb
  ·have p_25 := of_decide_eq_false c_21
   refine WP.skip (thn_n ?_)
   refine WP.drawT (SL w.heap.size [.pin (sblks xs) (fun w => Sls w xs ls), .view ra (r.map vu8), .view a2 ((ns.map Int.ofNat).map vi64), .view a (bs.map vu8)]) (.q 0 (.q 1 (.q 2 (.q 3 (.q 4 (.q 7 (.q 8 (.q 9 (.s 5 (.s 6 (.q 10 (.q 11 .nil)))))))))))) (by kernel_rfl) (by kernel_rfl) rfl (by kernel_rfl) (fun w_26 hc_28 => (SL.cons ((h_16.same hc_28).ok _ M1) (SL.cons ((h_16.same hc_28).ok _ M2) (SL.cons ((h_16.same hc_28).ok _ M3) (SL.cons ((h_16.same hc_28).ok _ M4) (SL.nil _ _)))))) (fun w_26 hc_28 => ?_)
   have h_27 := h_16.same hc_28
   refine qT rfl rfl (fun wq hS => R.move (v := (.slice oa k oc)) rfl) ?_
   refine qT rfl rfl (fun wq hS => R.move (v := (.slice ra z rc)) rfl) ?_
   refine qT rfl rfl (fun wq hS => R.move (v := (vn (ns.getD k 0))) rfl) ?_
   refine qT rfl rfl (fun wq hS => R.move (v := (vn (ns.getD k 0))) rfl) ?_
   refine qT rfl rfl (fun wq hS => R.sliceS3 (a := ra) (len := z) (l := 0) (h := ns.getD k 0) (m := ns.getD k 0) rfl EvB.dflt rfl rfl rfl rfl (by omega) (by omega) (by omega) Try.underlying37 Try.sizeOf5) ?_
   refine qT rfl rfl (fun wq hS => R.move (v := (.slice ra z rc)) rfl) ?_
   refine qT rfl rfl (fun wq hS => R.move (v := (vn (ns.getD k 0))) rfl) ?_
   refine qT rfl rfl (fun wq hS => R.sliceS (a := ra) (len := z) (l := ns.getD k 0) (h := z) rfl (EvB.it (l := ns.getD k 0) rfl rfl) EvB.dflt (by omega) (by omega) Try.underlying37 Try.sizeOf5) ?_
   refine WT.s (Op1.one rfl (Wn.no rfl) ?_)
   refine WL.buildSl (vs := [(0, (.slice (slA ra 0 (ns.getD k 0) 1) (ns.getD k 0) (ns.getD k 0)))]) (cs := [(.slice (slA ra 0 (ns.getD k 0) 1) (ns.getD k 0) (ns.getD k 0))]) h_27 Try.underlying36 Try.sizeOf37 (zv Try.typeInfo37 rfl) rfl rfl (by kernel_rfl) rfl (by simp [Value.oneCell']) rfl rfl (fun b_29 w_30 h_31 => ?_)
   refine WL.nil ?_
   refine ⟨(SL.cons (h_31.ok _ M2) (SL.cons (h_31.ok _ M3) (SL.cons (h_31.ok _ M4) (SL.cons (h_31.ok _ M5) (SL.nil _ _))))), ?_⟩
   refine WT.s (Op1.one rfl (Wn.no rfl) ?_)
   refine WL.append (km := k + 1) (xs := xs) (ys := [(.slice (slA ra 0 (ns.getD k 0) 1) (ns.getD k 0) (ns.getD k 0))]) (zs := xs ++ [(.slice (slA ra 0 (ns.getD k 0) 1) (ns.getD k 0) (ns.getD k 0))]) h_31 rfl rfl el36 (viewB (h_31.ok _ M0) Sg.h) rfl (by simp [Value.oneCell']) rfl (by omega) (by omega) (by omega) (fun _ _ => Y1) rfl (fun a_32 c_33 w_34 h_35 => ?_)
   refine WL.nil ?_
   refine ⟨(SL.cons (h_35.ok _ M2) (SL.cons (h_35.ok _ M3) (SL.cons (h_35.ok _ M4) (SL.cons (h_35.ok _ M5) (SL.nil _ _))))), ?_⟩
   refine qT rfl rfl (fun wq hS => R.assign (v := (.slice a_32 (k + 1) c_33)) rfl) ?_
   refine qT rfl rfl (fun wq hS => R.assign (v := (.slice (slA ra (ns.getD k 0) rc 1) (z - (ns.getD k 0)) (rc - (ns.getD k 0)))) rfl) ?_
   refine WT.nil (inb_n (thn_n (WP.reg ?_)))
   refine qV rfl (R.bin rfl rfl (bi_add (c := ((k + 1 : Nat) : Int)) (by omega) (by omega))) (qM (vn (k + 1)) rfl rfl ?_)
   refine WL.nil (thn_n ?_)
   obtain ⟨h_36, hg1, hg2⟩ := HP.cutPush (n := ns.getD k 0) (q := rc) (m := z) h_35 M2 M3 hz (by omega) (by omega) hf1 hf2
   have h_47 := ((((((((((h_36.up J2).drop rfl).up J3).drop rfl).up J3).drop rfl).up J4).up J4).up J2).up J3).up J4
   exact ⟨(k + 1, a_32, c_33, _, _, slA ra (ns.getD k 0) rc 1, rc - (ns.getD k 0), z - (ns.getD k 0), _), _, (by omega), (U2 rfl rfl (U4 rfl rfl rfl rfl (U4 rfl rfl rfl rfl (U4 rfl rfl rfl rfl (U4 rfl rfl rfl rfl (U4 rfl rfl rfl rfl (Ag.updL rfl (Ag.mix _ _ _)))))))), ⟨rfl, rfl, rfl, trivial⟩, h_47, (by omega), (by rw [List.length_drop, hz]), (by omega), (by omega), (by rw [List.length_append, hkl]; rfl), hg1, hg2, (Go.Wr.cut_next hsp (by omega) rfl (by omega)), rfl⟩
 ·have p_48 := of_decide_eq_false c_19
  refine WP.exit (thn_x (thn_x (inb_hit (thn_n (WP.seq (WP.seq (WP.reg ?_)))))))
  refine qM (.slice ra z rc) rfl rfl (qV rfl (R.lenS (a := ra) (m := z) rfl rfl Try.underlying37) (qV rfl (R.bin rfl rfl (bi_gtr (r := decide ((((z : Nat) : Int) : Int) > 0)) rfl)) ?_))
  refine WL.nil (thn_n ?_)
  refine WP.cond (b := decide ((((z : Nat) : Int) : Int) > 0)) rfl (fun c_49 => ?_) (fun c_49 => ?_)
  ·have p_50 := of_decide_eq_true c_49
   refine WP.seq (WP.reg ?_)
   refine qA (.slice none 0 0) rfl rfl (qA (vi 4) rfl rfl ?_)
   refine WL.nil (thn_n (WP.ret (thn_r ?_)))
   refine ret_of Try.results84 (RV.tmp (v := (.slice none 0 0)) rfl (RV.tmp (v := (vi 4)) rfl RV.nil)) ?_
   have hp_51 := p_48
   have hp_52 := p_50
   have hb := ((Go.Wr.cut_end hsp (by omega)).trans (if_neg (by rintro rfl; simp at hz; omega)))
   rw [hx] at hb; cases hb
  ·have p_53 := of_decide_eq_false c_49
   refine WP.skip (thn_n (WP.seq (WP.reg ?_)))
   refine qM (.slice oa k oc) rfl rfl (qA (.slice oa k oc) rfl rfl (qA (vi 0) rfl rfl ?_))
   refine WL.nil (thn_n (WP.ret ?_))
   refine ret_of Try.results84 (RV.tmp (v := (.slice oa k oc)) rfl (RV.tmp (v := (vi 0)) rfl RV.nil)) ?_
   have hd := (Go.Wr.cut_end hsp (by omega)).trans (if_pos (List.length_eq_zero_iff.1 (by omega)))
   rw [hd] at hx; obtain rfl := Option.some.inj hx
   refine ⟨oa, oc, xs, by rw [hkl]; rfl, h_16.chgS, (ownView (h_16.ok _ M0)), (h_16.ok _ M1).1, fun b hb => ?_⟩
   rcases List.mem_append.1 hb with hb | hb
   ·exact Own.blk (h_16.own M0) b hb
   ·exact hf1 b hb

end Go.Proofs.Ytnhppjimimhlkaa

namespace Go.Proofs.Ytnhppjimimhlkaa
open Go.Vc Go.Orc Go.Sh Go.RowKit
set_option maxRecDepth 20000

def markB : List UInt8 := ([114, 101, 112, 111, 114, 116, 0, 0] : List UInt8)
def repB (ins : UInt64) (me ch : List UInt8) : List UInt8 := [markB, leN 8 ins.toNat, me, ch].flatten
theorem repB_len {ins : UInt64} {me ch : List UInt8} (h1 : me.length = 32) (h2 : ch.length = 32) : (repB ins me ch).length = 80 := by
 simp [repB, markB, leN_len, h1, h2]
def cutR (bs : List UInt8) : List (List UInt8) := [bs.take 8, (bs.drop 8).take 8, ((bs.drop 8).drop 8).take 32, (((bs.drop 8).drop 8).drop 32).take 32]
theorem cutR_ok {bs : List UInt8} (h : bs.length = 80) : Go.Wr.cutL [8, 8, 32, 32] bs = some (cutR bs) := by
 simp only [Go.Wr.cutL, List.length_drop, h]
 rw [if_neg (by omega), if_neg (by omega), if_neg (by omega), if_neg (by omega), if_pos (List.length_eq_zero_iff.1 (by simp only [List.length_drop, h]))]
 rfl
theorem cutR_at {bs : List UInt8} (h : bs.length = 80) {i : Nat} (hi : i < 4) : ((cutR bs).getD i []).length = [8, 8, 32, 32].getD i 0 := by
 match i, hi with
 | 0, _ => simp [cutR, h]
 | 1, _ => simp [cutR, h]
 | 2, _ => simp [cutR, h]
 | 3, _ => simp [cutR, h]
theorem a_some0 {w : World} {a : Option Addr} {xs : List Value} (hv : View w a xs) (hx : 0 < xs.length) : a = some (gA a 0) := by
 obtain ⟨ad, rfl, _⟩ := hv 0 xs[0] (by simp [hx])
 obtain ⟨b, o, p⟩ := ad
 cases p <;> rfl
def ins_of (bs : List UInt8) : UInt64 := UInt64.ofNat (natLE ((bs.drop 8).take 8))
def me_of (bs : List UInt8) : List UInt8 := (bs.drop 16).take 32
def ch_of (bs : List UInt8) : List UInt8 := (bs.drop 48).take 32
theorem iss_len {a b : List UInt8} (h1 : a.length = 80) (h2 : b.length = 32) : (a ++ b).length = 112 := by rw [List.length_append, h1, h2]
theorem View.pfx {w : World} {a : Option Addr} {l : List UInt8} (k : Nat) (h : View w a (l.map vu8)) : View w a ((l.take k).map vu8) := fun i v hv => by
 refine h i v ?_
 rw [List.map_take] at hv
 have hlt : i < k := by
  by_cases e : i < k
  ·exact e
  ·rw [List.getElem?_take, if_neg e] at hv; cases hv
 rwa [List.getElem?_take, if_pos hlt] at hv
def tgQ1 (ms : List UInt8) : Qn := (3, ms, 9, ([] : List (List UInt8)).flatten)
def tgK (id : Bool) (df : List UInt8) (dn u : Nat) (lg : Lg) (ms : List UInt8) : List UInt8 := anD id df dn u lg (tgQ1 ms)
def tgQ2 (id : Bool) (df : List UInt8) (dn u : Nat) (lg : Lg) (ms b : List UInt8) : Qn := (2, tgK id df dn u lg ms, 7, [b].flatten)
def tgD (id : Bool) (df : List UInt8) (dn u : Nat) (lg : Lg) (ms b : List UInt8) : List UInt8 := anD id df dn (anU id u lg (tgQ1 ms)) (anL id df dn u lg (tgQ1 ms)) (tgQ2 id df dn u lg ms b)
def tgU (id : Bool) (df : List UInt8) (dn u : Nat) (lg : Lg) (ms b : List UInt8) : Nat := anU id (anU id u lg (tgQ1 ms)) (anL id df dn u lg (tgQ1 ms)) (tgQ2 id df dn u lg ms b)
def tgL (id : Bool) (df : List UInt8) (dn u : Nat) (lg : Lg) (ms b : List UInt8) : Lg := anL id df dn (anU id u lg (tgQ1 ms)) (anL id df dn u lg (tgQ1 ms)) (tgQ2 id df dn u lg ms b)
theorem tgD_len {id : Bool} {df : List UInt8} {dn u : Nat} {lg : Lg} {ms b : List UInt8} (h : df.length = 32 * dn) (hl : ok32 lg) : (tgD id df dn u lg ms b).length = 32 := anD_len h (anL_32 h hl)
theorem tgL_32 {id : Bool} {df : List UInt8} {dn u : Nat} {lg : Lg} {ms b : List UInt8} (h : df.length = 32 * dn) (hl : ok32 lg) : ok32 (tgL id df dn u lg ms b) := anL_32 h (anL_32 h hl)
theorem tgU_le (id : Bool) (df : List UInt8) (dn u : Nat) (lg : Lg) (ms b : List UInt8) : tgU id df dn u lg ms b ≤ u + 2 := by
 have h1 := anU_le id u lg (tgQ1 ms)
 have h2 := anU_le id (anU id u lg (tgQ1 ms)) (anL id df dn u lg (tgQ1 ms)) (tgQ2 id df dn u lg ms b)
 unfold tgU; omega
theorem tgL_le (id : Bool) (df : List UInt8) (dn u : Nat) (lg : Lg) (ms b : List UInt8) : (tgL id df dn u lg ms b).length ≤ lg.length + 2 := by
 have h1 := anL_le id df dn u lg (tgQ1 ms)
 have h2 := anL_le id df dn (anU id u lg (tgQ1 ms)) (anL id df dn u lg (tgQ1 ms)) (tgQ2 id df dn u lg ms b)
 unfold tgL; omega
theorem c_rSize  (w : World) :
  Cs Try.prog 49 [].toArray w (fun v w1 => v = (vi 80) ∧ Chg w w1 []) := by
 refine Cs.of (n := 1) (args := []) Try.func49 rfl rfl rfl ?_
 have h_0 := HP.init w
 refine WP.seq (WP.reg ?_)
 refine qA (vi 0) rfl rfl ?_
 refine WL.nil (thn_n (WP.seq (WP.reg ?_)))
 refine qA (vi 80) rfl rfl ?_
 refine WL.nil (thn_n (WP.ret ?_))
 refine ret_of Try.results49 (RV.tmp (v := (vi 80)) rfl RV.nil) ?_
 exact ⟨rfl, h_0.chgS⟩

theorem c_aSize  (w : World) :
  Cs Try.prog 19 [].toArray w (fun v w1 => v = (vi 112) ∧ Chg w w1 []) := by
 refine Cs.of (n := 3) (args := []) Try.func19 rfl rfl rfl ?_
 have h_0 := HP.init w
 refine WP.seq (WP.reg ?_)
 refine qA (vi 0) rfl rfl ?_
 refine WL.nil (thn_n (WP.seq (WP.reg ?_)))
 refine WL.call Try.call49 rfl rfl (c_rSize  _ ) rfl ?_
 rintro _ w_2 ⟨rfl, hc_1⟩
 have h_3 := h_0.same hc_1
 refine qV rfl (R.bin rfl rfl (bi_add (c := 112) (by omega) (by omega))) (qA (vi 112) rfl rfl ?_)
 refine WL.nil (thn_n (WP.ret ?_))
 refine ret_of Try.results19 (RV.tmp (v := (vi 112)) rfl RV.nil) ?_
 exact ⟨rfl, h_3.chgS⟩

theorem c_oKey_nil (dm : Int) (a : Option Addr) (n cap : Nat) (w : World) :
  Cs Try.prog 20 [(.pointer none), (vi dm), (.slice a n cap)].toArray w (fun v w1 => v = (.tuple [(.agg ⟨(List.replicate 32 (0 : UInt8)).map vu8⟩), (vi 1)].toArray) ∧ Chg w w1 []) := by
 refine Cs.of (n := 24) (args := [(.pointer none), (vi dm), (.slice a n cap)]) Try.func20 rfl rfl rfl ?_
 have h_0 := HP.init w
 refine WP.seq (WP.reg ?_)
 refine WL.alloc (segs := [(32, (List.replicate 32 (0 : UInt8)).map vu8)]) h_0 (zv Try.typeInfo23 rfl) rfl (SsOk.cons (SOk.u8 lr) SsOk.nil) rfl (fun b_1 w_2 h_3 => ?_)
 refine qA (vi 0) rfl rfl ?_
 refine WL.nil (thn_n (WP.seq (WP.seq (WP.reg ?_))))
 refine qM (.pointer none) rfl rfl ?_
 refine WL.call Try.call52 rfl rfl (c_othere_nil  _ ) rfl ?_
 rintro _ w_5 ⟨rfl, hc_4⟩
 have h_6 := h_3.same hc_4
 refine qV rfl (R.not (b := false) rfl) ?_
 refine WL.nil (thn_n ?_)
 refine WP.condT rfl ?_
 refine WP.seq (WP.reg ?_)
 refine qV rfl (R.buildA (vs := []) (cs := (List.replicate 32 (0 : UInt8)).map vu8) Try.underlying23 Try.sizeOf5 (zv Try.typeInfo23 rfl) rfl rfl) ?_
 refine WL.storeA (b := b_1) (off := 0) [] [(32, (List.replicate 32 (0 : UInt8)).map vu8)] [(32, (List.replicate 32 (0 : UInt8)).map vu8)] [] (ys := (List.replicate 32 (0 : UInt8)).map vu8) h_6 rfl rfl Try.sizeOf23 At.h (by decide) rfl rfl rfl rfl rfl rfl (SsOk.cons (SOk.u8 lr) SsOk.nil) (fun w_7 h_8 => ?_)
 refine qA (vi 1) rfl rfl ?_
 refine WL.nil (thn_n (WP.ret (thn_r ?_)))
 refine ret_of Try.results20 (RV.cell rfl (h_8.loadA (cs := (List.replicate 32 (0 : UInt8)).map vu8) Try.isAgg23 Try.sizeOf23 M0 rfl rfl) (RV.tmp (v := (vi 1)) rfl RV.nil)) ?_
 exact ⟨rfl, h_8.chgS⟩

theorem c_oKey {w00 : World} {L : List Ent} (id : Bool) (ob mp : Nat) (ms df : List UInt8) (hms : ms.length = 32) (da : Option Addr) (dn dc u : Nat) (hdf : df.length = 32 * dn) (la : Option Addr) (lc : Nat) (lx : List Value) (lg : Lg) (hu : u ≤ 1000000) (hlg : lg.length ≤ 1000000) (a : Option Addr) (n cap : Nat) (xs : List Value) (ls : List (List UInt8)) (hln : ls.length = n) (dm : Int) (hdm : 1 ≤ dm ∧ dm ≤ 16) (hb : ls.flatten.length ≤ 1000000000) (hnb : n ≤ 1000000) (w : World) (h_0 : HP w00 w (Ent.blk ob .nw 50 [(1, [(.bool id)]), (32, ms.map vu8), (1, [(.slice da dn dc)]), (1, [(vi ((u : Nat) : Int))]), (1, [(.map (some mp))]), (1, [(.slice la lg.length lc)])] :: Ent.row la lg.length lc 111 67 lx :: Ent.obj mp .nw (.map (mArr lg) lg.length) :: Ent.pin (sblks lx) (fun w => Lgs w lx lg) :: Ent.view da (df.map vu8) :: Ent.pin (sblks xs) (fun w => Sls w xs ls) :: Ent.view a xs :: L)) :
  Cs Try.prog 20 [(.pointer (some ⟨ob, 0, none⟩)), (vi dm), (.slice a n cap)].toArray w (fun v w1 => ∃ la' lc' lx', v = (.tuple [(.agg ⟨(anD id df dn u lg (3, ms, dm, ls.flatten)).map vu8⟩), (vi 0)].toArray) ∧ HP w00 w1 (Ent.blk ob .nw 50 [(1, [(.bool id)]), (32, ms.map vu8), (1, [(.slice da dn dc)]), (1, [(vi (((anU id u lg (3, ms, dm, ls.flatten)) : Nat) : Int))]), (1, [(.map (some mp))]), (1, [(.slice la' ((anL id df dn u lg (3, ms, dm, ls.flatten)).length) lc')])] :: Ent.row la' ((anL id df dn u lg (3, ms, dm, ls.flatten)).length) lc' 111 67 lx' :: Ent.obj mp .nw (.map (mArr (anL id df dn u lg (3, ms, dm, ls.flatten))) ((anL id df dn u lg (3, ms, dm, ls.flatten)).length)) :: Ent.pin (sblks lx') (fun w => Lgs w lx' (anL id df dn u lg (3, ms, dm, ls.flatten))) :: Ent.view da (df.map vu8) :: Ent.pin (sblks xs) (fun w => Sls w xs ls) :: Ent.view a xs :: L)) := by
 have hxs := (h_0.ok _ M5).1
 have hxl : xs.length = n := (Sls.len hxs).trans hln
 refine Cs.of (n := 24) (args := [(pO ob 0), (vi dm), (.slice a n cap)]) Try.func20 rfl rfl rfl ?_
 refine WP.seq (WP.reg ?_)
 refine WL.alloc (segs := [(32, (List.replicate 32 (0 : UInt8)).map vu8)]) h_0 (zv Try.typeInfo23 rfl) rfl (SsOk.cons (SOk.u8 lr) SsOk.nil) rfl (fun b_1 w_2 h_3 => ?_)
 refine qA (vi 0) rfl rfl ?_
 refine WL.nil (thn_n (WP.seq (WP.seq (WP.reg ?_))))
 refine qM (pO ob 0) rfl rfl ?_
 refine WL.call Try.call52 rfl rfl (c_othere id ob mp ms hms da dn dc u la lg.length lc _ (h_3.argR M1)) rfl ?_
 rintro _ w_5 ⟨rfl, hc_4⟩
 have h_6 := h_3.same hc_4
 refine qV rfl (R.not (b := true) rfl) ?_
 refine WL.nil (thn_n ?_)
 refine WP.condF rfl ?_
 refine WP.skip (thn_n (WP.seq ?_))
 refine WP.cutG (G := Option Addr × Nat × Option Addr × Nat × List Value) [7, 12, 13, 14, 15, 16, 17, 18, 19, 20, 21, 22, 23] (fun (aY3Y7Y0Y0, capY3Y7Y0Y0, laY3Y9Y0Y0, lcY3Y9Y0Y0, lxY3Y9Y0Y0) => [(7, (vi 0)), (12, (pO ob 0)), (13, (pO ob 0)), (14, (pO ob 0)), (15, (pO ob 1)), (17, (vi dm)), (18, (.slice a n cap)), (16, (.agg ⟨ms.map vu8⟩)), (19, (.slice aY3Y7Y0Y0 ls.flatten.length capY3Y7Y0Y0)), (20, (.agg ⟨flat [(1, [(vi 3)]), (32, ms.map vu8), (1, [(vi dm)]), (1, [(.slice aY3Y7Y0Y0 ls.flatten.length capY3Y7Y0Y0)])]⟩)), (21, (.tuple [(.agg ⟨(anD id df dn u lg (3, ms, dm, ls.flatten)).map vu8⟩), (vi 0)].toArray)), (22, (.agg ⟨(anD id df dn u lg (3, ms, dm, ls.flatten)).map vu8⟩)), (23, (vi 0))]) (fun (aY3Y7Y0Y0, capY3Y7Y0Y0, laY3Y9Y0Y0, lcY3Y9Y0Y0, lxY3Y9Y0Y0) w1 => HP w00 w1 (Ent.blk ob .nw 50 [(1, [(.bool id)]), (32, ms.map vu8), (1, [(.slice da dn dc)]), (1, [(vn (anU id u lg (3, ms, dm, ls.flatten)))]), (1, [(.map (some mp))]), (1, [(.slice laY3Y9Y0Y0 ((anL id df dn u lg (3, ms, dm, ls.flatten)).length) lcY3Y9Y0Y0)])] :: Ent.row laY3Y9Y0Y0 ((anL id df dn u lg (3, ms, dm, ls.flatten)).length) lcY3Y9Y0Y0 111 67 lxY3Y9Y0Y0 :: Ent.obj mp .nw (.map (mArr (anL id df dn u lg (3, ms, dm, ls.flatten))) ((anL id df dn u lg (3, ms, dm, ls.flatten)).length)) :: Ent.pin (sblks lxY3Y9Y0Y0) (fun w => Lgs w lxY3Y9Y0Y0 (anL id df dn u lg (3, ms, dm, ls.flatten))) :: Ent.view da (df.map vu8) :: Ent.view aY3Y7Y0Y0 (ls.flatten.map vu8) :: Ent.blk b_1 .nw 23 [(32, (anD id df dn u lg (3, ms, dm, ls.flatten)).map vu8)] :: Ent.pin (sblks xs) (fun w => Sls w xs ls) :: Ent.view a xs :: L)) ?_ ?_
 ·refine WP.drawT (SL w00.heap.size [.pin (sblks xs) (fun w => Sls w xs ls), .view a xs]) (.q 0 (.q 1 (.q 2 (.q 3 (.q 5 (.q 6 (.s2 4 7 (.s 7 (.q 8 (.s 9 (.q 10 (.q 11 (.s 12 (.q 13 .nil))))))) (.s 4 (.q 8 (.s 9 (.q 10 (.q 11 (.s 12 (.q 13 .nil)))))))))))))) (by kernel_rfl) (by kernel_rfl) rfl (by kernel_rfl) (fun w_7 hc_9 => (SL.cons ((h_6.same hc_9).ok _ M6) (SL.cons ((h_6.same hc_9).ok _ M7) (SL.nil _ _)))) (fun w_7 hc_9 => ?_)
  have h_8 := h_6.same hc_9
  refine qT rfl rfl (fun wq hS => R.move (v := (pO ob 0)) rfl) ?_
  refine qT rfl rfl (fun wq hS => R.move (v := (pO ob 0)) rfl) ?_
  refine qT rfl rfl (fun wq hS => R.nilCheck rfl) ?_
  refine qT rfl rfl (fun wq hS => R.fieldAddr (b := ob) (off := 0) (off' := 1) rfl Try.underlying50 rfl Try.sizeOf23 rfl rfl) ?_
  refine qT rfl rfl (fun wq hS => R.move (v := (vi dm)) rfl) ?_
  refine qT rfl rfl (fun wq hS => R.move (v := (.slice a n cap)) rfl) ?_
  refine WT.s2 ?_ ?_
  ·refine Op1.one rfl (Wn.no rfl) ?_
   refine qV rfl (R.loadA (b := ob) (off := 1) [(1, [(.bool id)])] [(32, ms.map vu8)] [(1, [(.slice da dn dc)]), (1, [(vn u)]), (1, [(.map (some mp))]), (1, [(.slice la lg.length lc)])] (cs := ms.map vu8) rfl Try.isAgg23 Try.sizeOf23 (h_8.ok _ M1) rfl rfl rfl rfl) ?_
   refine WL.nil ?_
   refine ⟨(SL.cons (h_8.ok _ M6) (SL.cons (h_8.ok _ M7) (SL.nil _ _))), ?_⟩
   refine WT.s (Op1.one rfl (Wn.no rfl) ?_)
   refine WL.call Try.call53 rfl rfl (c_joined a n cap xs ls hln (by omega) (by omega) _ (viewV (h_8.ok _ M7)) (h_8.ok _ M6).1) rfl ?_
   rintro _ w_12 ⟨a_10, cap_11, rfl, hc_13, ho_14⟩
   have h_15 := h_8.gotRow hc_13 ho_14
   refine WL.nil ?_
   refine ⟨(SL.cons (h_15.ok _ M7) (SL.cons (h_15.ok _ M8) (SL.nil _ _))), ?_⟩
   refine qT rfl rfl (fun wq hS => R.buildS (pl := [(0, 1), (1, 32), (33, 1), (34, 1)]) (zs := [(1, [(vi 0)]), (32, (List.replicate 32 (0 : UInt8)).map vu8), (1, [(vi 0)]), (1, [(.slice none 0 0)])]) (vs := [(0, (vi 3)), (1, (.agg ⟨ms.map vu8⟩)), (2, (vi dm)), (3, (.slice a_10 ls.flatten.length cap_11))]) (out := [(1, [(vi 3)]), (32, ms.map vu8), (1, [(vi dm)]), (1, [(.slice a_10 ls.flatten.length cap_11)])]) (cs := flat [(1, [(vi 3)]), (32, ms.map vu8), (1, [(vi dm)]), (1, [(.slice a_10 ls.flatten.length cap_11)])]) Try.underlying103 (zv Try.typeInfo103 rfl) rfl (SsOk.cons (SOk.v rfl) (SsOk.cons (SOk.u8 lr) (SsOk.cons (SOk.v rfl) (SsOk.cons (SOk.v rfl) SsOk.nil)))) (pl103 _ Try.underlying103) rfl (FillR.cons [] [(1, [(vi 0)])] [(1, [(vi 3)])] [(32, (List.replicate 32 (0 : UInt8)).map vu8), (1, [(vi 0)]), (1, [(.slice none 0 0)])] rfl rfl rfl rfl (SsOk.cons (SOk.v rfl) SsOk.nil) rfl rfl rfl (FillR.cons [(1, [(vi 3)])] [(32, (List.replicate 32 (0 : UInt8)).map vu8)] [(32, ms.map vu8)] [(1, [(vi 0)]), (1, [(.slice none 0 0)])] rfl rfl rfl rfl (SsOk.cons (SOk.u8 hms) SsOk.nil) rfl rfl rfl (FillR.cons [(1, [(vi 3)]), (32, ms.map vu8)] [(1, [(vi 0)])] [(1, [(vi dm)])] [(1, [(.slice none 0 0)])] rfl rfl rfl rfl (SsOk.cons (SOk.v rfl) SsOk.nil) rfl rfl rfl (FillR.cons [(1, [(vi 3)]), (32, ms.map vu8), (1, [(vi dm)])] [(1, [(.slice none 0 0)])] [(1, [(.slice a_10 ls.flatten.length cap_11)])] [] rfl rfl rfl rfl (SsOk.cons (SOk.v rfl) SsOk.nil) rfl rfl rfl FillR.nil)))) rfl) ?_
   refine WT.s (Op1.one rfl (Wn.no rfl) ?_)
   have h_17 := h_15.rowView
   have h_22 := ((((h_17.up J6).up J6).up J6).up J6).up J6
   have h32_w_26 := (Lgs.ok32 (h_22.ok _ M3).1)
   refine WL.call Try.call48 rfl rfl (c_oAsk id ob mp ms df hms da dn dc u hdf la lc lx lg hu hlg 3 dm ms ls.flatten a_10 ls.flatten.length cap_11 ⟨hms, by show (1 : Int) ≤ 3 ∧ (3 : Int) ≤ 4; omega, by show (1 : Int) ≤ dm ∧ (dm : Int) ≤ 16; omega, by show List.length ls.flatten ≤ 1000000000; first | decide | (simp only [List.length_append, leN_len]; omega) | omega⟩ (rfl : List.length ls.flatten = ls.flatten.length) (by decide) (fun h => by omega) _ h_22) rfl ?_
   rintro _ w_26 ⟨la_23, lc_24, lx_25, rfl, h_27⟩
   refine WL.nil ?_
   refine ⟨(SL.cons (h_27.ok _ M7) (SL.cons (h_27.ok _ M8) (SL.nil _ _))), ?_⟩
   refine qT rfl rfl (fun wq hS => R.extract rfl rfl) ?_
   refine qT rfl rfl (fun wq hS => R.extract rfl rfl) ?_
   refine WT.s (Op1.one rfl (Wn.no rfl) ?_)
   refine WL.storeA (b := b_1) (off := 0) [] [(32, (List.replicate 32 (0 : UInt8)).map vu8)] [(32, (anD id df dn u lg (3, ms, dm, ls.flatten)).map vu8)] [] (ys := (anD id df dn u lg (3, ms, dm, ls.flatten)).map vu8) h_27 rfl rfl Try.sizeOf23 Y6 (by decide) rfl rfl rfl rfl rfl rfl (SsOk.cons (SOk.u8 (anD_len hdf h32_w_26)) SsOk.nil) (fun w_28 h_29 => ?_)
   refine WL.nil ?_
   refine ⟨(SL.cons (h_29.ok _ M7) (SL.cons (h_29.ok _ M8) (SL.nil _ _))), ?_⟩
   refine qT rfl rfl (fun wq hS => R.assign (v := (vi 0)) rfl) ?_
   refine WT.nil (thn_n ?_)
   exact ⟨(a_10, cap_11, la_23, lc_24, lx_25), (Ag.upd rfl (U4 rfl rfl rfl rfl (U4 rfl rfl rfl rfl (U4 rfl rfl rfl rfl (Ag.refl _ _))))), ⟨rfl, rfl, rfl, rfl, rfl, rfl, rfl, rfl, rfl, rfl, rfl, rfl, rfl, trivial⟩, h_29⟩
  ·refine Op1.one rfl (Wn.no rfl) ?_
   refine WL.call Try.call53 rfl rfl (c_joined a n cap xs ls hln (by omega) (by omega) _ (viewV (h_8.ok _ M7)) (h_8.ok _ M6).1) rfl ?_
   rintro _ w_32 ⟨a_30, cap_31, rfl, hc_33, ho_34⟩
   have h_35 := h_8.gotRow hc_33 ho_34
   refine WL.nil ?_
   refine ⟨(SL.cons (h_35.ok _ M7) (SL.cons (h_35.ok _ M8) (SL.nil _ _))), ?_⟩
   refine WT.s (Op1.one rfl (Wn.no rfl) ?_)
   refine qV rfl (R.loadA (b := ob) (off := 1) [(1, [(.bool id)])] [(32, ms.map vu8)] [(1, [(.slice da dn dc)]), (1, [(vn u)]), (1, [(.map (some mp))]), (1, [(.slice la lg.length lc)])] (cs := ms.map vu8) rfl Try.isAgg23 Try.sizeOf23 (h_35.ok _ M2) rfl rfl rfl rfl) ?_
   refine WL.nil ?_
   refine ⟨(SL.cons (h_35.ok _ M7) (SL.cons (h_35.ok _ M8) (SL.nil _ _))), ?_⟩
   refine qT rfl rfl (fun wq hS => R.buildS (pl := [(0, 1), (1, 32), (33, 1), (34, 1)]) (zs := [(1, [(vi 0)]), (32, (List.replicate 32 (0 : UInt8)).map vu8), (1, [(vi 0)]), (1, [(.slice none 0 0)])]) (vs := [(0, (vi 3)), (1, (.agg ⟨ms.map vu8⟩)), (2, (vi dm)), (3, (.slice a_30 ls.flatten.length cap_31))]) (out := [(1, [(vi 3)]), (32, ms.map vu8), (1, [(vi dm)]), (1, [(.slice a_30 ls.flatten.length cap_31)])]) (cs := flat [(1, [(vi 3)]), (32, ms.map vu8), (1, [(vi dm)]), (1, [(.slice a_30 ls.flatten.length cap_31)])]) Try.underlying103 (zv Try.typeInfo103 rfl) rfl (SsOk.cons (SOk.v rfl) (SsOk.cons (SOk.u8 lr) (SsOk.cons (SOk.v rfl) (SsOk.cons (SOk.v rfl) SsOk.nil)))) (pl103 _ Try.underlying103) rfl (FillR.cons [] [(1, [(vi 0)])] [(1, [(vi 3)])] [(32, (List.replicate 32 (0 : UInt8)).map vu8), (1, [(vi 0)]), (1, [(.slice none 0 0)])] rfl rfl rfl rfl (SsOk.cons (SOk.v rfl) SsOk.nil) rfl rfl rfl (FillR.cons [(1, [(vi 3)])] [(32, (List.replicate 32 (0 : UInt8)).map vu8)] [(32, ms.map vu8)] [(1, [(vi 0)]), (1, [(.slice none 0 0)])] rfl rfl rfl rfl (SsOk.cons (SOk.u8 hms) SsOk.nil) rfl rfl rfl (FillR.cons [(1, [(vi 3)]), (32, ms.map vu8)] [(1, [(vi 0)])] [(1, [(vi dm)])] [(1, [(.slice none 0 0)])] rfl rfl rfl rfl (SsOk.cons (SOk.v rfl) SsOk.nil) rfl rfl rfl (FillR.cons [(1, [(vi 3)]), (32, ms.map vu8), (1, [(vi dm)])] [(1, [(.slice none 0 0)])] [(1, [(.slice a_30 ls.flatten.length cap_31)])] [] rfl rfl rfl rfl (SsOk.cons (SOk.v rfl) SsOk.nil) rfl rfl rfl FillR.nil)))) rfl) ?_
   refine WT.s (Op1.one rfl (Wn.no rfl) ?_)
   have h_37 := h_35.rowView
   have h_42 := ((((h_37.up J6).up J6).up J6).up J6).up J6
   have h32_w_46 := (Lgs.ok32 (h_42.ok _ M3).1)
   refine WL.call Try.call48 rfl rfl (c_oAsk id ob mp ms df hms da dn dc u hdf la lc lx lg hu hlg 3 dm ms ls.flatten a_30 ls.flatten.length cap_31 ⟨hms, by show (1 : Int) ≤ 3 ∧ (3 : Int) ≤ 4; omega, by show (1 : Int) ≤ dm ∧ (dm : Int) ≤ 16; omega, by show List.length ls.flatten ≤ 1000000000; first | decide | (simp only [List.length_append, leN_len]; omega) | omega⟩ (rfl : List.length ls.flatten = ls.flatten.length) (by decide) (fun h => by omega) _ h_42) rfl ?_
   rintro _ w_46 ⟨la_43, lc_44, lx_45, rfl, h_47⟩
   refine WL.nil ?_
   refine ⟨(SL.cons (h_47.ok _ M7) (SL.cons (h_47.ok _ M8) (SL.nil _ _))), ?_⟩
   refine qT rfl rfl (fun wq hS => R.extract rfl rfl) ?_
   refine qT rfl rfl (fun wq hS => R.extract rfl rfl) ?_
   refine WT.s (Op1.one rfl (Wn.no rfl) ?_)
   refine WL.storeA (b := b_1) (off := 0) [] [(32, (List.replicate 32 (0 : UInt8)).map vu8)] [(32, (anD id df dn u lg (3, ms, dm, ls.flatten)).map vu8)] [] (ys := (anD id df dn u lg (3, ms, dm, ls.flatten)).map vu8) h_47 rfl rfl Try.sizeOf23 Y6 (by decide) rfl rfl rfl rfl rfl rfl (SsOk.cons (SOk.u8 (anD_len hdf h32_w_46)) SsOk.nil) (fun w_48 h_49 => ?_)
   refine WL.nil ?_
   refine ⟨(SL.cons (h_49.ok _ M7) (SL.cons (h_49.ok _ M8) (SL.nil _ _))), ?_⟩
   refine qT rfl rfl (fun wq hS => R.assign (v := (vi 0)) rfl) ?_
   refine WT.nil (thn_n ?_)
   exact ⟨(a_30, cap_31, la_43, lc_44, lx_45), (Ag.upd rfl (U4 rfl rfl rfl rfl (U4 rfl rfl rfl rfl (U4 rfl rfl rfl rfl (Ag.refl _ _))))), ⟨rfl, rfl, rfl, rfl, rfl, rfl, rfl, rfl, rfl, rfl, rfl, rfl, rfl, trivial⟩, h_49⟩
 ·rintro ⟨a_53, cap_54, la_55, lc_56, lx_57⟩ J_50 w_51 h_52
  refine thn_n (WP.ret ?_)
  refine ret_of Try.results20 (RV.cell rfl (h_52.loadA (cs := (anD id df dn u lg (3, ms, dm, ls.flatten)).map vu8) Try.isAgg23 Try.sizeOf23 M6 rfl rfl) (RV.tmp (v := (vi 0)) rfl RV.nil)) ?_
  have h_68 := ((((((((((h_52.up J5).drop rfl).up J5).drop rfl).up J6).up J6).up J6).up J6).up J6).up J6).up J6
  exact ⟨_, _, _, rfl, h_68⟩

theorem c_oTag1 {w00 : World} {L : List Ent} (id : Bool) (ob mp : Nat) (ms df : List UInt8) (hms : ms.length = 32) (da : Option Addr) (dn dc u : Nat) (hdf : df.length = 32 * dn) (la : Option Addr) (lc : Nat) (lx : List Value) (lg : Lg) (hu : u ≤ 1000000) (hlg : lg.length ≤ 1000000) (key : List UInt8) (hk : key.length = 32) (dm : Int) (hdm : 1 ≤ dm ∧ dm ≤ 16) (bl : Nat) (ra : Option Addr) (rn rc : Nat) (rb : List UInt8) (hrb : rb.length = rn) (hrn : rn ≤ 100000) (w : World) (h_0 : HP w00 w (Ent.blk ob .nw 50 [(1, [(.bool id)]), (32, ms.map vu8), (1, [(.slice da dn dc)]), (1, [(vi ((u : Nat) : Int))]), (1, [(.map (some mp))]), (1, [(.slice la lg.length lc)])] :: Ent.row la lg.length lc 111 67 lx :: Ent.obj mp .nw (.map (mArr lg) lg.length) :: Ent.pin (sblks lx) (fun w => Lgs w lx lg) :: Ent.view da (df.map vu8) :: Ent.blk bl .nw 37 [(1, [(.slice ra rn rc)])] :: Ent.row ra rn rc 5 1 (rb.map vu8) :: L)) :
  Cs Try.prog 21 [(.pointer (some ⟨ob, 0, none⟩)), (.agg ⟨key.map vu8⟩), (vi dm), (.slice (some ⟨bl, 0, none⟩) 1 1)].toArray w (fun v w1 => ∃ la' lc' lx', v = (.tuple [(.agg ⟨(anD id df dn u lg (2, key, dm, [rb].flatten)).map vu8⟩), (vi 0)].toArray) ∧ HP w00 w1 (Ent.blk ob .nw 50 [(1, [(.bool id)]), (32, ms.map vu8), (1, [(.slice da dn dc)]), (1, [(vi (((anU id u lg (2, key, dm, [rb].flatten)) : Nat) : Int))]), (1, [(.map (some mp))]), (1, [(.slice la' ((anL id df dn u lg (2, key, dm, [rb].flatten)).length) lc')])] :: Ent.row la' ((anL id df dn u lg (2, key, dm, [rb].flatten)).length) lc' 111 67 lx' :: Ent.obj mp .nw (.map (mArr (anL id df dn u lg (2, key, dm, [rb].flatten))) ((anL id df dn u lg (2, key, dm, [rb].flatten)).length)) :: Ent.pin (sblks lx') (fun w => Lgs w lx' (anL id df dn u lg (2, key, dm, [rb].flatten))) :: Ent.view da (df.map vu8) :: Ent.blk bl .nw 37 [(1, [(.slice ra rn rc)])] :: Ent.row ra rn rc 5 1 (rb.map vu8) :: L)) := by
 have hfl : [rb].flatten.length = rn := by simp [hrb]
 refine Cs.of (n := 19) (args := [(pO ob 0), (.agg ⟨key.map vu8⟩), (vi dm), (.slice (some ⟨bl, 0, none⟩) 1 1)]) Try.func21 rfl rfl rfl ?_
 refine WP.seq (WP.reg ?_)
 refine WL.box (v := (.agg ⟨key.map vu8⟩)) (segs := [(32, key.map vu8)]) h_0 rfl rfl (SsOk.cons (SOk.u8 hk) SsOk.nil) rfl (fun b_1 w_2 h_3 => ?_)
 refine WL.alloc (segs := [(32, (List.replicate 32 (0 : UInt8)).map vu8)]) h_3 (zv Try.typeInfo23 rfl) rfl (SsOk.cons (SOk.u8 lr) SsOk.nil) rfl (fun b_4 w_5 h_6 => ?_)
 refine qA (vi 0) rfl rfl ?_
 refine WL.nil (thn_n (WP.seq ?_))
 refine WP.drawT (SL w00.heap.size [.blk b_1 .nw 23 [(32, key.map vu8)], .blk bl .nw 37 [(1, [(.slice ra rn rc)])], .row ra rn rc 5 1 (rb.map vu8)]) (.q 0 (.q 1 (.q 2 (.q 3 (.s 4 (.q 5 (.s 6 (.q 7 (.q 8 (.s 9 (.q 10 .nil))))))))))) (by kernel_rfl) (by kernel_rfl) rfl (by kernel_rfl) (fun w_7 hc_9 => (SL.cons ((h_6.same hc_9).ok _ M1) (SL.cons ((h_6.same hc_9).ok _ M7) (SL.cons ((h_6.same hc_9).ok _ M8) (SL.nil _ _))))) (fun w_7 hc_9 => ?_)
 have h_8 := h_6.same hc_9
 refine qT rfl rfl (fun wq hS => R.move (v := (pO ob 0)) rfl) ?_
 refine qT rfl rfl (fun wq hS => R.loadA (b := b_1) (off := 0) [] [(32, key.map vu8)] [] (cs := key.map vu8) rfl Try.isAgg23 Try.sizeOf23 (hS _ M0) rfl rfl rfl rfl) ?_
 refine qT rfl rfl (fun wq hS => R.move (v := (vi dm)) rfl) ?_
 refine qT rfl rfl (fun wq hS => R.move (v := (.slice (some ⟨bl, 0, none⟩) 1 1)) rfl) ?_
 refine WT.s (Op1.one rfl (Wn.no rfl) ?_)
 refine WL.call Try.call53 rfl rfl (c_joined (some ⟨bl, 0, none⟩) 1 1 [(.slice ra rn rc)] [rb] rfl (by omega) (by omega) _ (viewB (h_8.ok _ M7) Sg.h) (Sls.cons hrb (h_8.own M8).2.2.1 (ownView (h_8.ok _ M8)) Sls.nil)) rfl ?_
 rintro _ w_12 ⟨a_10, cap_11, rfl, hc_13, ho_14⟩
 have h_15 := h_8.gotRow hc_13 ho_14
 refine WL.nil ?_
 refine ⟨(SL.cons (h_15.ok _ M2) (SL.cons (h_15.ok _ M8) (SL.cons (h_15.ok _ M9) (SL.nil _ _)))), ?_⟩
 refine qT rfl rfl (fun wq hS => R.buildS (pl := [(0, 1), (1, 32), (33, 1), (34, 1)]) (zs := [(1, [(vi 0)]), (32, (List.replicate 32 (0 : UInt8)).map vu8), (1, [(vi 0)]), (1, [(.slice none 0 0)])]) (vs := [(0, (vi 2)), (1, (.agg ⟨key.map vu8⟩)), (2, (vi dm)), (3, (.slice a_10 ([rb].flatten.length) cap_11))]) (out := [(1, [(vi 2)]), (32, key.map vu8), (1, [(vi dm)]), (1, [(.slice a_10 ([rb].flatten.length) cap_11)])]) (cs := flat [(1, [(vi 2)]), (32, key.map vu8), (1, [(vi dm)]), (1, [(.slice a_10 ([rb].flatten.length) cap_11)])]) Try.underlying103 (zv Try.typeInfo103 rfl) rfl (SsOk.cons (SOk.v rfl) (SsOk.cons (SOk.u8 lr) (SsOk.cons (SOk.v rfl) (SsOk.cons (SOk.v rfl) SsOk.nil)))) (pl103 _ Try.underlying103) rfl (FillR.cons [] [(1, [(vi 0)])] [(1, [(vi 2)])] [(32, (List.replicate 32 (0 : UInt8)).map vu8), (1, [(vi 0)]), (1, [(.slice none 0 0)])] rfl rfl rfl rfl (SsOk.cons (SOk.v rfl) SsOk.nil) rfl rfl rfl (FillR.cons [(1, [(vi 2)])] [(32, (List.replicate 32 (0 : UInt8)).map vu8)] [(32, key.map vu8)] [(1, [(vi 0)]), (1, [(.slice none 0 0)])] rfl rfl rfl rfl (SsOk.cons (SOk.u8 hk) SsOk.nil) rfl rfl rfl (FillR.cons [(1, [(vi 2)]), (32, key.map vu8)] [(1, [(vi 0)])] [(1, [(vi dm)])] [(1, [(.slice none 0 0)])] rfl rfl rfl rfl (SsOk.cons (SOk.v rfl) SsOk.nil) rfl rfl rfl (FillR.cons [(1, [(vi 2)]), (32, key.map vu8), (1, [(vi dm)])] [(1, [(.slice none 0 0)])] [(1, [(.slice a_10 ([rb].flatten.length) cap_11)])] [] rfl rfl rfl rfl (SsOk.cons (SOk.v rfl) SsOk.nil) rfl rfl rfl FillR.nil)))) rfl) ?_
 refine WT.s (Op1.one rfl (Wn.no rfl) ?_)
 have h_17 := h_15.rowView
 have h_22 := ((((h_17.up J7).up J7).up J7).up J7).up J7
 have h32_w_26 := (Lgs.ok32 (h_22.ok _ M3).1)
 refine WL.call Try.call48 rfl rfl (c_oAsk id ob mp ms df hms da dn dc u hdf la lc lx lg hu hlg 2 dm key ([rb].flatten) a_10 ([rb].flatten.length) cap_11 ⟨hk, by show (1 : Int) ≤ 2 ∧ (2 : Int) ≤ 4; omega, by show (1 : Int) ≤ dm ∧ (dm : Int) ≤ 16; omega, by show List.length ([rb].flatten) ≤ 1000000000; first | decide | (simp only [List.length_append, leN_len]; omega) | omega⟩ (rfl : List.length ([rb].flatten) = [rb].flatten.length) (by decide) (fun h => by omega) _ h_22) rfl ?_
 rintro _ w_26 ⟨la_23, lc_24, lx_25, rfl, h_27⟩
 refine WL.nil ?_
 refine ⟨(SL.cons (h_27.ok _ M7) (SL.cons (h_27.ok _ M8) (SL.cons (h_27.ok _ M9) (SL.nil _ _)))), ?_⟩
 refine qT rfl rfl (fun wq hS => R.extract rfl rfl) ?_
 refine qT rfl rfl (fun wq hS => R.extract rfl rfl) ?_
 refine WT.s (Op1.one rfl (Wn.no rfl) ?_)
 refine WL.storeA (b := b_4) (off := 0) [] [(32, (List.replicate 32 (0 : UInt8)).map vu8)] [(32, (anD id df dn u lg (2, key, dm, ([rb].flatten))).map vu8)] [] (ys := (anD id df dn u lg (2, key, dm, ([rb].flatten))).map vu8) h_27 rfl rfl Try.sizeOf23 Y6 (by decide) rfl rfl rfl rfl rfl rfl (SsOk.cons (SOk.u8 (anD_len hdf h32_w_26)) SsOk.nil) (fun w_28 h_29 => ?_)
 refine WL.nil ?_
 refine ⟨(SL.cons (h_29.ok _ M7) (SL.cons (h_29.ok _ M8) (SL.cons (h_29.ok _ M9) (SL.nil _ _)))), ?_⟩
 refine qT rfl rfl (fun wq hS => R.assign (v := (vi 0)) rfl) ?_
 refine WT.nil (thn_n (WP.ret ?_))
 refine ret_of Try.results21 (RV.cell rfl (h_29.loadA (cs := (anD id df dn u lg (2, key, dm, ([rb].flatten))).map vu8) Try.isAgg23 Try.sizeOf23 M6 rfl rfl) (RV.tmp (v := (vi 0)) rfl RV.nil)) ?_
 have h_42 := ((((((((((((h_29.up J5).drop rfl).up J5).drop rfl).up J5).drop rfl).up J6).up J6).up J6).up J6).up J6).up J6).up J6
 exact ⟨_, _, _, rfl, h_42⟩

theorem c_oTag1p {w00 : World} {L : List Ent} (id : Bool) (ob mp : Nat) (ms df : List UInt8) (hms : ms.length = 32) (da : Option Addr) (dn dc u : Nat) (hdf : df.length = 32 * dn) (la : Option Addr) (lc : Nat) (lx : List Value) (lg : Lg) (hu : u ≤ 1000000) (hlg : lg.length ≤ 1000000) (key : List UInt8) (hk : key.length = 32) (dm : Int) (hdm : 1 ≤ dm ∧ dm ≤ 16) (bl : Nat) (ra : Option Addr) (rn rk rc rc2 : Nat) (rb : List UInt8) (hrb : rb.length = rn) (hrk : rk ≤ rn) (hkc : rk ≤ rc) (hrn : rn ≤ 100000) (w : World) (h_0 : HP w00 w (Ent.blk ob .nw 50 [(1, [(.bool id)]), (32, ms.map vu8), (1, [(.slice da dn dc)]), (1, [(vi ((u : Nat) : Int))]), (1, [(.map (some mp))]), (1, [(.slice la lg.length lc)])] :: Ent.row la lg.length lc 111 67 lx :: Ent.obj mp .nw (.map (mArr lg) lg.length) :: Ent.pin (sblks lx) (fun w => Lgs w lx lg) :: Ent.view da (df.map vu8) :: Ent.blk bl .nw 37 [(1, [(.slice ra rk rc)])] :: Ent.row ra rn rc2 5 1 (rb.map vu8) :: L)) :
  Cs Try.prog 21 [(.pointer (some ⟨ob, 0, none⟩)), (.agg ⟨key.map vu8⟩), (vi dm), (.slice (some ⟨bl, 0, none⟩) 1 1)].toArray w (fun v w1 => ∃ la' lc' lx', v = (.tuple [(.agg ⟨(anD id df dn u lg (2, key, dm, [rb.take rk].flatten)).map vu8⟩), (vi 0)].toArray) ∧ HP w00 w1 (Ent.blk ob .nw 50 [(1, [(.bool id)]), (32, ms.map vu8), (1, [(.slice da dn dc)]), (1, [(vi (((anU id u lg (2, key, dm, [rb.take rk].flatten)) : Nat) : Int))]), (1, [(.map (some mp))]), (1, [(.slice la' ((anL id df dn u lg (2, key, dm, [rb.take rk].flatten)).length) lc')])] :: Ent.row la' ((anL id df dn u lg (2, key, dm, [rb.take rk].flatten)).length) lc' 111 67 lx' :: Ent.obj mp .nw (.map (mArr (anL id df dn u lg (2, key, dm, [rb.take rk].flatten))) ((anL id df dn u lg (2, key, dm, [rb.take rk].flatten)).length)) :: Ent.pin (sblks lx') (fun w => Lgs w lx' (anL id df dn u lg (2, key, dm, [rb.take rk].flatten))) :: Ent.view da (df.map vu8) :: Ent.blk bl .nw 37 [(1, [(.slice ra rk rc)])] :: Ent.row ra rn rc2 5 1 (rb.map vu8) :: L)) := by
 have hfl : [rb.take rk].flatten.length = rk := by simp [hrb]; omega
 refine Cs.of (n := 19) (args := [(pO ob 0), (.agg ⟨key.map vu8⟩), (vi dm), (.slice (some ⟨bl, 0, none⟩) 1 1)]) Try.func21 rfl rfl rfl ?_
 refine WP.seq (WP.reg ?_)
 refine WL.box (v := (.agg ⟨key.map vu8⟩)) (segs := [(32, key.map vu8)]) h_0 rfl rfl (SsOk.cons (SOk.u8 hk) SsOk.nil) rfl (fun b_1 w_2 h_3 => ?_)
 refine WL.alloc (segs := [(32, (List.replicate 32 (0 : UInt8)).map vu8)]) h_3 (zv Try.typeInfo23 rfl) rfl (SsOk.cons (SOk.u8 lr) SsOk.nil) rfl (fun b_4 w_5 h_6 => ?_)
 refine qA (vi 0) rfl rfl ?_
 refine WL.nil (thn_n (WP.seq ?_))
 refine WP.drawT (SL w00.heap.size [.blk b_1 .nw 23 [(32, key.map vu8)], .blk bl .nw 37 [(1, [(.slice ra rk rc)])], .row ra rn rc2 5 1 (rb.map vu8)]) (.q 0 (.q 1 (.q 2 (.q 3 (.s 4 (.q 5 (.s 6 (.q 7 (.q 8 (.s 9 (.q 10 .nil))))))))))) (by kernel_rfl) (by kernel_rfl) rfl (by kernel_rfl) (fun w_7 hc_9 => (SL.cons ((h_6.same hc_9).ok _ M1) (SL.cons ((h_6.same hc_9).ok _ M7) (SL.cons ((h_6.same hc_9).ok _ M8) (SL.nil _ _))))) (fun w_7 hc_9 => ?_)
 have h_8 := h_6.same hc_9
 refine qT rfl rfl (fun wq hS => R.move (v := (pO ob 0)) rfl) ?_
 refine qT rfl rfl (fun wq hS => R.loadA (b := b_1) (off := 0) [] [(32, key.map vu8)] [] (cs := key.map vu8) rfl Try.isAgg23 Try.sizeOf23 (hS _ M0) rfl rfl rfl rfl) ?_
 refine qT rfl rfl (fun wq hS => R.move (v := (vi dm)) rfl) ?_
 refine qT rfl rfl (fun wq hS => R.move (v := (.slice (some ⟨bl, 0, none⟩) 1 1)) rfl) ?_
 refine WT.s (Op1.one rfl (Wn.no rfl) ?_)
 refine WL.call Try.call53 rfl rfl (c_joined (some ⟨bl, 0, none⟩) 1 1 [(.slice ra rk rc)] [rb.take rk] rfl (by omega) (by omega) _ (viewB (h_8.ok _ M7) Sg.h) (Sls.cons (by rw [List.length_take, hrb]; omega) hkc (View.pfx rk (ownView (h_8.ok _ M8))) Sls.nil)) rfl ?_
 rintro _ w_12 ⟨a_10, cap_11, rfl, hc_13, ho_14⟩
 have h_15 := h_8.gotRow hc_13 ho_14
 refine WL.nil ?_
 refine ⟨(SL.cons (h_15.ok _ M2) (SL.cons (h_15.ok _ M8) (SL.cons (h_15.ok _ M9) (SL.nil _ _)))), ?_⟩
 refine qT rfl rfl (fun wq hS => R.buildS (pl := [(0, 1), (1, 32), (33, 1), (34, 1)]) (zs := [(1, [(vi 0)]), (32, (List.replicate 32 (0 : UInt8)).map vu8), (1, [(vi 0)]), (1, [(.slice none 0 0)])]) (vs := [(0, (vi 2)), (1, (.agg ⟨key.map vu8⟩)), (2, (vi dm)), (3, (.slice a_10 ([rb.take rk].flatten.length) cap_11))]) (out := [(1, [(vi 2)]), (32, key.map vu8), (1, [(vi dm)]), (1, [(.slice a_10 ([rb.take rk].flatten.length) cap_11)])]) (cs := flat [(1, [(vi 2)]), (32, key.map vu8), (1, [(vi dm)]), (1, [(.slice a_10 ([rb.take rk].flatten.length) cap_11)])]) Try.underlying103 (zv Try.typeInfo103 rfl) rfl (SsOk.cons (SOk.v rfl) (SsOk.cons (SOk.u8 lr) (SsOk.cons (SOk.v rfl) (SsOk.cons (SOk.v rfl) SsOk.nil)))) (pl103 _ Try.underlying103) rfl (FillR.cons [] [(1, [(vi 0)])] [(1, [(vi 2)])] [(32, (List.replicate 32 (0 : UInt8)).map vu8), (1, [(vi 0)]), (1, [(.slice none 0 0)])] rfl rfl rfl rfl (SsOk.cons (SOk.v rfl) SsOk.nil) rfl rfl rfl (FillR.cons [(1, [(vi 2)])] [(32, (List.replicate 32 (0 : UInt8)).map vu8)] [(32, key.map vu8)] [(1, [(vi 0)]), (1, [(.slice none 0 0)])] rfl rfl rfl rfl (SsOk.cons (SOk.u8 hk) SsOk.nil) rfl rfl rfl (FillR.cons [(1, [(vi 2)]), (32, key.map vu8)] [(1, [(vi 0)])] [(1, [(vi dm)])] [(1, [(.slice none 0 0)])] rfl rfl rfl rfl (SsOk.cons (SOk.v rfl) SsOk.nil) rfl rfl rfl (FillR.cons [(1, [(vi 2)]), (32, key.map vu8), (1, [(vi dm)])] [(1, [(.slice none 0 0)])] [(1, [(.slice a_10 ([rb.take rk].flatten.length) cap_11)])] [] rfl rfl rfl rfl (SsOk.cons (SOk.v rfl) SsOk.nil) rfl rfl rfl FillR.nil)))) rfl) ?_
 refine WT.s (Op1.one rfl (Wn.no rfl) ?_)
 have h_17 := h_15.rowView
 have h_22 := ((((h_17.up J7).up J7).up J7).up J7).up J7
 have h32_w_26 := (Lgs.ok32 (h_22.ok _ M3).1)
 refine WL.call Try.call48 rfl rfl (c_oAsk id ob mp ms df hms da dn dc u hdf la lc lx lg hu hlg 2 dm key ([rb.take rk].flatten) a_10 ([rb.take rk].flatten.length) cap_11 ⟨hk, by show (1 : Int) ≤ 2 ∧ (2 : Int) ≤ 4; omega, by show (1 : Int) ≤ dm ∧ (dm : Int) ≤ 16; omega, by show List.length ([rb.take rk].flatten) ≤ 1000000000; first | decide | (simp only [List.length_append, leN_len]; omega) | omega⟩ (rfl : List.length ([rb.take rk].flatten) = [rb.take rk].flatten.length) (by decide) (fun h => by omega) _ h_22) rfl ?_
 rintro _ w_26 ⟨la_23, lc_24, lx_25, rfl, h_27⟩
 refine WL.nil ?_
 refine ⟨(SL.cons (h_27.ok _ M7) (SL.cons (h_27.ok _ M8) (SL.cons (h_27.ok _ M9) (SL.nil _ _)))), ?_⟩
 refine qT rfl rfl (fun wq hS => R.extract rfl rfl) ?_
 refine qT rfl rfl (fun wq hS => R.extract rfl rfl) ?_
 refine WT.s (Op1.one rfl (Wn.no rfl) ?_)
 refine WL.storeA (b := b_4) (off := 0) [] [(32, (List.replicate 32 (0 : UInt8)).map vu8)] [(32, (anD id df dn u lg (2, key, dm, ([rb.take rk].flatten))).map vu8)] [] (ys := (anD id df dn u lg (2, key, dm, ([rb.take rk].flatten))).map vu8) h_27 rfl rfl Try.sizeOf23 Y6 (by decide) rfl rfl rfl rfl rfl rfl (SsOk.cons (SOk.u8 (anD_len hdf h32_w_26)) SsOk.nil) (fun w_28 h_29 => ?_)
 refine WL.nil ?_
 refine ⟨(SL.cons (h_29.ok _ M7) (SL.cons (h_29.ok _ M8) (SL.cons (h_29.ok _ M9) (SL.nil _ _)))), ?_⟩
 refine qT rfl rfl (fun wq hS => R.assign (v := (vi 0)) rfl) ?_
 refine WT.nil (thn_n (WP.ret ?_))
 refine ret_of Try.results21 (RV.cell rfl (h_29.loadA (cs := (anD id df dn u lg (2, key, dm, ([rb.take rk].flatten))).map vu8) Try.isAgg23 Try.sizeOf23 M6 rfl rfl) (RV.tmp (v := (vi 0)) rfl RV.nil)) ?_
 have h_42 := ((((((((((((h_29.up J5).drop rfl).up J5).drop rfl).up J5).drop rfl).up J6).up J6).up J6).up J6).up J6).up J6).up J6
 exact ⟨_, _, _, rfl, h_42⟩

theorem c_rB1 {w00 : World} {L : List Ent} (a : Option Addr) (n cap : Nat) (bs : List UInt8) (hl : bs.length = n) (bo : Nat) (oa : Option Addr) (on oc : Nat) (cur : List UInt8) (hcur : cur.length = on) (hn : n ≤ 1000) (hon : on ≤ 1000) (w : World) (hv : View w a (bs.map vu8)) (h_0 : HP w00 w (Ent.blk bo .nw 37 [(1, [(.slice oa on oc)])] :: Ent.row oa on oc 5 1 ((cur).map vu8) :: L)) :
  Cs Try.prog 77 [(.slice a n cap), (.pointer (some ⟨bo, 0, none⟩))].toArray w (fun v w1 => ∃ oa' oc', v = .tuple [].toArray ∧ HP w00 w1 (Ent.blk bo .nw 37 [(1, [(.slice oa' (on + n) oc')])] :: Ent.row oa' (on + n) oc' 5 1 ((cur ++ bs).map vu8) :: L)) := by
 refine Cs.of (n := 6) (args := [(.slice a n cap), (pO bo 0)]) Try.func77 rfl rfl rfl ?_
 refine WP.reg ?_
 refine qV rfl (R.load1 (b := bo) (off := 0) (v := (.slice oa on oc)) rfl Try.isAgg37 (h_0.ok _ M0) Sg.h) (qM (.slice a n cap) rfl rfl ?_)
 refine WL.append (km := on + n) (xs := (cur).map vu8) (ys := bs.map vu8) (zs := (cur ++ bs).map vu8) h_0 rfl rfl el37 hv ((len_map hl).trans (Nat.mul_one _).symm) (one_u8 _) (by simp only [List.map_append, List.map_nil]) (by omega) (by omega) (by omega) (fun _ _ => Y1) rfl (fun a_1 c_2 w_3 h_4 => ?_)
 refine WL.store1 (b := bo) (off := 0) (v := (.slice a_1 (on + n) c_2)) h_4 rfl rfl Try.sizeOf37 rfl At.h (by decide) Sg.h (fun w_5 h_6 => ?_)
 refine WL.nil (ret_n ?_)
 refine ret_of Try.results77 RV.nil ?_
 have h_8 := (h_6.up J1).up J1
 exact ⟨_, _, rfl, h_8⟩

theorem c_rBytes (ins : UInt64) (me ch : List UInt8) (hme : me.length = 32) (hch : ch.length = 32) (w : World) :
  Cs Try.prog 46 [(.agg ⟨flat [(1, [(vu64 ins)]), (32, me.map vu8), (32, ch.map vu8)]⟩)].toArray w (fun v w1 => ∃ a cap, v = .slice a 80 cap ∧ Chg w w1 [] ∧ Own w.heap.size w1 5 1 a 80 cap ((repB ins me ch).map vu8)) := by
 refine Cs.of (n := 34) (args := [(.agg ⟨flat [(1, [(vu64 ins)]), (32, me.map vu8), (32, ch.map vu8)]⟩)]) Try.func46 rfl rfl rfl ?_
 have h_0 := HP.init w
 refine WP.seq (WP.reg ?_)
 refine WL.box (v := (.agg ⟨flat [(1, [(vu64 ins)]), (32, me.map vu8), (32, ch.map vu8)]⟩)) (segs := [(1, [(vu64 ins)]), (32, me.map vu8), (32, ch.map vu8)]) h_0 rfl rfl (SsOk.cons (SOk.v rfl) (SsOk.cons (SOk.u8 hme) (SsOk.cons (SOk.u8 hch) SsOk.nil))) rfl (fun b_1 w_2 h_3 => ?_)
 refine qA (.slice none 0 0) rfl rfl ?_
 refine WL.nil (thn_n (WP.seq (WP.reg ?_)))
 refine qV rfl (R.fieldAddr (b := b_1) (off := 0) (off' := 0) rfl Try.underlying30 rfl Try.sizeOf28 rfl rfl) (qV rfl (R.load1 (b := b_1) (off := 0) (v := (vu64 ins)) rfl Try.isAgg28 (h_3.ok _ M0) Sg.h) ?_)
 refine WL.call Try.call76 rfl rfl (c_Put_b ins 8 rfl _) rfl ?_
 rintro _ w_6 ⟨a_4, cap_5, rfl, hc_7, ho_8⟩
 have h_9 := h_3.gotRow hc_7 ho_8
 refine qM (.tuple [(.slice a_4 8 cap_5), (vi 0)].toArray) rfl rfl (qV rfl (R.extract rfl rfl) (qV rfl (R.extract rfl rfl) (qA (.slice a_4 8 cap_5) rfl rfl (qA (vi 0) rfl rfl ?_))))
 refine WL.nil (thn_n (WP.seq (WP.reg ?_)))
 refine WL.alloc (segs := [(1, [(.slice none 0 0)])]) h_9 (zv Try.typeInfo37 rfl) rfl (SsOk.cons (SOk.v rfl) SsOk.nil) rfl (fun b_10 w_11 h_12 => ?_)
 refine WL.nil (thn_n (WP.seq (WP.reg ?_)))
 refine qV rfl (R.makeFuncL (fi := []) (ca := [(pO b_10 0)]) rfl rfl) (qA (Value.func (Fn.func 77) [].toArray [(Value.pointer (some ⟨b_10, 0, none⟩))].toArray) rfl rfl ?_)
 refine WL.nil (thn_n (WP.seq (WP.seq ?_)))
 refine WP.drawT (SL w.heap.size [.blk b_10 .nw 37 [(1, [(.slice none 0 0)])], .row a_4 8 cap_5 5 1 ((leN 8 ins.toNat).map vu8), .blk b_1 .nw 30 [(1, [(vu64 ins)]), (32, me.map vu8), (32, ch.map vu8)]]) (.q 2 (.q 3 (.q 4 (.q 5 (.q 6 (.q 9 (.s 0 (.s 1 (.s 7 (.q 8 .nil)))))))))) (by kernel_rfl) (by kernel_rfl) rfl (by kernel_rfl) (fun w_13 hc_15 => (SL.cons ((h_12.same hc_15).ok _ M0) (SL.cons ((h_12.same hc_15).ok _ M1) (SL.cons ((h_12.same hc_15).ok _ M2) (SL.nil _ _))))) (fun w_13 hc_15 => ?_)
 have h_14 := h_12.same hc_15
 refine qT rfl rfl (fun wq hS => R.move (v := (.slice a_4 8 cap_5)) rfl) ?_
 refine qT rfl rfl (fun wq hS => R.fieldAddr (b := b_1) (off := 0) (off' := 1) rfl Try.underlying30 rfl Try.sizeOf23 rfl rfl) ?_
 refine qT rfl rfl (fun wq hS => R.sliceA (b := b_1) (off := 1) (off' := 1) (l := 0) (h := 32) rfl EvB.dflt EvB.dflt (by decide) (by decide) Try.underlying23 Try.sizeOf5 rfl) ?_
 refine qT rfl rfl (fun wq hS => R.fieldAddr (b := b_1) (off := 0) (off' := 33) rfl Try.underlying30 rfl Try.sizeOf23 rfl rfl) ?_
 refine qT rfl rfl (fun wq hS => R.sliceA (b := b_1) (off := 33) (off' := 33) (l := 0) (h := 32) rfl EvB.dflt EvB.dflt (by decide) (by decide) Try.underlying23 Try.sizeOf5 rfl) ?_
 refine qT rfl rfl (fun wq hS => R.move (v := (vi 0)) rfl) ?_
 refine WT.s (Op1.one rfl (Wn.no rfl) ?_)
 refine WL.buildSl (vs := [(0, (vu8 114)), (1, (vu8 101)), (2, (vu8 112)), (3, (vu8 111)), (4, (vu8 114)), (5, (vu8 116)), (6, (vu8 0)), (7, (vu8 0))]) (cs := ([114, 101, 112, 111, 114, 116, 0, 0] : List UInt8).map vu8) h_14 Try.underlying37 Try.sizeOf5 (zv Try.typeInfo5 rfl) rfl rfl (by kernel_rfl) rfl (one_u8 _) rfl rfl (fun b_16 w_17 h_18 => ?_)
 refine WL.nil ?_
 refine ⟨(SL.cons (h_18.ok _ M1) (SL.cons (h_18.ok _ M2) (SL.cons (h_18.ok _ M3) (SL.nil _ _)))), ?_⟩
 refine WT.s (Op1.one rfl (Wn.no rfl) ?_)
 refine WL.convSl h_18 rfl Try.underlying37 Try.underlying5 At.h (by decide) rfl (fun w_19 h_20 => ?_)
 refine WL.nil ?_
 refine ⟨(SL.cons (h_20.ok _ M1) (SL.cons (h_20.ok _ M2) (SL.cons (h_20.ok _ M3) (SL.nil _ _)))), ?_⟩
 refine WT.s (Op1.one rfl (Wn.no rfl) ?_)
 refine WL.buildSl (vs := [(0, (.slice (some ⟨b_16, 0, none⟩) 8 8)), (1, (.slice a_4 8 cap_5)), (2, (.slice (some ⟨b_1, 1, none⟩) 32 32)), (3, (.slice (some ⟨b_1, 33, none⟩) 32 32))]) (cs := [(.slice (some ⟨b_16, 0, none⟩) 8 8), (.slice a_4 8 cap_5), (.slice (some ⟨b_1, 1, none⟩) 32 32), (.slice (some ⟨b_1, 33, none⟩) 32 32)]) h_20 Try.underlying36 Try.sizeOf37 (zv Try.typeInfo37 rfl) rfl rfl (by kernel_rfl) rfl (by simp [Value.oneCell']) rfl rfl (fun b_21 w_22 h_23 => ?_)
 refine WL.nil ?_
 refine ⟨(SL.cons (h_23.ok _ M2) (SL.cons (h_23.ok _ M3) (SL.cons (h_23.ok _ M4) (SL.nil _ _)))), ?_⟩
 refine qT rfl rfl (fun wq hS => R.lenS (a := some ⟨b_21, 0, none⟩) (m := 4) rfl rfl Try.underlying36) ?_
 refine WT.nil (thn_n (WP.block ?_))
 refine WP.loopU (WI.round ?_)
 refine WP.seq (WP.reg ?_)
 refine qV rfl (R.bin rfl rfl (bi_lss (r := true) (by decide))) ?_
 refine WL.nil (thn_n (WP.seq ?_))
 refine WP.condT rfl ?_
 refine WP.skip (thn_n (WP.seq (WP.block (WP.seq (WP.reg ?_)))))
 refine qV rfl (R.indexP (b := b_21) (off := 0) (off' := 0) (i := 0) rfl rfl rfl (by decide) Try.underlying36 Try.sizeOf37 rfl) (qV rfl (R.loadE (b := b_21) (off := 0) (i := 0) (v := (.slice (some ⟨b_16, 0, none⟩) 8 8)) rfl Try.isAgg37 (h_23.ok _ M0) Sg.h rfl rfl) (qA (.slice (some ⟨b_16, 0, none⟩) 8 8) rfl rfl ?_))
 refine WL.nil (thn_n (WP.reg ?_))
 refine qM (Value.func (Fn.func 77) [].toArray [(Value.pointer (some ⟨b_10, 0, none⟩))].toArray) rfl rfl (qM (.slice (some ⟨b_16, 0, none⟩) 8 8) rfl rfl ?_)
 have h_24 := h_23.rowNil 5 1
 have h_25 := h_24.up J3
 refine WL.call Try.call77 rfl rfl (c_rB1 (some ⟨b_16, 0, none⟩) 8 8 ([114, 101, 112, 111, 114, 116, 0, 0] : List UInt8) (rfl : List.length ([114, 101, 112, 111, 114, 116, 0, 0] : List UInt8) = 8) b_10 none 0 0 ([] : List UInt8) (rfl : List.length ([] : List UInt8) = 0) (by omega) (by omega) _ (viewB (h_25.ok _ M3) Sg.h) h_25) rfl ?_
 rintro _ w_28 ⟨a_26, c_27, rfl, h_29⟩
 refine WL.nil (inb_n (thn_n (WP.reg ?_)))
 refine qV rfl (R.bin rfl rfl (bi_add (c := 1) (by omega) (by omega))) (qM (vi 1) rfl rfl ?_)
 refine WL.nil (thn_n ?_)
 refine WI.round ?_
 refine WP.seq (WP.reg ?_)
 refine qV rfl (R.bin rfl rfl (bi_lss (r := true) (by decide))) ?_
 refine WL.nil (thn_n (WP.seq ?_))
 refine WP.condT rfl ?_
 refine WP.skip (thn_n (WP.seq (WP.block (WP.seq (WP.reg ?_)))))
 refine qV rfl (R.indexP (b := b_21) (off := 0) (off' := 1) (i := 1) rfl rfl rfl (by decide) Try.underlying36 Try.sizeOf37 rfl) (qV rfl (R.loadE (b := b_21) (off := 1) (i := 1) (v := (.slice a_4 8 cap_5)) rfl Try.isAgg37 (h_29.ok _ M2) Sg.h rfl rfl) (qA (.slice a_4 8 cap_5) rfl rfl ?_))
 refine WL.nil (thn_n (WP.reg ?_))
 refine qM (Value.func (Fn.func 77) [].toArray [(Value.pointer (some ⟨b_10, 0, none⟩))].toArray) rfl rfl (qM (.slice a_4 8 cap_5) rfl rfl ?_)
 have h_31 := (h_29.up J1).up J1
 refine WL.call Try.call77 rfl rfl (c_rB1 a_4 8 cap_5 (leN 8 ins.toNat) (leN_len ..) b_10 a_26 8 c_27 (([] : List UInt8) ++ ([114, 101, 112, 111, 114, 116, 0, 0] : List UInt8)) (lenApp (a := 0) (b := 8) (rfl : List.length ([] : List UInt8) = 0) (rfl : List.length ([114, 101, 112, 111, 114, 116, 0, 0] : List UInt8) = 8) (by omega) : List.length (([] : List UInt8) ++ ([114, 101, 112, 111, 114, 116, 0, 0] : List UInt8)) = 8) (by omega) (by omega) _ (ownView (h_31.ok _ M4)) h_31) rfl ?_
 rintro _ w_34 ⟨a_32, c_33, rfl, h_35⟩
 refine WL.nil (inb_n (thn_n (WP.reg ?_)))
 refine qV rfl (R.bin rfl rfl (bi_add (c := 2) (by omega) (by omega))) (qM (vi 2) rfl rfl ?_)
 refine WL.nil (thn_n ?_)
 refine WI.round ?_
 refine WP.seq (WP.reg ?_)
 refine qV rfl (R.bin rfl rfl (bi_lss (r := true) (by decide))) ?_
 refine WL.nil (thn_n (WP.seq ?_))
 refine WP.condT rfl ?_
 refine WP.skip (thn_n (WP.seq (WP.block (WP.seq (WP.reg ?_)))))
 refine qV rfl (R.indexP (b := b_21) (off := 0) (off' := 2) (i := 2) rfl rfl rfl (by decide) Try.underlying36 Try.sizeOf37 rfl) (qV rfl (R.loadE (b := b_21) (off := 2) (i := 2) (v := (.slice (some ⟨b_1, 1, none⟩) 32 32)) rfl Try.isAgg37 (h_35.ok _ M2) Sg.h rfl rfl) (qA (.slice (some ⟨b_1, 1, none⟩) 32 32) rfl rfl ?_))
 refine WL.nil (thn_n (WP.reg ?_))
 refine qM (Value.func (Fn.func 77) [].toArray [(Value.pointer (some ⟨b_10, 0, none⟩))].toArray) rfl rfl (qM (.slice (some ⟨b_1, 1, none⟩) 32 32) rfl rfl ?_)
 have h_37 := (h_35.up J1).up J1
 refine WL.call Try.call77 rfl rfl (c_rB1 (some ⟨b_1, 1, none⟩) 32 32 me hme b_10 a_32 16 c_33 ((([] : List UInt8) ++ ([114, 101, 112, 111, 114, 116, 0, 0] : List UInt8)) ++ (leN 8 ins.toNat)) (lenApp (a := 8) (b := 8) (lenApp (a := 0) (b := 8) (rfl : List.length ([] : List UInt8) = 0) (rfl : List.length ([114, 101, 112, 111, 114, 116, 0, 0] : List UInt8) = 8) (by omega) : List.length (([] : List UInt8) ++ ([114, 101, 112, 111, 114, 116, 0, 0] : List UInt8)) = 8) (leN_len ..) (by omega) : List.length ((([] : List UInt8) ++ ([114, 101, 112, 111, 114, 116, 0, 0] : List UInt8)) ++ (leN 8 ins.toNat)) = 16) (by omega) (by omega) _ (viewB (h_37.ok _ M5) (Sg.t rfl Sg.h)) h_37) rfl ?_
 rintro _ w_40 ⟨a_38, c_39, rfl, h_41⟩
 refine WL.nil (inb_n (thn_n (WP.reg ?_)))
 refine qV rfl (R.bin rfl rfl (bi_add (c := 3) (by omega) (by omega))) (qM (vi 3) rfl rfl ?_)
 refine WL.nil (thn_n ?_)
 refine WI.round ?_
 refine WP.seq (WP.reg ?_)
 refine qV rfl (R.bin rfl rfl (bi_lss (r := true) (by decide))) ?_
 refine WL.nil (thn_n (WP.seq ?_))
 refine WP.condT rfl ?_
 refine WP.skip (thn_n (WP.seq (WP.block (WP.seq (WP.reg ?_)))))
 refine qV rfl (R.indexP (b := b_21) (off := 0) (off' := 3) (i := 3) rfl rfl rfl (by decide) Try.underlying36 Try.sizeOf37 rfl) (qV rfl (R.loadE (b := b_21) (off := 3) (i := 3) (v := (.slice (some ⟨b_1, 33, none⟩) 32 32)) rfl Try.isAgg37 (h_41.ok _ M2) Sg.h rfl rfl) (qA (.slice (some ⟨b_1, 33, none⟩) 32 32) rfl rfl ?_))
 refine WL.nil (thn_n (WP.reg ?_))
 refine qM (Value.func (Fn.func 77) [].toArray [(Value.pointer (some ⟨b_10, 0, none⟩))].toArray) rfl rfl (qM (.slice (some ⟨b_1, 33, none⟩) 32 32) rfl rfl ?_)
 have h_43 := (h_41.up J1).up J1
 refine WL.call Try.call77 rfl rfl (c_rB1 (some ⟨b_1, 33, none⟩) 32 32 ch hch b_10 a_38 48 c_39 (((([] : List UInt8) ++ ([114, 101, 112, 111, 114, 116, 0, 0] : List UInt8)) ++ (leN 8 ins.toNat)) ++ me) (lenApp (a := 16) (b := 32) (lenApp (a := 8) (b := 8) (lenApp (a := 0) (b := 8) (rfl : List.length ([] : List UInt8) = 0) (rfl : List.length ([114, 101, 112, 111, 114, 116, 0, 0] : List UInt8) = 8) (by omega) : List.length (([] : List UInt8) ++ ([114, 101, 112, 111, 114, 116, 0, 0] : List UInt8)) = 8) (leN_len ..) (by omega) : List.length ((([] : List UInt8) ++ ([114, 101, 112, 111, 114, 116, 0, 0] : List UInt8)) ++ (leN 8 ins.toNat)) = 16) hme (by omega) : List.length (((([] : List UInt8) ++ ([114, 101, 112, 111, 114, 116, 0, 0] : List UInt8)) ++ (leN 8 ins.toNat)) ++ me) = 48) (by omega) (by omega) _ (viewB (h_43.ok _ M5) (Sg.t rfl (Sg.t rfl Sg.h))) h_43) rfl ?_
 rintro _ w_46 ⟨a_44, c_45, rfl, h_47⟩
 refine WL.nil (inb_n (thn_n (WP.reg ?_)))
 refine qV rfl (R.bin rfl rfl (bi_add (c := 4) (by omega) (by omega))) (qM (vi 4) rfl rfl ?_)
 refine WL.nil (thn_n ?_)
 refine WI.round ?_
 refine WP.seq (WP.reg ?_)
 refine qV rfl (R.bin rfl rfl (bi_lss (r := false) (by decide))) ?_
 refine WL.nil (thn_n (WP.seq ?_))
 refine WP.condF rfl ?_
 refine WP.exit (thn_x (thn_x (inb_hit (thn_n (WP.seq (WP.reg ?_))))))
 refine qV rfl (R.load1 (b := b_10) (off := 0) (v := (.slice a_44 80 c_45)) rfl Try.isAgg37 (h_47.ok _ M0) Sg.h) (qA (.slice a_44 80 c_45) rfl rfl ?_)
 refine WL.nil (thn_n (WP.ret ?_))
 refine ret_of Try.results46 (RV.tmp (v := (.slice a_44 80 c_45)) rfl RV.nil) ?_
 exact ⟨_, _, rfl, h_47.chgS, by first | exact h_47.ok _ M1 | (have hx := h_47.own M1; simpa [repB, markB] using hx)⟩

theorem me_len {bs : List UInt8} (h : 80 ≤ bs.length) : (me_of bs).length = 32 := by simp only [me_of, List.length_take, List.length_drop]; omega
theorem ch_len {bs : List UInt8} (h : 80 ≤ bs.length) : (ch_of bs).length = 32 := by simp only [ch_of, List.length_take, List.length_drop]; omega
theorem me_eq (bs : List UInt8) : (cutR bs).getD 2 [] = me_of bs := by simp [cutR, me_of]
theorem ch_eq (bs : List UInt8) : (cutR bs).getD 3 [] = ch_of bs := by simp [cutR, ch_of]
end Go.Proofs.Ytnhppjimimhlkaa
