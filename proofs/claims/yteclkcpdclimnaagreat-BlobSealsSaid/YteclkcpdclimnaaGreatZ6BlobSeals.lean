/- Rules for walks and contracts of the functions that the law reaches, one behind the other. Conditions: none beyond what each theorem states. -/
import Derived.Test.YteclkcpdclimnaaGreatZ5BlobSeals
set_option linter.unusedVariables false
set_option linter.unusedSimpArgs false
set_option linter.unusedSectionVars false
namespace Go.Proofs.YteclkcpdclimnaaGreat
open Go.Proofs.Tryz
open Go.Vc Go.Orc Go.Sh Go.RowKit
set_option maxRecDepth 20000

theorem c_sCl (l : List UInt8) (hl : l.length = 128) (oa : Option Addr) (bo bn : Nat) (w : World) (hv : View w oa (l.map vu8)) (hco : (Ent.blk bo .ro 88 [(1, [(.slice oa 128 128)])]).ok w.heap.size w) (hcn : (Ent.blk bn .ro 3 [(1, [(vi 128)])]).ok w.heap.size w) :
  Cs Tryz.prog 100 [(.pointer (some ⟨bo, 0, none⟩)), (.pointer (some ⟨bn, 0, none⟩))].toArray w (fun v w1 => v = (.agg ⟨(l.take 32).map vu8⟩) ∧ Chg w w1 []) := by
 refine Cs.of (n := 11) (args := [(pO bo 0), (pO bn 0)]) Tryz.func100 rfl rfl rfl ?_
 have h_0 := HP.init w
 have h_01 := h_0.oldV (View.arg hv) rfl (by simp [Ent.mut])
 have h_02 := h_01.oldV hcn rfl (by simp [Ent.mut])
 have h_00 := h_02.oldV hco rfl (by simp [Ent.mut])
 refine WP.seq (WP.reg ?_)
 refine WL.alloc (segs := [(32, (zB 32).map vu8)]) h_00 (zv typeInfo23 rfl) rfl (sC (s8 lr) sN) rfl (fun b_1 w_2 h_3 => ?_)
 refine WL.nil (thn_n (WP.seq (WP.reg ?_)))
 refine WL.alloc (segs := [(32, (zB 32).map vu8)]) h_3 (zv typeInfo23 rfl) rfl (sC (s8 lr) sN) rfl (fun b_4 w_5 h_6 => ?_)
 refine WL.nil (thn_n (WP.seq ?_))
 refine WP.drawT (SL w.heap.size [.blk b_1 .nw 23 [(32, (zB 32).map vu8)], .blk bo .ro 88 [(1, [(.slice oa 128 128)])], .blk bn .ro 3 [(1, [(vi 128)])], .view oa (l.map vu8)]) (.q 0 (.q 1 (.q 2 (.q 3 (.q 4 (.s 5 .nil)))))) (by kernel_rfl) (by kernel_rfl) rfl (by kernel_rfl) (fun w_7 hc_9 => (SL.cons ((h_6.same hc_9).ok _ M1) (SL.cons ((h_6.same hc_9).ok _ M2) (SL.cons ((h_6.same hc_9).ok _ M3) (SL.cons ((h_6.same hc_9).ok _ M4) (SL.nil _ _)))))) (fun w_7 hc_9 => ?_)
 have h_8 := h_6.same hc_9
 refine qT rfl rfl (fun wq hS => R.sliceA (b := b_4) (off := 0) (off' := 0) (l := 0) (h := 32) rfl EvB.dflt EvB.dflt (by decide) (by decide) underlying23 sizeOf5 rfl) ?_
 refine qT rfl rfl (fun wq hS => R.load1 rfl isAgg88 (hS _ M1) Sg.h) ?_
 refine qT rfl rfl (fun wq hS => R.load1 rfl isAgg3 (hS _ M2) Sg.h) ?_
 refine qT rfl rfl (fun wq hS => R.minI (c := 32) rfl rfl (by decide)) ?_
 refine qT rfl rfl (fun wq hS => R.sliceS (a := oa) (len := 128) (l := 0) (h := 32) rfl EvB.dflt (EvB.it (l := 32) rfl rfl) (by decide) (by omega) underlying88 sizeOf5) ?_
 refine WT.s (oN rfl ?_)
 refine WL.copy (q := 32) (i := 0) (ys := ((l.drop 0).take 32).map vu8) (cs' := ((l.drop 0).take 32).map vu8) h_8 rfl rfl underlying88 sizeOf5 (View.slM (l := 0) (m := 128) (k := 32) (viewV (h_8.ok _ M4)) (by omega)) (len_map (subLen (K := 128) hl (by omega) : List.length ((l.drop 0).take 32) = 32)) (one_u8 _) At.h (by decide) Sg.h rfl (by decide) (by rw [len_map lr]; decide) (cpAll (subLen (K := 128) hl (by omega) : List.length ((l.drop 0).take 32) = 32) lr) rfl (fun w_10 h_11 => ?_)
 refine WL.nil ?_
 refine ⟨(N1_2_3_4 h_11.ok), ?_⟩
 refine WT.nil (thn_n (WP.seq (WP.reg ?_)))
 refine qV rfl (R.loadA [] [(32, ((l.drop 0).take 32).map vu8)] [] (cs := ((l.drop 0).take 32).map vu8) rfl isAgg23 sizeOf23 (h_11.ok _ M0) rfl rfl rfl rfl) ?_
 refine WL.storeA [] [(32, (zB 32).map vu8)] [(32, ((l.drop 0).take 32).map vu8)] [] h_11 rfl rfl sizeOf23 Y1 (by decide) rfl rfl rfl rfl rfl rfl (sC (s8 (subLen (K := 128) hl (by omega) : List.length ((l.drop 0).take 32) = 32)) sN) (fun w_12 h_13 => ?_)
 refine WL.nil (thn_n (WP.ret ?_))
 refine ret_of results100 (RV.cell rfl (h_13.loadA (cs := ((l.drop 0).take 32).map vu8) isAgg23 sizeOf23 M1 rfl rfl) RV.nil) ?_
 exact ⟨rfl, h_13.chgS⟩

theorem c_ans_missS {w00 : World} {L : List Ent} (ob mp : Nat) (ms df : List UInt8) (hms : ms.length = 32) (da : Option Addr) (dn dc u : Nat) (hdf : df.length = 32 * dn) (la : Option Addr) (lc : Nat) (lx : List Value) (lg : Lg) (hu : u ≤ 1000000) (hlg : lg.length ≤ 1000000) (kd dm : Int) (key data : List UInt8) (qa : Option Addr) (qn qc : Nat) (hq : okQ (kd, key, dm, data)) (hdl : data.length = qn) (l : List UInt8) (hl : l.length = 128) (oa : Option Addr) (bo bn : Nat) (hfd : fdq (kd, key, dm, data) lg 0 = none) (w : World) (h_0 : HP w00 w (Ent.blk ob .nw 118 [(1, [(.bool false)]), (32, ms.map vu8), (1, [(.slice da dn dc)]), (1, [(vi ((u : Nat) : Int))]), (1, [(.map (some mp))]), (1, [(.slice la lg.length lc)])] :: Ent.row la lg.length lc 96 67 lx :: Ent.obj mp .nw (.map (mArr lg) lg.length) :: Ent.pin (sblks lx) (fun w => Lgs w lx lg) :: Ent.view da (df.map vu8) :: Ent.view qa (data.map vu8) :: Ent.blk bo .nw 88 [(1, [(.slice oa 128 128)])] :: Ent.blk bn .nw 3 [(1, [(vi 128)])] :: Ent.row oa 128 128 5 1 (l.map vu8) :: L)) :
  Cs Tryz.prog 87 [(.pointer (some ⟨ob, 0, none⟩)), (.agg ⟨flat [(1, [(vi kd)]), (32, key.map vu8), (1, [(vi dm)]), (1, [(.slice qa qn qc)])]⟩), (Value.func (Fn.func 100) [].toArray [(Value.pointer (some ⟨bo, 0, none⟩)), (Value.pointer (some ⟨bn, 0, none⟩))].toArray)].toArray w (fun v w1 => ∃ la' lc' lx', ∃ d : List UInt8, v = (.agg ⟨d.map vu8⟩) ∧ d.length = 32 ∧ HP w00 w1 (Ent.blk ob .nw 118 [(1, [(.bool false)]), (32, ms.map vu8), (1, [(.slice da dn dc)]), (1, [(vi ((u : Nat) : Int))]), (1, [(.map (some mp))]), (1, [(.slice la' ((sL (kd, key, dm, data) (l.take 32) lg).length) lc')])] :: Ent.row la' ((sL (kd, key, dm, data) (l.take 32) lg).length) lc' 96 67 lx' :: Ent.obj mp .nw (.map (mArr (sL (kd, key, dm, data) (l.take 32) lg)) ((sL (kd, key, dm, data) (l.take 32) lg).length)) :: Ent.pin (sblks lx') (fun w => Lgs w lx' (sL (kd, key, dm, data) (l.take 32) lg)) :: Ent.view da (df.map vu8) :: Ent.view qa (data.map vu8) :: Ent.blk bo .nw 88 [(1, [(.slice oa 128 128)])] :: Ent.blk bn .nw 3 [(1, [(vi 128)])] :: Ent.row oa 128 128 5 1 (l.map vu8) :: L)) := by
 have hlgs : Lgs w lx lg := (h_0.ok _ M3).1
 have hlo := hlgs.ok
 have hqn : data.length ≤ 1000000000 := hq.2.2.2
 have hl32 : (l.take 32).length = 32 := by rw [List.length_take, hl]; decide
 refine Cs.of (n := 74) (args := [(pO ob 0), (.agg ⟨flat [(1, [(vi kd)]), (32, key.map vu8), (1, [(vi dm)]), (1, [(.slice qa qn qc)])]⟩), (Value.func (Fn.func 100) [].toArray [(Value.pointer (some ⟨bo, 0, none⟩)), (Value.pointer (some ⟨bn, 0, none⟩))].toArray)]) Tryz.func87 rfl rfl rfl ?_
 refine WP.seq (WP.reg ?_)
 refine WL.box (segs := [(1, [(vi kd)]), (32, key.map vu8), (1, [(vi dm)]), (1, [(.slice qa qn qc)])]) h_0 rfl rfl (sC sV (sC (s8 hq.1) (sC sV (sC sV sN)))) rfl (fun b_1 w_2 h_3 => ?_)
 refine WL.alloc (segs := [(32, (zB 32).map vu8)]) h_3 (zv typeInfo23 rfl) rfl (sC (s8 lr) sN) rfl (fun b_4 w_5 h_6 => ?_)
 refine WL.nil (thn_n (WP.seq (WP.reg ?_)))
 refine qV rfl (R.fieldAddr (off' := 0) rfl underlying90 rfl sizeOf86 rfl rfl) (qV rfl (R.load1 rfl isAgg86 (h_6.ok _ M1) Sg.h) (qV rfl (R.fieldAddr (off' := 1) rfl underlying90 rfl sizeOf23 rfl rfl) (qV rfl (R.loadA [(1, [(vi kd)])] [(32, key.map vu8)] [(1, [(vi dm)]), (1, [(.slice qa qn qc)])] (cs := key.map vu8) rfl isAgg23 sizeOf23 (h_6.ok _ M1) rfl rfl rfl rfl) (qV rfl (R.fieldAddr (off' := 33) rfl underlying90 rfl sizeOf87 rfl rfl) (qV rfl (R.load1 rfl isAgg87 (h_6.ok _ M1) (Sg.t rfl (Sg.t rfl Sg.h))) (qV rfl (R.fieldAddr (off' := 34) rfl underlying90 rfl sizeOf88 rfl rfl) (qV rfl (R.load1 rfl isAgg88 (h_6.ok _ M1) (Sg.t rfl (Sg.t rfl (Sg.t rfl Sg.h)))) (qV rfl (R.toStr (bs := data) rfl underlying88 underlying5 underlying9 (viewV (h_6.ok _ M7)) hdl) (qV rfl (R.buildS (pl := [(0, 1), (1, 32), (33, 1), (34, 1)]) (zs := [(1, [(vi 0)]), (32, (zB 32).map vu8), (1, [(vi 0)]), (1, [(.string (bstr ([] : List UInt8)))])]) (vs := [(0, (vi kd)), (1, (.agg ⟨key.map vu8⟩)), (2, (vi dm)), (3, (.string (bstr data)))]) (out := [(1, [(vi kd)]), (32, key.map vu8), (1, [(vi dm)]), (1, [(.string (bstr data))])]) underlying140 (zv typeInfo140 rfl) rfl (sC sV (sC (s8 lr) (sC sV (sC sV sN)))) (pl140 _ underlying140) rfl (FillR.cons [] [(1, [(vi 0)])] [(1, [(vi kd)])] [(32, (zB 32).map vu8), (1, [(vi 0)]), (1, [(.string (bstr ([] : List UInt8)))])] rfl rfl rfl rfl (sC sV sN) rfl rfl rfl (FillR.cons [(1, [(vi kd)])] [(32, (zB 32).map vu8)] [(32, key.map vu8)] [(1, [(vi 0)]), (1, [(.string (bstr ([] : List UInt8)))])] rfl rfl rfl rfl (sC (s8 hq.1) sN) rfl rfl rfl (FillR.cons [(1, [(vi kd)]), (32, key.map vu8)] [(1, [(vi 0)])] [(1, [(vi dm)])] [(1, [(.string (bstr ([] : List UInt8)))])] rfl rfl rfl rfl (sC sV sN) rfl rfl rfl (FillR.cons [(1, [(vi kd)]), (32, key.map vu8), (1, [(vi dm)])] [(1, [(.string (bstr ([] : List UInt8)))])] [(1, [(.string (bstr data))])] [] rfl rfl rfl rfl (sC sV sN) rfl rfl rfl FillR.nil)))) rfl) ?_)))))))))
 refine WL.alloc (segs := [(1, [(vi 0)]), (32, (zB 32).map vu8), (1, [(vi 0)]), (1, [(.string (bstr ([] : List UInt8)))])]) h_6 (zv typeInfo140 rfl) rfl (sC sV (sC (s8 lr) (sC sV (sC sV sN)))) rfl (fun b_8 w_9 h_10 => ?_)
 refine WL.storeA [] [(1, [(vi 0)]), (32, (zB 32).map vu8), (1, [(vi 0)]), (1, [(.string (bstr ([] : List UInt8)))])] [(1, [(vi kd)]), (32, key.map vu8), (1, [(vi dm)]), (1, [(.string (bstr data))])] [] h_10 rfl rfl sizeOf140 At.h (by decide) rfl rfl rfl rfl rfl rfl (sC sV (sC (s8 hq.1) (sC sV (sC sV sN)))) (fun w_11 h_12 => ?_)
 refine WL.nil (thn_n (WP.seq (WP.seq ?_)))
 refine WP.drawT (SL w00.heap.size [.blk b_8 .nw 140 [(1, [(vi kd)]), (32, key.map vu8), (1, [(vi dm)]), (1, [(.string (bstr data))])], .blk b_4 .nw 23 [(32, (zB 32).map vu8)], .blk b_1 .nw 90 [(1, [(vi kd)]), (32, key.map vu8), (1, [(vi dm)]), (1, [(.slice qa qn qc)])], .blk ob .nw 118 [(1, [(.bool false)]), (32, ms.map vu8), (1, [(.slice da dn dc)]), (1, [(vn u)]), (1, [(.map (some mp))]), (1, [(.slice la lg.length lc)])], .row la lg.length lc 96 67 lx, .obj mp .nw (.map (mArr lg) lg.length), .pin (sblks lx) (fun w => Lgs w lx lg), .view da (df.map vu8), .view qa (data.map vu8), .blk bo .nw 88 [(1, [(.slice oa 128 128)])], .blk bn .nw 3 [(1, [(vi 128)])], .row oa 128 128 5 1 (l.map vu8)]) (.q 0 (.q 1 (.q 2 (.q 3 (.q 4 (.s 5 (.q 6 (.q 7 (.q 8 (.q 9 (.q 10 .nil))))))))))) (by kernel_rfl) (by kernel_rfl) rfl (by kernel_rfl) (fun w_13 hc_15 => (SL.cons ((h_12.same hc_15).ok _ M0) (SL.cons ((h_12.same hc_15).ok _ M1) (SL.cons ((h_12.same hc_15).ok _ M2) (SL.cons ((h_12.same hc_15).ok _ M3) (SL.cons ((h_12.same hc_15).ok _ M4) (SL.cons ((h_12.same hc_15).ok _ M5) (SL.cons ((h_12.same hc_15).ok _ M6) (SL.cons ((h_12.same hc_15).ok _ M7) (SL.cons ((h_12.same hc_15).ok _ M8) (SL.cons ((h_12.same hc_15).ok _ M9) (SL.cons ((h_12.same hc_15).ok _ M10) (SL.cons ((h_12.same hc_15).ok _ M11) (SL.nil _ _)))))))))))))) (fun w_13 hc_15 => ?_)
 have h_14 := h_12.same hc_15
 refine qT rfl rfl (fun wq hS => R.move (v := (pO ob 0)) rfl) ?_
 refine qT rfl rfl (fun wq hS => R.nilCheck rfl) ?_
 refine qT rfl rfl (fun wq hS => R.fieldAddr (off' := 35) rfl underlying118 rfl sizeOf116 rfl rfl) ?_
 refine qT rfl rfl (fun wq hS => R.load1 rfl isAgg116 (hS _ M3) (Sg.t rfl (Sg.t rfl (Sg.t rfl (Sg.t rfl Sg.h))))) ?_
 refine qT rfl rfl (fun wq hS => R.loadA [] [(1, [(vi kd)]), (32, key.map vu8), (1, [(vi dm)]), (1, [(.string (bstr data))])] [] rfl isAgg140 sizeOf140 (hS _ M0) rfl rfl rfl rfl) ?_
 refine WT.s (oN rfl ?_)
 refine qV rfl (R.lookup (r := none) (z := (vi 0)) (v := (vi 0)) (ok := false) rfl rfl underlying116 (h_14.ok _ M5) (Ck.agg kt140 (by decide) ag140 (typQ (kd, key, dm, data) hq)) (log_miss kt140 (by decide) ag140 typQ hq hlo hfd) (zv typeInfo3 rfl) rfl rfl) ?_
 refine WL.nil ?_
 refine ⟨(SL.cons (h_14.ok _ M0) (SL.cons (h_14.ok _ M1) (SL.cons (h_14.ok _ M2) (SL.cons (h_14.ok _ M3) (SL.cons (h_14.ok _ M4) (SL.cons (h_14.ok _ M5) (SL.cons (h_14.ok _ M6) (SL.cons (h_14.ok _ M7) (SL.cons (h_14.ok _ M8) (SL.cons (h_14.ok _ M9) (SL.cons (h_14.ok _ M10) (SL.cons (h_14.ok _ M11) (SL.nil _ _))))))))))))), ?_⟩
 refine qT rfl rfl (fun wq hS => R.move (v := (.tuple [(vi 0), (.bool false)].toArray)) rfl) ?_
 refine qT rfl rfl (fun wq hS => R.extract rfl rfl) ?_
 refine qT rfl rfl (fun wq hS => R.extract rfl rfl) ?_
 refine qT rfl rfl (fun wq hS => R.assign (v := (vi 0)) rfl) ?_
 refine qT rfl rfl (fun wq hS => R.assign (v := (.bool false)) rfl) ?_
 refine WT.nil (thn_n (WP.seq (WP.reg ?_)))
 refine qM (.bool false) rfl rfl ?_
 refine WL.nil (thn_n ?_)
 refine WP.condF rfl ?_
 refine WP.skip (thn_n (WP.seq (WP.reg ?_)))
 refine WL.alloc (segs := [(32, (zB 32).map vu8)]) h_14 (zv typeInfo23 rfl) rfl (sC (s8 lr) sN) rfl (fun b_16 w_17 h_18 => ?_)
 refine WL.nil (thn_n (WP.seq (WP.seq (WP.reg ?_))))
 refine qM (pO ob 0) rfl rfl (qV rfl (R.nilCheck rfl) (qV rfl (R.fieldAddr (off' := 0) rfl underlying118 rfl sizeOf4 rfl rfl) (qV rfl (R.load1 rfl isAgg4 (h_18.ok _ M4) Sg.h) ?_)))
 refine WL.nil (thn_n ?_)
 refine WP.condF rfl ?_
 refine WP.reg ?_
 refine qM (Value.func (Fn.func 100) [].toArray [(Value.pointer (some ⟨bo, 0, none⟩)), (Value.pointer (some ⟨bn, 0, none⟩))].toArray) rfl rfl ?_
 refine WL.call Tryz.call100 rfl rfl (c_sCl l hl oa bo bn _ (ownView (h_18.ok _ M12)) (h_18.argR M10) (h_18.argR M11)) rfl ?_
 rintro _ w_20 ⟨rfl, hc_19⟩
 have h_21 := h_18.same hc_19
 refine WL.storeA [] [(32, (zB 32).map vu8)] [(32, (l.take 32).map vu8)] [] h_21 rfl rfl sizeOf23 At.h (by decide) rfl rfl rfl rfl rfl rfl (sC (s8 (by rw [List.length_take, hl]; decide)) sN) (fun w_22 h_23 => ?_)
 refine WL.nil (thn_n (WP.seq (WP.reg ?_)))
 refine qV rfl (R.fieldAddr (off' := 34) rfl underlying90 rfl sizeOf88 rfl rfl) (qV rfl (R.load1 rfl isAgg88 (h_23.ok _ M3) (Sg.t rfl (Sg.t rfl (Sg.t rfl Sg.h)))) ?_)
 refine WL.call Tryz.call65 rfl rfl (c_Clone qa qn qc data hdl (by omega) _ (viewV (h_23.ok _ M9))) rfl ?_
 rintro _ w_26 ⟨a_24, cap_25, rfl, hc_27, ho_28⟩
 have h_29 := h_23.gotRow hc_27 ho_28
 refine qV rfl (R.fieldAddr (off' := 34) rfl underlying90 rfl sizeOf88 rfl rfl) ?_
 refine WL.store1 h_29 rfl rfl sizeOf88 rfl Y4 (by decide) (Sg.t rfl (Sg.t rfl (Sg.t rfl Sg.h))) (fun w_30 h_31 => ?_)
 refine WL.nil (thn_n (WP.seq ?_))
 refine WP.drawT (SL w00.heap.size [.row a_24 qn cap_25 5 1 (data.map vu8), .blk b_16 .nw 23 [(32, (l.take 32).map vu8)], .blk b_8 .nw 140 [(1, [(vi kd)]), (32, key.map vu8), (1, [(vi dm)]), (1, [(.string (bstr data))])], .blk b_4 .nw 23 [(32, (zB 32).map vu8)], .blk b_1 .nw 90 [(1, [(vi kd)]), (32, key.map vu8), (1, [(vi dm)]), (1, [(.slice a_24 qn cap_25)])], .blk ob .nw 118 [(1, [(.bool false)]), (32, ms.map vu8), (1, [(.slice da dn dc)]), (1, [(vn u)]), (1, [(.map (some mp))]), (1, [(.slice la lg.length lc)])], .row la lg.length lc 96 67 lx, .pin (sblks lx) (fun w => Lgs w lx lg), .view da (df.map vu8), .view qa (data.map vu8), .blk bo .nw 88 [(1, [(.slice oa 128 128)])], .blk bn .nw 3 [(1, [(vi 128)])], .row oa 128 128 5 1 (l.map vu8)]) (.q 0 (.q 1 (.q 2 (.q 3 (.q 4 (.q 5 (.q 6 (.q 7 (.q 8 (.q 9 (.s 10 .nil))))))))))) (by kernel_rfl) (by kernel_rfl) rfl (by kernel_rfl) (fun w_32 hc_34 => (SL.cons ((h_31.same hc_34).ok _ M0) (SL.cons ((h_31.same hc_34).ok _ M1) (SL.cons ((h_31.same hc_34).ok _ M2) (SL.cons ((h_31.same hc_34).ok _ M3) (SL.cons ((h_31.same hc_34).ok _ M4) (SL.cons ((h_31.same hc_34).ok _ M5) (SL.cons ((h_31.same hc_34).ok _ M6) (SL.cons ((h_31.same hc_34).ok _ M8) (SL.cons ((h_31.same hc_34).ok _ M9) (SL.cons ((h_31.same hc_34).ok _ M10) (SL.cons ((h_31.same hc_34).ok _ M11) (SL.cons ((h_31.same hc_34).ok _ M12) (SL.cons ((h_31.same hc_34).ok _ M13) (SL.nil _ _))))))))))))))) (fun w_32 hc_34 => ?_)
 have h_33 := h_31.same hc_34
 refine qT rfl rfl (fun wq hS => R.move (v := (pO ob 0)) rfl) ?_
 refine qT rfl rfl (fun wq hS => R.nilCheck rfl) ?_
 refine qT rfl rfl (fun wq hS => R.fieldAddr (off' := 35) rfl underlying118 rfl sizeOf116 rfl rfl) ?_
 refine qT rfl rfl (fun wq hS => R.load1 rfl isAgg116 (hS _ M5) (Sg.t rfl (Sg.t rfl (Sg.t rfl (Sg.t rfl Sg.h))))) ?_
 refine qT rfl rfl (fun wq hS => R.loadA [] [(1, [(vi kd)]), (32, key.map vu8), (1, [(vi dm)]), (1, [(.string (bstr data))])] [] rfl isAgg140 sizeOf140 (hS _ M2) rfl rfl rfl rfl) ?_
 refine qT rfl rfl (fun wq hS => R.move (v := (pO ob 0)) rfl) ?_
 refine qT rfl rfl (fun wq hS => R.nilCheck rfl) ?_
 refine qT rfl rfl (fun wq hS => R.fieldAddr (off' := 36) rfl underlying118 rfl sizeOf44 rfl rfl) ?_
 refine qT rfl rfl (fun wq hS => R.load1 rfl isAgg44 (hS _ M5) (Sg.t rfl (Sg.t rfl (Sg.t rfl (Sg.t rfl (Sg.t rfl Sg.h)))))) ?_
 refine qT rfl rfl (fun wq hS => R.lenS (a := la) (m := lg.length) rfl rfl underlying44) ?_
 refine WT.s (oN rfl ?_)
 refine WL.mapUpdate (k := (.agg ⟨flat [(1, [(vi kd)]), (32, key.map vu8), (1, [(vi dm)]), (1, [(.string (bstr data))])]⟩)) (v := (vn (lg.length))) h_33 rfl rfl rfl underlying116 Y7 (by decide) (Ck.agg kt140 (by decide) ag140 (typQ (kd, key, dm, data) hq)) (log_miss kt140 (by decide) ag140 typQ hq hlo hfd) (fun w_35 h_36 => ?_)
 refine WL.nil ?_
 refine ⟨(SL.cons (h_36.ok _ M0) (SL.cons (h_36.ok _ M1) (SL.cons (h_36.ok _ M2) (SL.cons (h_36.ok _ M3) (SL.cons (h_36.ok _ M4) (SL.cons (h_36.ok _ M5) (SL.cons (h_36.ok _ M6) (SL.cons (h_36.ok _ M8) (SL.cons (h_36.ok _ M9) (SL.cons (h_36.ok _ M10) (SL.cons (h_36.ok _ M11) (SL.cons (h_36.ok _ M12) (SL.cons (h_36.ok _ M13) (SL.nil _ _)))))))))))))), ?_⟩
 refine WT.nil (thn_n (WP.seq ?_))
 refine WP.cutG (G := Nat × Option Addr × Nat) [61, 62, 63, 64, 65, 66, 67, 68, 69, 70, 71, 72] (fun (bY11Y8Y0Y0, aY11Y9Y0Y0, cY11Y9Y0Y0) => [(61, (pO ob 0)), (62, (pO ob 0)), (63, (pO ob 0)), (64, (pO ob 36)), (66, (.agg ⟨flat [(1, [(vi kd)]), (32, key.map vu8), (1, [(vi dm)]), (1, [(.slice a_24 qn cap_25)])]⟩)), (67, (.agg ⟨(l.take 32).map vu8⟩)), (68, (.agg ⟨flat [(1, [(vi kd)]), (32, key.map vu8), (1, [(vi dm)]), (1, [(.slice a_24 qn cap_25)]), (32, (l.take 32).map vu8)]⟩)), (65, (.slice la lg.length lc)), (69, (.slice (some ⟨bY11Y8Y0Y0, 0, none⟩) 1 1)), (70, (.slice aY11Y9Y0Y0 (lg.length + 1) cY11Y9Y0Y0)), (71, (pO ob 0)), (72, (pO ob 36))]) (fun (bY11Y8Y0Y0, aY11Y9Y0Y0, cY11Y9Y0Y0) w1 => HP w00 w1 (Ent.blk bY11Y8Y0Y0 .nw 96 [(67, aC (kd, key, dm, data) (.slice a_24 qn cap_25) (l.take 32))] :: Ent.row a_24 qn cap_25 5 1 (data.map vu8) :: Ent.blk b_16 .nw 23 [(32, (l.take 32).map vu8)] :: Ent.blk b_8 .nw 140 [(1, [(vi kd)]), (32, key.map vu8), (1, [(vi dm)]), (1, [(.string (bstr data))])] :: Ent.blk b_4 .nw 23 [(32, (zB 32).map vu8)] :: Ent.blk b_1 .nw 90 [(1, [(vi kd)]), (32, key.map vu8), (1, [(vi dm)]), (1, [(.slice a_24 qn cap_25)])] :: Ent.blk ob .nw 118 [(1, [(.bool false)]), (32, ms.map vu8), (1, [(.slice da dn dc)]), (1, [(vn u)]), (1, [(.map (some mp))]), (1, [(.slice aY11Y9Y0Y0 (lg.length + 1) cY11Y9Y0Y0)])] :: Ent.row aY11Y9Y0Y0 (lg.length + 1) cY11Y9Y0Y0 96 67 (lx ++ aC (kd, key, dm, data) (.slice a_24 qn cap_25) (l.take 32)) :: Ent.obj mp .nw (.map ((mArr lg).push { key := (.agg ⟨flat [(1, [(vi kd)]), (32, key.map vu8), (1, [(vi dm)]), (1, [(.string (bstr data))])]⟩), val := (vn (lg.length)), born := lg.length }) (lg.length + 1)) :: Ent.pin (sblks lx) (fun w => Lgs w lx lg) :: Ent.view da (df.map vu8) :: Ent.view qa (data.map vu8) :: Ent.blk bo .nw 88 [(1, [(.slice oa 128 128)])] :: Ent.blk bn .nw 3 [(1, [(vi 128)])] :: Ent.row oa 128 128 5 1 (l.map vu8) :: L)) ?_ ?_
 ·refine WP.drawT (SL w00.heap.size [.row a_24 qn cap_25 5 1 (data.map vu8), .blk b_16 .nw 23 [(32, (l.take 32).map vu8)], .blk b_8 .nw 140 [(1, [(vi kd)]), (32, key.map vu8), (1, [(vi dm)]), (1, [(.string (bstr data))])], .blk b_4 .nw 23 [(32, (zB 32).map vu8)], .blk b_1 .nw 90 [(1, [(vi kd)]), (32, key.map vu8), (1, [(vi dm)]), (1, [(.slice a_24 qn cap_25)])], .obj mp .nw (.map ((mArr lg).push { key := (.agg ⟨flat [(1, [(vi kd)]), (32, key.map vu8), (1, [(vi dm)]), (1, [(.string (bstr data))])]⟩), val := (vn (lg.length)), born := lg.length }) (lg.length + 1)), .pin (sblks lx) (fun w => Lgs w lx lg), .view da (df.map vu8), .view qa (data.map vu8), .blk bo .nw 88 [(1, [(.slice oa 128 128)])], .blk bn .nw 3 [(1, [(vi 128)])], .row oa 128 128 5 1 (l.map vu8)]) (.q 0 (.q 1 (.q 2 (.q 3 (.q 5 (.q 6 (.q 7 (.s2 4 8 (.s 8 (.s 9 (.q 10 (.q 11 (.s 12 .nil))))) (.s 4 (.s 9 (.q 10 (.q 11 (.s 12 .nil))))))))))))) (by kernel_rfl) (by kernel_rfl) rfl (by kernel_rfl) (fun w_37 hc_39 => (SL.cons ((h_36.same hc_39).ok _ M0) (SL.cons ((h_36.same hc_39).ok _ M1) (SL.cons ((h_36.same hc_39).ok _ M2) (SL.cons ((h_36.same hc_39).ok _ M3) (SL.cons ((h_36.same hc_39).ok _ M4) (SL.cons ((h_36.same hc_39).ok _ M7) (SL.cons ((h_36.same hc_39).ok _ M8) (SL.cons ((h_36.same hc_39).ok _ M9) (SL.cons ((h_36.same hc_39).ok _ M10) (SL.cons ((h_36.same hc_39).ok _ M11) (SL.cons ((h_36.same hc_39).ok _ M12) (SL.cons ((h_36.same hc_39).ok _ M13) (SL.nil _ _)))))))))))))) (fun w_37 hc_39 => ?_)
  have h_38 := h_36.same hc_39
  refine qT rfl rfl (fun wq hS => R.move (v := (pO ob 0)) rfl) ?_
  refine qT rfl rfl (fun wq hS => R.move (v := (pO ob 0)) rfl) ?_
  refine qT rfl rfl (fun wq hS => R.nilCheck rfl) ?_
  refine qT rfl rfl (fun wq hS => R.fieldAddr (off' := 36) rfl underlying118 rfl sizeOf44 rfl rfl) ?_
  refine qT rfl rfl (fun wq hS => R.loadA [] [(1, [(vi kd)]), (32, key.map vu8), (1, [(vi dm)]), (1, [(.slice a_24 qn cap_25)])] [] rfl isAgg90 sizeOf90 (hS _ M4) rfl rfl rfl rfl) ?_
  refine qT rfl rfl (fun wq hS => R.loadA [] [(32, (l.take 32).map vu8)] [] (cs := (l.take 32).map vu8) rfl isAgg23 sizeOf23 (hS _ M1) rfl rfl rfl rfl) ?_
  refine qT rfl rfl (fun wq hS => R.buildS (pl := [(0, 35), (35, 32)]) (zs := [(1, [(vi 0)]), (32, (zB 32).map vu8), (1, [(vi 0)]), (1, [(.slice none 0 0)]), (32, (zB 32).map vu8)]) (vs := [(0, (.agg ⟨flat [(1, [(vi kd)]), (32, key.map vu8), (1, [(vi dm)]), (1, [(.slice a_24 qn cap_25)])]⟩)), (1, (.agg ⟨(l.take 32).map vu8⟩))]) (out := [(1, [(vi kd)]), (32, key.map vu8), (1, [(vi dm)]), (1, [(.slice a_24 qn cap_25)]), (32, (l.take 32).map vu8)]) underlying96 (zv typeInfo96 rfl) rfl (sC sV (sC (s8 lr) (sC sV (sC sV (sC (s8 lr) sN))))) (pl96 _ underlying96) rfl (FillR.cons [] [(1, [(vi 0)]), (32, (zB 32).map vu8), (1, [(vi 0)]), (1, [(.slice none 0 0)])] [(1, [(vi kd)]), (32, key.map vu8), (1, [(vi dm)]), (1, [(.slice a_24 qn cap_25)])] [(32, (zB 32).map vu8)] rfl rfl rfl rfl (sC sV (sC (s8 hq.1) (sC sV (sC sV sN)))) rfl rfl rfl (FillR.cons [(1, [(vi kd)]), (32, key.map vu8), (1, [(vi dm)]), (1, [(.slice a_24 qn cap_25)])] [(32, (zB 32).map vu8)] [(32, (l.take 32).map vu8)] [] rfl rfl rfl rfl (sC (s8 (by rw [List.length_take, hl]; decide)) sN) rfl rfl rfl FillR.nil)) rfl) ?_
  refine WT.s2 ?_ ?_
  ·refine oN rfl ?_
   refine qV rfl (R.load1 rfl isAgg44 (h_38.ok _ M5) (Sg.t rfl (Sg.t rfl (Sg.t rfl (Sg.t rfl (Sg.t rfl Sg.h)))))) ?_
   refine WL.nil ?_
   refine ⟨(SL.cons (h_38.ok _ M0) (SL.cons (h_38.ok _ M1) (SL.cons (h_38.ok _ M2) (SL.cons (h_38.ok _ M3) (SL.cons (h_38.ok _ M4) (SL.cons (h_38.ok _ M7) (SL.cons (h_38.ok _ M8) (SL.cons (h_38.ok _ M9) (SL.cons (h_38.ok _ M10) (SL.cons (h_38.ok _ M11) (SL.cons (h_38.ok _ M12) (SL.cons (h_38.ok _ M13) (SL.nil _ _))))))))))))), ?_⟩
   refine WT.s (oN rfl ?_)
   refine WL.buildSl (vs := [(0, (.agg ⟨flat [(1, [(vi kd)]), (32, key.map vu8), (1, [(vi dm)]), (1, [(.slice a_24 qn cap_25)]), (32, (l.take 32).map vu8)]⟩))]) (cs := aC (kd, key, dm, data) (.slice a_24 qn cap_25) (l.take 32)) h_38 underlying44 sizeOf96 (zv typeInfo96 rfl) rfl rfl (fill_1 (zc := flat [(1, [vi 0]), (32, List.replicate 32 (vu8 0)), (1, [vi 0]), (1, [.slice none 0 0]), (32, List.replicate 32 (vu8 0))]) (by kernel_rfl) (sC (s := (67, flat [(1, [vi 0]), (32, List.replicate 32 (vu8 0)), (1, [vi 0]), (1, [.slice none 0 0]), (32, List.replicate 32 (vu8 0))])) ⟨by decide, SsOk.one (sC sV (sC (SOk.rep rfl) (sC sV (sC sV (sC (SOk.rep rfl) sN)))))⟩ sN) (aC_ok (q := (kd, key, dm, data)) (s := (.slice a_24 qn cap_25)) (d := l.take 32) hq.1 (by rw [List.length_take, hl]; decide) rfl)) ((aC_ok (q := (kd, key, dm, data)) (s := (.slice a_24 qn cap_25)) (d := l.take 32) hq.1 (by rw [List.length_take, hl]; decide) rfl)).head.len ((aC_ok (q := (kd, key, dm, data)) (s := (.slice a_24 qn cap_25)) (d := l.take 32) hq.1 (by rw [List.length_take, hl]; decide) rfl)).head.one rfl rfl (fun b_41 w_42 h_43 => ?_)
   refine WL.nil ?_
   refine ⟨(N1_2_3_4_5_8_9_10_11_12_13_14 h_43.ok), ?_⟩
   refine WT.s (oN rfl ?_)
   refine WL.append (km := lg.length + 1) (xs := lx) (ys := aC (kd, key, dm, data) (.slice a_24 qn cap_25) (l.take 32)) (zs := lx ++ aC (kd, key, dm, data) (.slice a_24 qn cap_25) (l.take 32)) h_43 rfl rfl el44 (viewB (h_43.ok _ M0) Sg.h) ((aC_ok (q := (kd, key, dm, data)) (s := (.slice a_24 qn cap_25)) (d := l.take 32) hq.1 hl32 rfl)).head.len ((aC_ok (q := (kd, key, dm, data)) (s := (.slice a_24 qn cap_25)) (d := l.take 32) hq.1 hl32 rfl)).head.one rfl (by omega) (by omega) (by omega) (fun _ _ => Y7) rfl (fun a_44 c_45 w_46 h_47 => ?_)
   refine WL.nil ?_
   refine ⟨(N1_2_3_4_5_8_9_10_11_12_13_14 h_47.ok), ?_⟩
   refine qT rfl rfl (fun wq hS => R.nilCheck rfl) ?_
   refine qT rfl rfl (fun wq hS => R.fieldAddr (off' := 36) rfl underlying118 rfl sizeOf44 rfl rfl) ?_
   refine WT.s (oN rfl ?_)
   refine WL.store1 h_47 rfl rfl sizeOf44 rfl Y6 (by decide) (Sg.t rfl (Sg.t rfl (Sg.t rfl (Sg.t rfl (Sg.t rfl Sg.h))))) (fun w_48 h_49 => ?_)
   refine WL.nil ?_
   refine ⟨(N1_2_3_4_5_8_9_10_11_12_13_14 h_49.ok), ?_⟩
   refine WT.nil (thn_n ?_)
   exact ⟨(b_41, a_44, c_45), (U4 rfl rfl rfl rfl (U4 rfl rfl rfl rfl (U4 rfl rfl rfl rfl (Ag.refl _ _)))), ⟨rfl, rfl, rfl, rfl, rfl, rfl, rfl, rfl, rfl, rfl, rfl, rfl, trivial⟩, h_49⟩
  ·refine oN rfl ?_
   refine WL.buildSl (vs := [(0, (.agg ⟨flat [(1, [(vi kd)]), (32, key.map vu8), (1, [(vi dm)]), (1, [(.slice a_24 qn cap_25)]), (32, (l.take 32).map vu8)]⟩))]) (cs := aC (kd, key, dm, data) (.slice a_24 qn cap_25) (l.take 32)) h_38 underlying44 sizeOf96 (zv typeInfo96 rfl) rfl rfl (fill_1 (zc := flat [(1, [vi 0]), (32, List.replicate 32 (vu8 0)), (1, [vi 0]), (1, [.slice none 0 0]), (32, List.replicate 32 (vu8 0))]) (by kernel_rfl) (sC (s := (67, flat [(1, [vi 0]), (32, List.replicate 32 (vu8 0)), (1, [vi 0]), (1, [.slice none 0 0]), (32, List.replicate 32 (vu8 0))])) ⟨by decide, SsOk.one (sC sV (sC (SOk.rep rfl) (sC sV (sC sV (sC (SOk.rep rfl) sN)))))⟩ sN) (aC_ok (q := (kd, key, dm, data)) (s := (.slice a_24 qn cap_25)) (d := l.take 32) hq.1 (by rw [List.length_take, hl]; decide) rfl)) ((aC_ok (q := (kd, key, dm, data)) (s := (.slice a_24 qn cap_25)) (d := l.take 32) hq.1 (by rw [List.length_take, hl]; decide) rfl)).head.len ((aC_ok (q := (kd, key, dm, data)) (s := (.slice a_24 qn cap_25)) (d := l.take 32) hq.1 (by rw [List.length_take, hl]; decide) rfl)).head.one rfl rfl (fun b_50 w_51 h_52 => ?_)
   refine WL.nil ?_
   refine ⟨(N1_2_3_4_5_8_9_10_11_12_13_14 h_52.ok), ?_⟩
   refine WT.s (oN rfl ?_)
   refine qV rfl (R.load1 rfl isAgg44 (h_52.ok _ M6) (Sg.t rfl (Sg.t rfl (Sg.t rfl (Sg.t rfl (Sg.t rfl Sg.h)))))) ?_
   refine WL.nil ?_
   refine ⟨(N1_2_3_4_5_8_9_10_11_12_13_14 h_52.ok), ?_⟩
   refine WT.s (oN rfl ?_)
   refine WL.append (km := lg.length + 1) (xs := lx) (ys := aC (kd, key, dm, data) (.slice a_24 qn cap_25) (l.take 32)) (zs := lx ++ aC (kd, key, dm, data) (.slice a_24 qn cap_25) (l.take 32)) h_52 rfl rfl el44 (viewB (h_52.ok _ M0) Sg.h) ((aC_ok (q := (kd, key, dm, data)) (s := (.slice a_24 qn cap_25)) (d := l.take 32) hq.1 hl32 rfl)).head.len ((aC_ok (q := (kd, key, dm, data)) (s := (.slice a_24 qn cap_25)) (d := l.take 32) hq.1 hl32 rfl)).head.one rfl (by omega) (by omega) (by omega) (fun _ _ => Y7) rfl (fun a_53 c_54 w_55 h_56 => ?_)
   refine WL.nil ?_
   refine ⟨(N1_2_3_4_5_8_9_10_11_12_13_14 h_56.ok), ?_⟩
   refine qT rfl rfl (fun wq hS => R.nilCheck rfl) ?_
   refine qT rfl rfl (fun wq hS => R.fieldAddr (off' := 36) rfl underlying118 rfl sizeOf44 rfl rfl) ?_
   refine WT.s (oN rfl ?_)
   refine WL.store1 h_56 rfl rfl sizeOf44 rfl Y6 (by decide) (Sg.t rfl (Sg.t rfl (Sg.t rfl (Sg.t rfl (Sg.t rfl Sg.h))))) (fun w_57 h_58 => ?_)
   refine WL.nil ?_
   refine ⟨(N1_2_3_4_5_8_9_10_11_12_13_14 h_58.ok), ?_⟩
   refine WT.nil (thn_n ?_)
   exact ⟨(b_50, a_53, c_54), (U4 rfl rfl rfl rfl (U4 rfl rfl rfl rfl (U4 rfl rfl rfl rfl (Ag.refl _ _)))), ⟨rfl, rfl, rfl, rfl, rfl, rfl, rfl, rfl, rfl, rfl, rfl, rfl, trivial⟩, h_58⟩
 ·rintro ⟨b_62, a_63, c_64⟩ J_59 w_60 h_61
  refine thn_n (WP.seq (WP.reg ?_))
  refine qV rfl (R.loadA [] [(32, (l.take 32).map vu8)] [] (cs := (l.take 32).map vu8) rfl isAgg23 sizeOf23 (h_61.ok _ M2) rfl rfl rfl rfl) ?_
  refine WL.storeA [] [(32, (zB 32).map vu8)] [(32, (l.take 32).map vu8)] [] h_61 rfl rfl sizeOf23 Y4 (by decide) rfl rfl rfl rfl rfl rfl (sC (s8 (by rw [List.length_take, hl]; decide)) sN) (fun w_65 h_66 => ?_)
  refine WL.nil (thn_n (WP.ret ?_))
  refine ret_of results87 (RV.cell rfl (h_66.loadA (cs := (l.take 32).map vu8) isAgg23 sizeOf23 M4 rfl rfl) RV.nil) ?_
  have h_85 := ((((((((((((((((((h_66.drop rfl).up J1).drop rfl).up J1).drop rfl).up J1).drop rfl).up J1).drop rfl).up J9).up J9).up J9).up J9).up J9).up J8).up J8).up J8).up J9).up J9
  have h_86 := HP_logPush (q := (kd, key, dm, data)) (d := l.take 32) h_85 hq hl32 hdl
  have h_100 := ((((((((((((h_86.up J1).drop rfl).up J1).drop rfl).up J8).up J8).up J8).up J8).up J8).up J5).up J8).up J8).up J8
  have hse : lg.length + 1 = (lg ++ [((kd, key, dm, data), l.take 32)]).length := snoc_len.symm
  have hme := mArr_push lg (kd, key, dm, data) (l.take 32)
  have h_87 := h_100
  rw [hse] at h_87
  exact ⟨_, _, _, l.take 32, rfl, hl32, by rw [sL_miss hfd]; show HP _ _ (_ :: _ :: .obj _ _ (.map (mArr (lg ++ [((kd, key, dm, data), l.take 32)])) _) :: _); rw [hme]; exact h_87⟩

theorem c_ansS {w00 : World} {L : List Ent} (ob mp : Nat) (ms df : List UInt8) (hms : ms.length = 32) (da : Option Addr) (dn dc u : Nat) (hdf : df.length = 32 * dn) (la : Option Addr) (lc : Nat) (lx : List Value) (lg : Lg) (hu : u ≤ 1000000) (hlg : lg.length ≤ 1000000) (kd dm : Int) (key data : List UInt8) (qa : Option Addr) (qn qc : Nat) (hq : okQ (kd, key, dm, data)) (hdl : data.length = qn) (l : List UInt8) (hl : l.length = 128) (oa : Option Addr) (bo bn : Nat) (w : World) (h_0 : HP w00 w (Ent.blk ob .nw 118 [(1, [(.bool false)]), (32, ms.map vu8), (1, [(.slice da dn dc)]), (1, [(vi ((u : Nat) : Int))]), (1, [(.map (some mp))]), (1, [(.slice la lg.length lc)])] :: Ent.row la lg.length lc 96 67 lx :: Ent.obj mp .nw (.map (mArr lg) lg.length) :: Ent.pin (sblks lx) (fun w => Lgs w lx lg) :: Ent.view da (df.map vu8) :: Ent.view qa (data.map vu8) :: Ent.blk bo .nw 88 [(1, [(.slice oa 128 128)])] :: Ent.blk bn .nw 3 [(1, [(vi 128)])] :: Ent.row oa 128 128 5 1 (l.map vu8) :: L)) :
  Cs Tryz.prog 87 [(.pointer (some ⟨ob, 0, none⟩)), (.agg ⟨flat [(1, [(vi kd)]), (32, key.map vu8), (1, [(vi dm)]), (1, [(.slice qa qn qc)])]⟩), (Value.func (Fn.func 100) [].toArray [(Value.pointer (some ⟨bo, 0, none⟩)), (Value.pointer (some ⟨bn, 0, none⟩))].toArray)].toArray w (fun v w1 => ∃ la' lc' lx', ∃ d : List UInt8, v = (.agg ⟨d.map vu8⟩) ∧ d.length = 32 ∧ HP w00 w1 (Ent.blk ob .nw 118 [(1, [(.bool false)]), (32, ms.map vu8), (1, [(.slice da dn dc)]), (1, [(vi ((u : Nat) : Int))]), (1, [(.map (some mp))]), (1, [(.slice la' ((sL (kd, key, dm, data) (l.take 32) lg).length) lc')])] :: Ent.row la' ((sL (kd, key, dm, data) (l.take 32) lg).length) lc' 96 67 lx' :: Ent.obj mp .nw (.map (mArr (sL (kd, key, dm, data) (l.take 32) lg)) ((sL (kd, key, dm, data) (l.take 32) lg).length)) :: Ent.pin (sblks lx') (fun w => Lgs w lx' (sL (kd, key, dm, data) (l.take 32) lg)) :: Ent.view da (df.map vu8) :: Ent.view qa (data.map vu8) :: Ent.blk bo .nw 88 [(1, [(.slice oa 128 128)])] :: Ent.blk bn .nw 3 [(1, [(vi 128)])] :: Ent.row oa 128 128 5 1 (l.map vu8) :: L)) := by
 cases hfd : fdq (kd, key, dm, data) lg 0 with
 | none => exact c_ans_missS ob mp ms df hms da dn dc u hdf la lc lx lg hu hlg kd dm key data qa qn qc hq hdl l hl oa bo bn hfd w h_0
 | some i =>
  have h32 : ok32 lg := Lgs.ok32 (h_0.ok _ M3).1
  refine (c_ans_hit false ob mp ms df hms da dn dc u hdf la lc lx lg hu hlg kd dm key data qa qn qc hq hdl _ i hfd w h_0).mono fun v w1 h => ?_
  obtain ⟨la', lc', lx', rfl, h⟩ := h
  rw [anU_hit hfd, anL_hit hfd] at h
  exact ⟨la', lc', lx', _, rfl, anD_len hdf h32, by rw [sL_hit hfd]; exact h⟩

theorem c_oStreamF {w00 : World} {L : List Ent} (ob mp : Nat) (ms df : List UInt8) (hms : ms.length = 32) (da : Option Addr) (dn dc u : Nat) (hdf : df.length = 32 * dn) (la : Option Addr) (lc : Nat) (lx : List Value) (lg : Lg) (hu : u ≤ 1000000) (hlg : lg.length ≤ 1000000) (dm : Int) (key data : List UInt8) (qa : Option Addr) (qn qc : Nat) (hk : key.length = 32) (hdm : 1 ≤ dm ∧ dm ≤ 16) (hdl : data.length = qn) (hqn : qn ≤ 100000) (w : World) (h_0 : HP w00 w (Ent.blk ob .nw 118 [(1, [(.bool false)]), (32, ms.map vu8), (1, [(.slice da dn dc)]), (1, [(vi ((u : Nat) : Int))]), (1, [(.map (some mp))]), (1, [(.slice la lg.length lc)])] :: Ent.row la lg.length lc 96 67 lx :: Ent.obj mp .nw (.map (mArr lg) lg.length) :: Ent.pin (sblks lx) (fun w => Lgs w lx lg) :: Ent.view da (df.map vu8) :: Ent.view qa (data.map vu8) :: L)) :
  Cs Tryz.prog 68 [(.pointer (some ⟨ob, 0, none⟩)), (.agg ⟨flat [(1, [(vi 4)]), (32, key.map vu8), (1, [(vi dm)]), (1, [(.slice qa qn qc)])]⟩), (vi 128)].toArray w (fun v w1 => ∃ a la' lc' lx', v = .tuple [.slice a 128 128, vi 0].toArray ∧ HP w00 w1 (Ent.row a 128 128 5 1 ((nL ((4 : Int), key, dm, data) 128).map vu8) :: Ent.blk ob .nw 118 [(1, [(.bool false)]), (32, ms.map vu8), (1, [(.slice da dn dc)]), (1, [(vi ((u : Nat) : Int))]), (1, [(.map (some mp))]), (1, [(.slice la' ((sL ((4 : Int), key, dm, data) ((nL ((4 : Int), key, dm, data) 128).take 32) lg).length) lc')])] :: Ent.row la' ((sL ((4 : Int), key, dm, data) ((nL ((4 : Int), key, dm, data) 128).take 32) lg).length) lc' 96 67 lx' :: Ent.obj mp .nw (.map (mArr (sL ((4 : Int), key, dm, data) ((nL ((4 : Int), key, dm, data) 128).take 32) lg)) ((sL ((4 : Int), key, dm, data) ((nL ((4 : Int), key, dm, data) 128).take 32) lg).length)) :: Ent.pin (sblks lx') (fun w => Lgs w lx' (sL ((4 : Int), key, dm, data) ((nL ((4 : Int), key, dm, data) 128).take 32) lg)) :: Ent.view da (df.map vu8) :: Ent.view qa (data.map vu8) :: L)) := by
 have hqd : data.length ≤ 1000000000 := by omega
 refine Cs.of (n := 88) (args := [(pO ob 0), (.agg ⟨flat [(1, [(vi 4)]), (32, key.map vu8), (1, [(vi dm)]), (1, [(.slice qa qn qc)])]⟩), (vi 128)]) Tryz.func68 rfl rfl rfl ?_
 refine WP.seq (WP.reg ?_)
 refine WL.box (segs := [(1, [(vi 4)]), (32, key.map vu8), (1, [(vi dm)]), (1, [(.slice qa qn qc)])]) h_0 rfl rfl (sC sV (sC (s8 hk) (sC sV (sC sV sN)))) rfl (fun b_1 w_2 h_3 => ?_)
 refine WL.box (segs := [(1, [(vi 128)])]) h_3 rfl rfl (sC sV sN) rfl (fun b_4 w_5 h_6 => ?_)
 refine qA (.slice none 0 0) rfl rfl (qA (vi 0) rfl rfl ?_)
 refine WL.nil (thn_n (WP.seq (WP.block (WP.seq (WP.reg ?_)))))
 refine qM (pO ob 0) rfl rfl ?_
 refine WL.call Tryz.call63 rfl rfl (c_othere false ob mp ms hms da dn dc u la lg.length lc _ (h_6.argR M2)) rfl ?_
 rintro _ w_8 ⟨rfl, hc_7⟩
 have h_9 := h_6.same hc_7
 refine qV rfl (R.not (b := true) rfl) (qA (.bool false) rfl rfl ?_)
 refine WL.nil (thn_n ?_)
 refine WP.condF rfl ?_
 refine WP.seq (WP.reg ?_)
 refine qV rfl (R.loadA [] [(1, [(vi 4)]), (32, key.map vu8), (1, [(vi dm)]), (1, [(.slice qa qn qc)])] [] rfl isAgg90 sizeOf90 (h_9.ok _ M1) rfl rfl rfl rfl) ?_
 refine WL.call Tryz.call86 rfl rfl (c_may 4 dm key qa qn qc hk (by omega) hdm (fun h => by omega) _ ) rfl ?_
 rintro _ w_11 ⟨rfl, hc_10⟩
 have h_12 := h_9.same hc_10
 refine qV rfl (R.not (b := true) rfl) (qM (.bool false) rfl rfl ?_)
 refine WL.want rfl rfl ?_
 refine qV rfl (R.fieldAddr (off' := 0) rfl underlying90 rfl sizeOf86 rfl rfl) ?_
 refine WL.want rfl rfl ?_
 refine qV rfl (R.load1 rfl isAgg86 (h_12.ok _ M1) Sg.h) ?_
 refine WL.want rfl rfl ?_
 refine qV rfl (R.bin rfl rfl (bi_neq (r := false) (by decide))) (qV rfl (R.pickF (v := (.bool false)) rfl rfl) (qM (.bool false) rfl rfl ?_))
 refine WL.want rfl rfl ?_
 refine qV rfl (R.load1 rfl isAgg3 (h_12.ok _ M0) Sg.h) ?_
 refine WL.want rfl rfl ?_
 refine qV rfl (R.bin rfl rfl (bi_lss (r := false) (by decide))) (qV rfl (R.pickF (v := (.bool false)) rfl rfl) (qM (.bool false) rfl rfl ?_))
 refine WL.want rfl rfl ?_
 refine qV rfl (R.load1 rfl isAgg3 (h_12.ok _ M0) Sg.h) ?_
 refine WL.want rfl rfl ?_
 refine qV rfl (R.bin rfl rfl (bi_gtr (r := false) (by decide))) (qV rfl (R.pickF (v := (.bool false)) rfl rfl) (qA (.bool false) rfl rfl ?_))
 refine WL.nil (thn_n ?_)
 refine WP.condF rfl ?_
 refine WP.skip (inb_n (thn_n (WP.seq (WP.seq (WP.reg ?_)))))
 refine qM (pO ob 0) rfl rfl (qV rfl (R.nilCheck rfl) (qV rfl (R.fieldAddr (off' := 0) rfl underlying118 rfl sizeOf4 rfl rfl) (qV rfl (R.load1 rfl isAgg4 (h_12.ok _ M2) Sg.h) ?_)))
 refine WL.nil (thn_n ?_)
 refine WP.condF rfl ?_
 refine WP.skip (thn_n (WP.seq (WP.reg ?_)))
 refine qV rfl (R.loadA [] [(1, [(vi 4)]), (32, key.map vu8), (1, [(vi dm)]), (1, [(.slice qa qn qc)])] [] rfl isAgg90 sizeOf90 (h_12.ok _ M1) rfl rfl rfl rfl) ?_
 refine WL.call Tryz.call90 rfl rfl (c_oText 4 dm key data qa qn qc ⟨hk, by show (1 : Int) ≤ 4 ∧ (4 : Int) ≤ 4; decide, hdm, hqd⟩ hdl _ (viewV (h_12.ok _ M7))) rfl ?_
 rintro _ w_15 ⟨a_13, cap_14, rfl, hc_16, ho_17⟩
 have h_18 := h_12.gotRow hc_16 ho_17
 refine WL.call Tryz.call89 rfl rfl (c_Sum a_13 (34 + qn) cap_14 (cT (4, key, dm, data)) (cT_len ⟨hk, by show (1 : Int) ≤ 4 ∧ (4 : Int) ≤ 4; decide, hdm, hqd⟩ hdl) (by omega) (h_18.own M0).2.2.1 _ (ownView (h_18.ok _ M0))) rfl ?_
 rintro _ w_20 ⟨rfl, hc_19⟩
 have h_21 := h_18.same hc_19
 refine WL.alloc (segs := [(32, (zB 32).map vu8)]) h_21 (zv typeInfo23 rfl) rfl (sC (s8 lr) sN) rfl (fun b_22 w_23 h_24 => ?_)
 refine WL.storeA [] [(32, (zB 32).map vu8)] [(32, (sumL (cT (4, key, dm, data))).map vu8)] [] h_24 rfl rfl sizeOf23 At.h (by decide) rfl rfl rfl rfl rfl rfl (sC (s8 (sumL_len _)) sN) (fun w_25 h_26 => ?_)
 refine WL.nil (thn_n (WP.seq ?_))
 refine WP.cutG (G := Option Addr × Nat) [13, 14, 67, 68, 69, 70, 71, 72, 73, 74, 75, 76, 77, 78, 79] (fun (aY16Y9Y0Y0, bY16Y13Y0Y0) => [(68, (pO b_1 1)), (69, (.slice (some ⟨b_1, 1, none⟩) 16 32)), (70, (pO b_1 1)), (71, (.agg ⟨((key.drop 0).take 16).map vu8⟩)), (72, (.slice (some ⟨b_22, 0, none⟩) 8 32)), (73, (pO b_22 0)), (74, (.agg ⟨(((sumL (cT (4, key, dm, data))).drop 0).take 8).map vu8⟩)), (75, (vi 128)), (76, (vi 128)), (77, (.tuple [(.slice aY16Y9Y0Y0 128 128), (vi 0)].toArray)), (67, (.tuple [(.slice aY16Y9Y0Y0 128 128), (vi 0)].toArray)), (78, (.slice aY16Y9Y0Y0 128 128)), (79, (vi 0)), (13, (pO bY16Y13Y0Y0 0)), (14, (vi 0))]) (fun (aY16Y9Y0Y0, bY16Y13Y0Y0) w1 => HP w00 w1 (Ent.blk bY16Y13Y0Y0 .nw 88 [(1, [(.slice aY16Y9Y0Y0 128 128)])] :: Ent.row aY16Y9Y0Y0 128 128 5 1 ((Go.Ax.strL ((key.drop 0).take 16) (((sumL (cT (4, key, dm, data))).drop 0).take 8) 128).map vu8) :: Ent.blk b_22 .nw 23 [(32, (sumL (cT (4, key, dm, data))).map vu8)] :: Ent.row a_13 (34 + qn) cap_14 5 1 ((cT (4, key, dm, data)).map vu8) :: Ent.blk b_4 .nw 3 [(1, [(vi 128)])] :: Ent.blk b_1 .nw 90 [(1, [(vi 4)]), (32, key.map vu8), (1, [(vi dm)]), (1, [(.slice qa qn qc)])] :: Ent.blk ob .nw 118 [(1, [(.bool false)]), (32, ms.map vu8), (1, [(.slice da dn dc)]), (1, [(vn u)]), (1, [(.map (some mp))]), (1, [(.slice la lg.length lc)])] :: Ent.row la lg.length lc 96 67 lx :: Ent.obj mp .nw (.map (mArr lg) lg.length) :: Ent.pin (sblks lx) (fun w => Lgs w lx lg) :: Ent.view da (df.map vu8) :: Ent.view qa (data.map vu8) :: L)) ?_ ?_
 ·refine WP.drawT (SL w00.heap.size [.blk b_22 .nw 23 [(32, (sumL (cT (4, key, dm, data))).map vu8)], .row a_13 (34 + qn) cap_14 5 1 ((cT (4, key, dm, data)).map vu8), .blk b_4 .nw 3 [(1, [(vi 128)])], .blk b_1 .nw 90 [(1, [(vi 4)]), (32, key.map vu8), (1, [(vi dm)]), (1, [(.slice qa qn qc)])], .blk ob .nw 118 [(1, [(.bool false)]), (32, ms.map vu8), (1, [(.slice da dn dc)]), (1, [(vn u)]), (1, [(.map (some mp))]), (1, [(.slice la lg.length lc)])], .row la lg.length lc 96 67 lx, .obj mp .nw (.map (mArr lg) lg.length), .pin (sblks lx) (fun w => Lgs w lx lg), .view da (df.map vu8), .view qa (data.map vu8)]) (.q 0 (.q 1 (.q 2 (.q 3 (.q 4 (.q 5 (.q 6 (.q 7 (.q 8 (.s2 9 13 (.q 10 (.q 11 (.q 12 (.s 13 (.s 14 (.q 15 .nil)))))) (.s 9 (.q 10 (.q 11 (.q 12 (.s 14 (.q 15 .nil)))))))))))))))) (by kernel_rfl) (by kernel_rfl) rfl (by kernel_rfl) (fun w_27 hc_29 => (SL.cons ((h_26.same hc_29).ok _ M0) (SL.cons ((h_26.same hc_29).ok _ M1) (SL.cons ((h_26.same hc_29).ok _ M2) (SL.cons ((h_26.same hc_29).ok _ M3) (SL.cons ((h_26.same hc_29).ok _ M4) (SL.cons ((h_26.same hc_29).ok _ M5) (SL.cons ((h_26.same hc_29).ok _ M6) (SL.cons ((h_26.same hc_29).ok _ M7) (SL.cons ((h_26.same hc_29).ok _ M8) (SL.cons ((h_26.same hc_29).ok _ M9) (SL.nil _ _)))))))))))) (fun w_27 hc_29 => ?_)
  have h_28 := h_26.same hc_29
  refine qT rfl rfl (fun wq hS => R.fieldAddr (off' := 1) rfl underlying90 rfl sizeOf23 rfl rfl) ?_
  refine qT rfl rfl (fun wq hS => R.sliceA (b := b_1) (off := 1) (off' := 1) (l := 0) (h := 16) rfl EvB.dflt (EvB.it (l := 16) rfl rfl) (by decide) (by decide) underlying23 sizeOf5 rfl) ?_
  refine qT rfl rfl (fun wq hS => R.s2ap (a := some ⟨b_1, 1, none⟩) (k := 16) rfl underlying152 (by decide)) ?_
  refine qT rfl rfl (fun wq hS => R.loadEA (b := b_1) (off := 1) (i := 0) (xs := ((key.drop 0).take 16).map vu8) rfl isAgg152 sizeOf152 (hS _ M3) (Sg.t rfl Sg.h) rfl (by rw [List.map_take, List.map_drop]) (len_map (subLen (K := 32) hk (by omega) : List.length ((key.drop 0).take 16) = 16))) ?_
  refine qT rfl rfl (fun wq hS => R.sliceA (b := b_22) (off := 0) (off' := 0) (l := 0) (h := 8) rfl EvB.dflt (EvB.it (l := 8) rfl rfl) (by decide) (by decide) underlying23 sizeOf5 rfl) ?_
  refine qT rfl rfl (fun wq hS => R.s2ap (a := some ⟨b_22, 0, none⟩) (k := 8) rfl underlying153 (by decide)) ?_
  refine qT rfl rfl (fun wq hS => R.loadEA (b := b_22) (off := 0) (i := 0) (xs := (((sumL (cT (4, key, dm, data))).drop 0).take 8).map vu8) rfl isAgg153 sizeOf153 (hS _ M0) Sg.h rfl (by rw [List.map_take, List.map_drop]) (len_map (subLen (K := 32) (sumL_len _) (by omega) : List.length (((sumL (cT (4, key, dm, data))).drop 0).take 8) = 8))) ?_
  refine qT rfl rfl (fun wq hS => R.load1 rfl isAgg3 (hS _ M2) Sg.h) ?_
  refine qT rfl rfl (fun wq hS => R.maxI (c := 128) rfl rfl (by decide)) ?_
  refine WT.s2 ?_ ?_
  ·refine oN rfl ?_
   refine WL.call Tryz.call99 rfl rfl (c_Stream_n ((key.drop 0).take 16) (((sumL (cT (4, key, dm, data))).drop 0).take 8) (subLen (K := 32) hk (by omega) : List.length ((key.drop 0).take 16) = 16) (subLen (K := 32) (sumL_len _) (by omega) : List.length (((sumL (cT (4, key, dm, data))).drop 0).take 8) = 8) 128 (by decide) _) rfl ?_
   rintro _ w_31 ⟨a_30, rfl, hc_32, ho_33⟩
   have h_34 := h_28.gotRow hc_32 ho_33
   refine WL.nil ?_
   refine ⟨(N1_2_3_4_5_6_7_8_9_10 h_34.ok), ?_⟩
   refine qT rfl rfl (fun wq hS => R.move (v := (.tuple [(.slice a_30 128 128), (vi 0)].toArray)) rfl) ?_
   refine qT rfl rfl (fun wq hS => R.extract rfl rfl) ?_
   refine qT rfl rfl (fun wq hS => R.extract rfl rfl) ?_
   refine WT.s (oN rfl ?_)
   refine WL.alloc (segs := [(1, [(.slice none 0 0)])]) h_34 (zv typeInfo88 rfl) rfl (sC sV sN) rfl (fun b_35 w_36 h_37 => ?_)
   refine WL.nil ?_
   refine ⟨(N2_3_4_5_6_7_8_9_10_11 h_37.ok), ?_⟩
   refine WT.s (oN rfl ?_)
   refine WL.store1 h_37 rfl rfl sizeOf88 rfl At.h (by decide) Sg.h (fun w_38 h_39 => ?_)
   refine WL.nil ?_
   refine ⟨(N2_3_4_5_6_7_8_9_10_11 h_39.ok), ?_⟩
   refine qT rfl rfl (fun wq hS => R.assign (v := (vi 0)) rfl) ?_
   refine WT.nil (thn_n ?_)
   exact ⟨(a_30, b_35), (Ag.upd rfl (U2 rfl rfl (U4 rfl rfl rfl rfl (U4 rfl rfl rfl rfl (U4 rfl rfl rfl rfl (Ag.refl _ _)))))), ⟨rfl, rfl, rfl, rfl, rfl, rfl, rfl, rfl, rfl, rfl, rfl, rfl, rfl, rfl, rfl, trivial⟩, h_39⟩
  ·refine oN rfl ?_
   refine WL.alloc (segs := [(1, [(.slice none 0 0)])]) h_28 (zv typeInfo88 rfl) rfl (sC sV sN) rfl (fun b_40 w_41 h_42 => ?_)
   refine WL.nil ?_
   refine ⟨(N1_2_3_4_5_6_7_8_9_10 h_42.ok), ?_⟩
   refine WT.s (oN rfl ?_)
   refine WL.call Tryz.call99 rfl rfl (c_Stream_n ((key.drop 0).take 16) (((sumL (cT (4, key, dm, data))).drop 0).take 8) (subLen (K := 32) hk (by omega) : List.length ((key.drop 0).take 16) = 16) (subLen (K := 32) (sumL_len _) (by omega) : List.length (((sumL (cT (4, key, dm, data))).drop 0).take 8) = 8) 128 (by decide) _) rfl ?_
   rintro _ w_44 ⟨a_43, rfl, hc_45, ho_46⟩
   have h_47 := h_42.gotRow hc_45 ho_46
   refine WL.nil ?_
   refine ⟨(N2_3_4_5_6_7_8_9_10_11 h_47.ok), ?_⟩
   refine qT rfl rfl (fun wq hS => R.move (v := (.tuple [(.slice a_43 128 128), (vi 0)].toArray)) rfl) ?_
   refine qT rfl rfl (fun wq hS => R.extract rfl rfl) ?_
   refine qT rfl rfl (fun wq hS => R.extract rfl rfl) ?_
   refine WT.s (oN rfl ?_)
   refine WL.store1 h_47 rfl rfl sizeOf88 rfl Y1 (by decide) Sg.h (fun w_48 h_49 => ?_)
   refine WL.nil ?_
   refine ⟨(N2_3_4_5_6_7_8_9_10_11 h_49.ok), ?_⟩
   refine qT rfl rfl (fun wq hS => R.assign (v := (vi 0)) rfl) ?_
   refine WT.nil (thn_n ?_)
   have h_61 := (((((((((((h_49.up J11).up J11).up J11).up J11).up J11).up J11).up J11).up J11).up J11).up J11).up J10).up J11
   exact ⟨(a_43, b_40), (Ag.upd rfl (U2 rfl rfl (U4 rfl rfl rfl rfl (U4 rfl rfl rfl rfl (U4 rfl rfl rfl rfl (Ag.refl _ _)))))), ⟨rfl, rfl, rfl, rfl, rfl, rfl, rfl, rfl, rfl, rfl, rfl, rfl, rfl, rfl, rfl, trivial⟩, h_61⟩
 ·rintro ⟨a_65, b_66⟩ J_62 w_63 h_64
  refine thn_n (WP.seq (WP.reg ?_))
  refine qM (pO ob 0) rfl rfl (qV rfl (R.loadA [] [(1, [(vi 4)]), (32, key.map vu8), (1, [(vi dm)]), (1, [(.slice qa qn qc)])] [] rfl isAgg90 sizeOf90 (h_64.ok _ M5) rfl rfl rfl rfl) (qV rfl (R.makeFuncL (fi := []) (ca := [(pO b_66 0), (pO b_4 0)]) rfl rfl) ?_))
  have h_75 := ((((((((h_64.up J1).up J4).up J2).up J11).up J11).up J11).up J11).up J11).up J11
  refine WL.call Tryz.call87 rfl rfl (c_ansS ob mp ms df hms da dn dc u hdf la lc lx lg hu hlg 4 dm key data qa qn qc ⟨hk, by show (1 : Int) ≤ 4 ∧ (4 : Int) ≤ 4; decide, hdm, hqd⟩ hdl (Go.Ax.strL ((key.drop 0).take 16) (((sumL (cT (4, key, dm, data))).drop 0).take 8) 128) (Go.Ax.strL_len (subLen (K := 32) (sumL_len _) (by omega) : List.length (((sumL (cT (4, key, dm, data))).drop 0).take 8) = 8) _) a_65 b_66 b_4 _ h_75) rfl ?_
  rintro _ w_81 ⟨la_76, lc_77, lx_78, d_79, rfl, hd_80, h_82⟩
  refine WL.nil (thn_n (WP.seq (WP.reg ?_)))
  refine qV rfl (R.load1 rfl isAgg88 (h_82.ok _ M6) Sg.h) (qV rfl (R.load1 rfl isAgg3 (h_82.ok _ M7) Sg.h) (qV rfl (R.load1 rfl isAgg3 (h_82.ok _ M7) Sg.h) (qV rfl (R.sliceR3 (h := 128) rfl EvB.dflt rfl rfl rfl rfl (Nat.le_trans (by decide) (h_82.own M8).2.2.1) underlying88 sizeOf5 (h_82.ok _ M8)) ?_)))
  have h_83 := HP.rowCap (k := 128) (ys := (Go.Ax.strL ((key.drop 0).take 16) (((sumL (cT (4, key, dm, data))).drop 0).take 8) 128).map vu8) h_82 Y8 (by decide) (by rw [Nat.mul_one, List.take_of_length_le (by rw [len_map (Go.Ax.strL_len (subLen (K := 32) (sumL_len _) (by omega) : List.length (((sumL (cT (4, key, dm, data))).drop 0).take 8) = 8) _)]; exact Nat.le_refl _)])
  refine qA (.slice a_65 128 128) rfl rfl (qA (vi 0) rfl rfl ?_)
  refine WL.nil (thn_n (WP.ret ?_))
  refine ret_of results68 (RV.tmp (v := (.slice a_65 128 128)) rfl (RV.tmp (v := (vi 0)) rfl RV.nil)) ?_
  have h_100 := ((((((((((((((((h_83.up J6).drop rfl).up J6).drop rfl).up J7).drop rfl).up J7).drop rfl).up J7).drop rfl).up J5).up J5).up J5).up J5).up J5).up J5).up J6
  simp only [List.drop_zero] at h_100
  exact ⟨a_65, _, _, _, rfl, h_100⟩

theorem c_gStream {w00 : World} {L : List Ent} (id : Bool) (ob mp : Nat) (ms df : List UInt8) (hms : ms.length = 32) (da : Option Addr) (dn dc u : Nat) (hdf : df.length = 32 * dn) (la : Option Addr) (lc : Nat) (lx : List Value) (lg : Lg) (hu : u ≤ 500000) (hlg : lg.length ≤ 500000) (dm : Int) (key data : List UInt8) (qa : Option Addr) (qn qc : Nat) (hk : key.length = 32) (hdm : 1 ≤ dm ∧ dm ≤ 16) (hdl : data.length = qn) (hqn : qn ≤ 100000) (w : World) (h_0 : HP w00 w (Ent.blk ob .nw 118 [(1, [(.bool id)]), (32, ms.map vu8), (1, [(.slice da dn dc)]), (1, [(vi ((u : Nat) : Int))]), (1, [(.map (some mp))]), (1, [(.slice la lg.length lc)])] :: Ent.row la lg.length lc 96 67 lx :: Ent.obj mp .nw (.map (mArr lg) lg.length) :: Ent.pin (sblks lx) (fun w => Lgs w lx lg) :: Ent.view da (df.map vu8) :: Ent.view qa (data.map vu8) :: L)) :
  Cs Tryz.prog 68 [(.pointer (some ⟨ob, 0, none⟩)), (.agg ⟨flat [(1, [(vi 4)]), (32, key.map vu8), (1, [(vi dm)]), (1, [(.slice qa qn qc)])]⟩), (vi 128)].toArray w (fun v w1 => ∃ a la' lc' lx', v = .tuple [.slice a 128 128, vi 0].toArray ∧ HP w00 w1 (Ent.row a 128 128 5 1 ((gSt id df dn key dm data u lg).2.2.map vu8) :: Ent.blk ob .nw 118 [(1, [(.bool id)]), (32, ms.map vu8), (1, [(.slice da dn dc)]), (1, [(vi (((gSt id df dn key dm data u lg).1 : Nat) : Int))]), (1, [(.map (some mp))]), (1, [(.slice la' ((gSt id df dn key dm data u lg).2.1.length) lc')])] :: Ent.row la' ((gSt id df dn key dm data u lg).2.1.length) lc' 96 67 lx' :: Ent.obj mp .nw (.map (mArr ((gSt id df dn key dm data u lg).2.1)) ((gSt id df dn key dm data u lg).2.1.length)) :: Ent.pin (sblks lx') (fun w => Lgs w lx' ((gSt id df dn key dm data u lg).2.1)) :: Ent.view da (df.map vu8) :: Ent.view qa (data.map vu8) :: L)) := by
 cases id with
 | false =>
  have hu2 : u ≤ 1000000 := by omega
  have hlg2 : lg.length ≤ 1000000 := by omega
  simp only [gSt_F]
  exact c_oStreamF ob mp ms df hms da dn dc u hdf la lc lx lg hu2 hlg2 dm key data qa qn qc hk hdm hdl hqn w h_0
 | true =>
  simp only [gSt_T]
  refine (c_oStream ob mp ms df hms da dn dc u hdf la lc lx lg hu hlg dm key data qa qn qc hk hdm hdl hqn 128 (by decide) w h_0).mono fun v w1 h => ?_
  obtain ⟨a, la', lc', lx', rfl, h⟩ := h
  simp only [show (128 + 31) / 32 = 4 from rfl] at h
  exact ⟨a, la', lc', lx', rfl, h⟩
end Go.Proofs.YteclkcpdclimnaaGreat

namespace Go.Proofs.YteclkcpdclimnaaGreat
open Go.Proofs.Tryz
open Go.Vc Go.Orc Go.Sh Go.RowKit
set_option maxRecDepth 20000

theorem c_rAnsS {w00 : World} {L : List Ent} (ob : Nat) (ms df : List UInt8) (hms : ms.length = 32) (da : Option Addr) (dn dc u : Nat) (hdf : df.length = 32 * dn) (la : Option Addr) (lc : Nat) (lx : List Value) (lg : Lg) (hu : u ≤ 1000000) (hlg : lg.length ≤ 1000000) (kd dm : Int) (key data : List UInt8) (qa : Option Addr) (qn qc : Nat) (hq : okQ (kd, key, dm, data)) (hdl : data.length = qn) (cd : List UInt8) (hcdl : cd.length = 32) (w : World) (h_0 : HP w00 w (Ent.blk ob .nw 47 [(1, [(.bool false)]), (32, ms.map vu8), (1, [(.slice da dn dc)]), (1, [(vi ((u : Nat) : Int))]), (1, [(.slice la lg.length lc)])] :: Ent.row la lg.length lc 96 67 lx :: Ent.pin (sblks lx) (fun w => Lgs w lx lg) :: Ent.view da (df.map vu8) :: Ent.view qa (data.map vu8) :: L)) :
  Cs Tryz.prog 102 [(.pointer (some ⟨ob, 0, none⟩)), (.agg ⟨flat [(1, [(vi kd)]), (32, key.map vu8), (1, [(vi dm)]), (1, [(.slice qa qn qc)])]⟩), (.agg ⟨cd.map vu8⟩)].toArray w (fun v w1 => ∃ la' lc' lx', ∃ d : List UInt8, v = (.agg ⟨d.map vu8⟩) ∧ d.length = 32 ∧ HP w00 w1 (Ent.blk ob .nw 47 [(1, [(.bool false)]), (32, ms.map vu8), (1, [(.slice da dn dc)]), (1, [(vi ((u : Nat) : Int))]), (1, [(.slice la' ((sL (kd, key, dm, data) cd lg).length) lc')])] :: Ent.row la' ((sL (kd, key, dm, data) cd lg).length) lc' 96 67 lx' :: Ent.pin (sblks lx') (fun w => Lgs w lx' (sL (kd, key, dm, data) cd lg)) :: Ent.view da (df.map vu8) :: Ent.view qa (data.map vu8) :: L)) := by
 have hlgs : Lgs w lx lg := (h_0.ok _ M2).1
 have hlo := hlgs.ok
 have hqn : data.length ≤ 1000000000 := hq.2.2.2
 refine Cs.of (n := 71) (args := [(pO ob 0), (.agg ⟨flat [(1, [(vi kd)]), (32, key.map vu8), (1, [(vi dm)]), (1, [(.slice qa qn qc)])]⟩), (.agg ⟨cd.map vu8⟩)]) Tryz.func102 rfl rfl rfl ?_
 refine WP.seq (WP.reg ?_)
 refine WL.box (segs := [(1, [(vi kd)]), (32, key.map vu8), (1, [(vi dm)]), (1, [(.slice qa qn qc)])]) h_0 rfl rfl (sC sV (sC (s8 hq.1) (sC sV (sC sV sN)))) rfl (fun b_1 w_2 h_3 => ?_)
 refine WL.box (segs := [(32, cd.map vu8)]) h_3 rfl rfl (sC (s8 hcdl) sN) rfl (fun b_4 w_5 h_6 => ?_)
 refine WL.alloc (segs := [(32, (zB 32).map vu8)]) h_6 (zv typeInfo23 rfl) rfl (sC (s8 lr) sN) rfl (fun b_7 w_8 h_9 => ?_)
 refine WL.nil (thn_n (WP.seq (WP.seq (WP.reg ?_))))
 refine qA (vi 0) rfl rfl ?_
 refine WL.nil (thn_n (WP.block ?_))
 refine WP.loopG (G := Nat) [7, 9, 10, 11, 12, 13, 14, 15, 16, 17, 18, 19, 20, 21, 22, 23, 24, 25, 26, 27, 28, 29, 30, 31, 32, 33, 34, 35] (fun k => [(7, (vn k))]) (fun k m w1 => HP w00 w1 (Ent.blk b_7 .nw 23 [(32, (zB 32).map vu8)] :: Ent.blk b_4 .nw 23 [(32, cd.map vu8)] :: Ent.blk b_1 .nw 90 [(1, [(vi kd)]), (32, key.map vu8), (1, [(vi dm)]), (1, [(.slice qa qn qc)])] :: Ent.blk ob .nw 47 [(1, [(.bool false)]), (32, ms.map vu8), (1, [(.slice da dn dc)]), (1, [(vn u)]), (1, [(.slice la lg.length lc)])] :: Ent.row la lg.length lc 96 67 lx :: Ent.pin (sblks lx) (fun w => Lgs w lx lg) :: Ent.view da (df.map vu8) :: Ent.view qa (data.map vu8) :: L) ∧ (k ≤ lg.length) ∧ (∀ j, j < k → (lg.getD j ((kd, key, dm, data), [])).1 ≠ (kd, key, dm, data)) ∧ m = lg.length + 1 - k) ⟨0, _, ⟨rfl, trivial⟩, h_9, Nat.zero_le _, (fun j hj => by omega), rfl⟩ ?_
 rintro k m_12 J_13 w_10 ⟨h_11, hk, hno, rfl⟩
 refine WP.seq (WP.seq (WP.reg ?_))
 refine qM (vn k) rfl rfl (qM (pO ob 0) rfl rfl (qV rfl (R.nilCheck rfl) (qV rfl (R.fieldAddr (off' := 35) rfl underlying47 rfl sizeOf44 rfl rfl) (qV rfl (R.load1 rfl isAgg44 (h_11.ok _ M3) (Sg.t rfl (Sg.t rfl (Sg.t rfl (Sg.t rfl Sg.h))))) (qV rfl (R.lenS (a := la) (m := lg.length) rfl rfl underlying44) (qV rfl (R.bin rfl rfl (bi_lss (r := decide ((((k : Nat) : Int) : Int) < ((lg.length : Nat) : Int))) rfl)) ?_))))))
 refine WL.nil (thn_n ?_)
 refine WP.cond (b := decide ((((k : Nat) : Int) : Int) < ((lg.length : Nat) : Int))) rfl (fun c_14 => ?_) (fun c_14 => ?_)
 ·have p_15 := of_decide_eq_true c_14
  refine WP.skip (thn_n (WP.seq (WP.block (WP.seq ?_))))
  have hkl : k < lg.length := by omega
  obtain ⟨ka, kn, kc, hkx, hkq, hkn, hkc, hkv, hkb⟩ := Lgs.qget (z := ((kd, key, dm, data), [])) (h_11.ok _ M5).1 hkl
  have h_16 := h_11.within (e' := .view ka ((lg.getD k ((kd, key, dm, data), [])).1.2.2.2.map vu8)) M5 rfl (View.arg hkv) rfl rfl (fun b hb_ => hkb _ (view_sblk hkn b hb_))
  refine WP.drawT (SL w00.heap.size [.view ka ((lg.getD k ((kd, key, dm, data), [])).1.2.2.2.map vu8), .blk b_7 .nw 23 [(32, (zB 32).map vu8)], .blk b_4 .nw 23 [(32, cd.map vu8)], .blk b_1 .nw 90 [(1, [(vi kd)]), (32, key.map vu8), (1, [(vi dm)]), (1, [(.slice qa qn qc)])], .blk ob .nw 47 [(1, [(.bool false)]), (32, ms.map vu8), (1, [(.slice da dn dc)]), (1, [(vn u)]), (1, [(.slice la lg.length lc)])], .row la lg.length lc 96 67 lx, .pin (sblks lx) (fun w => Lgs w lx lg), .view da (df.map vu8), .view qa (data.map vu8)]) (.q 0 (.q 1 (.q 2 (.q 3 (.q 4 (.q 5 (.q 6 (.q 7 (.q 8 (.s 9 .nil)))))))))) (by kernel_rfl) (by kernel_rfl) rfl (by kernel_rfl) (fun w_17 hc_19 => (SL.cons ((h_16.same hc_19).ok _ M0) (SL.cons ((h_16.same hc_19).ok _ M1) (SL.cons ((h_16.same hc_19).ok _ M2) (SL.cons ((h_16.same hc_19).ok _ M3) (SL.cons ((h_16.same hc_19).ok _ M4) (SL.cons ((h_16.same hc_19).ok _ M5) (SL.cons ((h_16.same hc_19).ok _ M6) (SL.cons ((h_16.same hc_19).ok _ M7) (SL.cons ((h_16.same hc_19).ok _ M8) (SL.nil _ _))))))))))) (fun w_17 hc_19 => ?_)
  have h_18 := h_16.same hc_19
  refine qT rfl rfl (fun wq hS => R.move (v := (pO ob 0)) rfl) ?_
  refine qT rfl rfl (fun wq hS => R.nilCheck rfl) ?_
  refine qT rfl rfl (fun wq hS => R.fieldAddr (off' := 35) rfl underlying47 rfl sizeOf44 rfl rfl) ?_
  refine qT rfl rfl (fun wq hS => R.load1 rfl isAgg44 (hS _ M4) (Sg.t rfl (Sg.t rfl (Sg.t rfl (Sg.t rfl Sg.h))))) ?_
  refine qT rfl rfl (fun wq hS => R.move (v := (vn k)) rfl) ?_
  refine qT rfl rfl (fun wq hS => R.indexS (a := la) (i := k) (off := k * 67) (xs := lx) rfl rfl rfl (by omega) (ownView (hS _ M5)) (by rw [Lgs.len hlgs]; omega) underlying44 sizeOf96 rfl) ?_
  refine qT rfl rfl (fun wq hS => R.fieldG (a := la) (i := k * 67) (off' := k * 67) rfl underlying96 rfl sizeOf90 rfl rfl) ?_
  refine qT rfl rfl (fun wq hS => R.loadGA (a := la) (i := k * 67) (xs := lx) (cs := flat [(1, [(vi (((lg.getD k ((kd, key, dm, data), [])).1).1))]), (32, (((lg.getD k ((kd, key, dm, data), [])).1).2.1).map vu8), (1, [(vi (((lg.getD k ((kd, key, dm, data), [])).1).2.2.1))]), (1, [(.slice ka kn kc)])]) rfl (ownView (hS _ M5)) isAgg90 sizeOf90 hkx ((sC sV (sC (s8 hkq.1) (sC sV (sC sV sN))))).len (by decide)) ?_
  refine qT rfl rfl (fun wq hS => R.loadA [] [(1, [(vi kd)]), (32, key.map vu8), (1, [(vi dm)]), (1, [(.slice qa qn qc)])] [] rfl isAgg90 sizeOf90 (hS _ M3) rfl rfl rfl rfl) ?_
  refine WT.s (oN rfl ?_)
  refine WL.call Tryz.call53 rfl rfl (c_rSame ((lg.getD k ((kd, key, dm, data), [])).1) (kd, key, dm, data) hkq.1 hq.1 ka kn kc hkn qa qn qc hdl _ (viewV (h_18.ok _ M0)) (viewV (h_18.ok _ M8))) rfl ?_
  rintro _ w_21 ⟨rfl, hc_20⟩
  have h_22 := h_18.same hc_20
  refine WL.nil ?_
  refine ⟨(N0_1_2_3_4_5_6_7_8 h_22.ok), ?_⟩
  refine WT.nil (thn_n ?_)
  refine WP.cond (b := decide ((lg.getD k ((kd, key, dm, data), [])).1 = (kd, key, dm, data))) rfl (fun c_23 => ?_) (fun c_23 => ?_)
  ·have p_24 := of_decide_eq_true c_23
   refine WP.seq ?_
   have hfd : fdq (kd, key, dm, data) lg 0 = some k := (fdq_at (s := 0) hkl hno p_24).trans (by rw [Nat.zero_add])
   refine WP.reg ?_
   refine qM (pO ob 0) rfl rfl (qV rfl (R.nilCheck rfl) (qV rfl (R.fieldAddr (off' := 35) rfl underlying47 rfl sizeOf44 rfl rfl) (qV rfl (R.load1 rfl isAgg44 (h_22.ok _ M4) (Sg.t rfl (Sg.t rfl (Sg.t rfl (Sg.t rfl Sg.h))))) (qM (vn k) rfl rfl (qV rfl (R.indexS (a := la) (i := k) (off := k * 67) (xs := lx) rfl rfl rfl (by omega) (ownView (h_22.ok _ M5)) (by rw [Lgs.len hlgs]; omega) underlying44 sizeOf96 rfl) (qV rfl (R.fieldG (a := la) (i := k * 67) (off' := k * 67 + 35) rfl underlying96 rfl sizeOf23 rfl rfl) (qV rfl (R.loadGA (a := la) (i := k * 67 + 35) (xs := lx) (cs := ((lg.getD k ((kd, key, dm, data), [])).2).map vu8) rfl (ownView (h_22.ok _ M5)) isAgg23 sizeOf23 (Lgs.ans (z := ((kd, key, dm, data), [])) hlgs (i := k) hkl).1 (len_map (Lgs.ans (z := ((kd, key, dm, data), [])) hlgs (i := k) hkl).2) (by decide)) ?_)))))))
   refine WL.storeA [] [(32, (zB 32).map vu8)] [(32, ((lg.getD k ((kd, key, dm, data), [])).2).map vu8)] [] h_22 rfl rfl sizeOf23 Y1 (by decide) rfl rfl rfl rfl rfl rfl (sC (s8 ((Lgs.ans (z := ((kd, key, dm, data), [])) hlgs (i := k) hkl).2)) sN) (fun w_25 h_26 => ?_)
   refine WL.nil (thn_n (WP.ret (inb_r (thn_r (thn_r (inb_r (thn_r ?_)))))))
   refine ret_of results102 (RV.cell rfl (h_26.loadA (cs := ((lg.getD k ((kd, key, dm, data), [])).2).map vu8) isAgg23 sizeOf23 M1 rfl rfl) RV.nil) ?_
   have h_35 := ((((((((h_26.drop rfl).drop rfl).drop rfl).drop rfl).up J4).up J4).up J4).up J4).up J4
   exact ⟨la, lc, lx, _, rfl, (Lgs.ans (z := ((kd, key, dm, data), [])) hlgs (i := k) hkl).2, by rw [sL_hit hfd]; exact h_35⟩
  ·have p_36 := of_decide_eq_false c_23
   refine WP.skip (inb_n (thn_n (WP.reg ?_)))
   refine qM (vn k) rfl rfl (qV rfl (R.bin rfl rfl (bi_add (c := ((k + 1 : Nat) : Int)) (by omega) (by omega))) (qA (vn (k + 1)) rfl rfl ?_))
   refine WL.nil (thn_n ?_)
   have h_45 := ((((((((h_22.drop rfl).up J7).up J7).up J7).up J7).up J7).up J7).up J7).up J7
   exact ⟨k + 1, _, (by omega), (U4 rfl rfl rfl rfl (U4 rfl rfl rfl rfl (U4 rfl rfl rfl rfl (U4 rfl rfl rfl rfl (U4 rfl rfl rfl rfl (Ag.updL rfl (Ag.mix _ _ _))))))), ⟨rfl, trivial⟩, h_45, (by omega), (fun j hj => (Nat.lt_or_eq_of_le (Nat.le_of_lt_succ hj)).elim (fun e => hno j e) (fun e => by rw [e]; exact p_36)), rfl⟩
 ·have p_46 := of_decide_eq_false c_14
  refine WP.exit (thn_x (thn_x (inb_hit (thn_n (WP.seq ?_)))))
  have hfd : fdq (kd, key, dm, data) lg 0 = none := fdq_no (z := ((kd, key, dm, data), [])) (fun j hj => hno j (by omega))
  refine WP.reg ?_
  refine qV rfl (R.loadA [] [(32, cd.map vu8)] [] (cs := cd.map vu8) rfl isAgg23 sizeOf23 (h_11.ok _ M1) rfl rfl rfl rfl) ?_
  refine WL.alloc (segs := [(32, (zB 32).map vu8)]) h_11 (zv typeInfo23 rfl) rfl (sC (s8 lr) sN) rfl (fun b_47 w_48 h_49 => ?_)
  refine WL.storeA [] [(32, (zB 32).map vu8)] [(32, cd.map vu8)] [] h_49 rfl rfl sizeOf23 At.h (by decide) rfl rfl rfl rfl rfl rfl (sC (s8 hcdl) sN) (fun w_50 h_51 => ?_)
  refine WL.nil (thn_n (WP.seq (WP.seq (WP.reg ?_))))
  refine qM (pO ob 0) rfl rfl (qV rfl (R.nilCheck rfl) (qV rfl (R.fieldAddr (off' := 0) rfl underlying47 rfl sizeOf4 rfl rfl) (qV rfl (R.load1 rfl isAgg4 (h_51.ok _ M4) Sg.h) ?_)))
  refine WL.nil (thn_n ?_)
  refine WP.condF rfl ?_
  refine WP.skip (thn_n (WP.seq (WP.reg ?_)))
  refine qV rfl (R.fieldAddr (off' := 34) rfl underlying90 rfl sizeOf88 rfl rfl) (qV rfl (R.load1 rfl isAgg88 (h_51.ok _ M3) (Sg.t rfl (Sg.t rfl (Sg.t rfl Sg.h)))) ?_)
  have h_52 := h_51.rowNil 5 1
  refine WL.append (km := qn) (xs := []) (ys := data.map vu8) (zs := (([] : List UInt8) ++ data).map vu8) h_52 rfl rfl el88 (viewV (h_52.ok _ M9)) ((len_map hdl).trans (Nat.mul_one _).symm) (one_u8 _) (by simp only [List.map_append, List.map_nil]) (by omega) (by omega) (by omega) (fun _ _ => At.h) rfl (fun a_53 c_54 w_55 h_56 => ?_)
  refine qV rfl (R.fieldAddr (off' := 34) rfl underlying90 rfl sizeOf88 rfl rfl) ?_
  refine WL.store1 h_56 rfl rfl sizeOf88 rfl Y4 (by decide) (Sg.t rfl (Sg.t rfl (Sg.t rfl Sg.h))) (fun w_57 h_58 => ?_)
  refine WL.nil (thn_n (WP.seq ?_))
  refine WP.cutG (G := Nat × Option Addr × Nat) [58, 59, 60, 61, 62, 63, 64, 65, 66, 67, 68, 69] (fun (bY11Y8Y0Y0, aY11Y9Y0Y0, cY11Y9Y0Y0) => [(58, (pO ob 0)), (59, (pO ob 0)), (60, (pO ob 0)), (61, (pO ob 35)), (63, (.agg ⟨flat [(1, [(vi kd)]), (32, key.map vu8), (1, [(vi dm)]), (1, [(.slice a_53 qn c_54)])]⟩)), (64, (.agg ⟨cd.map vu8⟩)), (65, (.agg ⟨flat [(1, [(vi kd)]), (32, key.map vu8), (1, [(vi dm)]), (1, [(.slice a_53 qn c_54)]), (32, cd.map vu8)]⟩)), (62, (.slice la lg.length lc)), (66, (.slice (some ⟨bY11Y8Y0Y0, 0, none⟩) 1 1)), (67, (.slice aY11Y9Y0Y0 (lg.length + 1) cY11Y9Y0Y0)), (68, (pO ob 0)), (69, (pO ob 35))]) (fun (bY11Y8Y0Y0, aY11Y9Y0Y0, cY11Y9Y0Y0) w1 => HP w00 w1 (Ent.blk bY11Y8Y0Y0 .nw 96 [(67, aC (kd, key, dm, data) (.slice a_53 qn c_54) cd)] :: Ent.row a_53 qn c_54 5 1 ((([] : List UInt8) ++ data).map vu8) :: Ent.blk b_47 .nw 23 [(32, cd.map vu8)] :: Ent.blk b_7 .nw 23 [(32, (zB 32).map vu8)] :: Ent.blk b_4 .nw 23 [(32, cd.map vu8)] :: Ent.blk b_1 .nw 90 [(1, [(vi kd)]), (32, key.map vu8), (1, [(vi dm)]), (1, [(.slice a_53 qn c_54)])] :: Ent.blk ob .nw 47 [(1, [(.bool false)]), (32, ms.map vu8), (1, [(.slice da dn dc)]), (1, [(vn u)]), (1, [(.slice aY11Y9Y0Y0 (lg.length + 1) cY11Y9Y0Y0)])] :: Ent.row aY11Y9Y0Y0 (lg.length + 1) cY11Y9Y0Y0 96 67 (lx ++ aC (kd, key, dm, data) (.slice a_53 qn c_54) cd) :: Ent.pin (sblks lx) (fun w => Lgs w lx lg) :: Ent.view da (df.map vu8) :: Ent.view qa (data.map vu8) :: L)) ?_ ?_
  ·refine WP.drawT (SL w00.heap.size [.row a_53 qn c_54 5 1 ((([] : List UInt8) ++ data).map vu8), .blk b_47 .nw 23 [(32, cd.map vu8)], .blk b_7 .nw 23 [(32, (zB 32).map vu8)], .blk b_4 .nw 23 [(32, cd.map vu8)], .blk b_1 .nw 90 [(1, [(vi kd)]), (32, key.map vu8), (1, [(vi dm)]), (1, [(.slice a_53 qn c_54)])], .pin (sblks lx) (fun w => Lgs w lx lg), .view da (df.map vu8), .view qa (data.map vu8)]) (.q 0 (.q 1 (.q 2 (.q 3 (.q 5 (.q 6 (.q 7 (.s2 4 8 (.s 8 (.s 9 (.q 10 (.q 11 (.s 12 .nil))))) (.s 4 (.s 9 (.q 10 (.q 11 (.s 12 .nil))))))))))))) (by kernel_rfl) (by kernel_rfl) rfl (by kernel_rfl) (fun w_59 hc_61 => (SL.cons ((h_58.same hc_61).ok _ M0) (SL.cons ((h_58.same hc_61).ok _ M1) (SL.cons ((h_58.same hc_61).ok _ M2) (SL.cons ((h_58.same hc_61).ok _ M3) (SL.cons ((h_58.same hc_61).ok _ M4) (SL.cons ((h_58.same hc_61).ok _ M7) (SL.cons ((h_58.same hc_61).ok _ M8) (SL.cons ((h_58.same hc_61).ok _ M9) (SL.nil _ _)))))))))) (fun w_59 hc_61 => ?_)
   have h_60 := h_58.same hc_61
   refine qT rfl rfl (fun wq hS => R.move (v := (pO ob 0)) rfl) ?_
   refine qT rfl rfl (fun wq hS => R.move (v := (pO ob 0)) rfl) ?_
   refine qT rfl rfl (fun wq hS => R.nilCheck rfl) ?_
   refine qT rfl rfl (fun wq hS => R.fieldAddr (off' := 35) rfl underlying47 rfl sizeOf44 rfl rfl) ?_
   refine qT rfl rfl (fun wq hS => R.loadA [] [(1, [(vi kd)]), (32, key.map vu8), (1, [(vi dm)]), (1, [(.slice a_53 qn c_54)])] [] rfl isAgg90 sizeOf90 (hS _ M4) rfl rfl rfl rfl) ?_
   refine qT rfl rfl (fun wq hS => R.loadA [] [(32, cd.map vu8)] [] (cs := cd.map vu8) rfl isAgg23 sizeOf23 (hS _ M1) rfl rfl rfl rfl) ?_
   refine qT rfl rfl (fun wq hS => R.buildS (pl := [(0, 35), (35, 32)]) (zs := [(1, [(vi 0)]), (32, (zB 32).map vu8), (1, [(vi 0)]), (1, [(.slice none 0 0)]), (32, (zB 32).map vu8)]) (vs := [(0, (.agg ⟨flat [(1, [(vi kd)]), (32, key.map vu8), (1, [(vi dm)]), (1, [(.slice a_53 qn c_54)])]⟩)), (1, (.agg ⟨cd.map vu8⟩))]) (out := [(1, [(vi kd)]), (32, key.map vu8), (1, [(vi dm)]), (1, [(.slice a_53 qn c_54)]), (32, cd.map vu8)]) underlying96 (zv typeInfo96 rfl) rfl (sC sV (sC (s8 lr) (sC sV (sC sV (sC (s8 lr) sN))))) (pl96 _ underlying96) rfl (FillR.cons [] [(1, [(vi 0)]), (32, (zB 32).map vu8), (1, [(vi 0)]), (1, [(.slice none 0 0)])] [(1, [(vi kd)]), (32, key.map vu8), (1, [(vi dm)]), (1, [(.slice a_53 qn c_54)])] [(32, (zB 32).map vu8)] rfl rfl rfl rfl (sC sV (sC (s8 hq.1) (sC sV (sC sV sN)))) rfl rfl rfl (FillR.cons [(1, [(vi kd)]), (32, key.map vu8), (1, [(vi dm)]), (1, [(.slice a_53 qn c_54)])] [(32, (zB 32).map vu8)] [(32, cd.map vu8)] [] rfl rfl rfl rfl (sC (s8 hcdl) sN) rfl rfl rfl FillR.nil)) rfl) ?_
   refine WT.s2 ?_ ?_
   ·refine oN rfl ?_
    refine qV rfl (R.load1 rfl isAgg44 (h_60.ok _ M5) (Sg.t rfl (Sg.t rfl (Sg.t rfl (Sg.t rfl Sg.h))))) ?_
    refine WL.nil ?_
    refine ⟨(N0_1_2_3_4_7_8_9 h_60.ok), ?_⟩
    refine WT.s (oN rfl ?_)
    refine WL.buildSl (vs := [(0, (.agg ⟨flat [(1, [(vi kd)]), (32, key.map vu8), (1, [(vi dm)]), (1, [(.slice a_53 qn c_54)]), (32, cd.map vu8)]⟩))]) (cs := aC (kd, key, dm, data) (.slice a_53 qn c_54) cd) h_60 underlying44 sizeOf96 (zv typeInfo96 rfl) rfl rfl (fill_1 (zc := flat [(1, [vi 0]), (32, List.replicate 32 (vu8 0)), (1, [vi 0]), (1, [.slice none 0 0]), (32, List.replicate 32 (vu8 0))]) (by kernel_rfl) (sC (s := (67, flat [(1, [vi 0]), (32, List.replicate 32 (vu8 0)), (1, [vi 0]), (1, [.slice none 0 0]), (32, List.replicate 32 (vu8 0))])) ⟨by decide, SsOk.one (sC sV (sC (SOk.rep rfl) (sC sV (sC sV (sC (SOk.rep rfl) sN)))))⟩ sN) (aC_ok (q := (kd, key, dm, data)) (s := (.slice a_53 qn c_54)) (d := cd) hq.1 hcdl rfl)) ((aC_ok (q := (kd, key, dm, data)) (s := (.slice a_53 qn c_54)) (d := cd) hq.1 hcdl rfl)).head.len ((aC_ok (q := (kd, key, dm, data)) (s := (.slice a_53 qn c_54)) (d := cd) hq.1 hcdl rfl)).head.one rfl rfl (fun b_63 w_64 h_65 => ?_)
    refine WL.nil ?_
    refine ⟨(N1_2_3_4_5_8_9_10 h_65.ok), ?_⟩
    refine WT.s (oN rfl ?_)
    refine WL.append (km := lg.length + 1) (xs := lx) (ys := aC (kd, key, dm, data) (.slice a_53 qn c_54) cd) (zs := lx ++ aC (kd, key, dm, data) (.slice a_53 qn c_54) cd) h_65 rfl rfl el44 (viewB (h_65.ok _ M0) Sg.h) ((aC_ok (q := (kd, key, dm, data)) (s := (.slice a_53 qn c_54)) (d := cd) hq.1 hcdl rfl)).head.len ((aC_ok (q := (kd, key, dm, data)) (s := (.slice a_53 qn c_54)) (d := cd) hq.1 hcdl rfl)).head.one rfl (by omega) (by omega) (by omega) (fun _ _ => Y7) rfl (fun a_66 c_67 w_68 h_69 => ?_)
    refine WL.nil ?_
    refine ⟨(N1_2_3_4_5_8_9_10 h_69.ok), ?_⟩
    refine qT rfl rfl (fun wq hS => R.nilCheck rfl) ?_
    refine qT rfl rfl (fun wq hS => R.fieldAddr (off' := 35) rfl underlying47 rfl sizeOf44 rfl rfl) ?_
    refine WT.s (oN rfl ?_)
    refine WL.store1 h_69 rfl rfl sizeOf44 rfl Y6 (by decide) (Sg.t rfl (Sg.t rfl (Sg.t rfl (Sg.t rfl Sg.h)))) (fun w_70 h_71 => ?_)
    refine WL.nil ?_
    refine ⟨(N1_2_3_4_5_8_9_10 h_71.ok), ?_⟩
    refine WT.nil (thn_n ?_)
    exact ⟨(b_63, a_66, c_67), (U4 rfl rfl rfl rfl (U4 rfl rfl rfl rfl (U4 rfl rfl rfl rfl (Ag.refl _ _)))), ⟨rfl, rfl, rfl, rfl, rfl, rfl, rfl, rfl, rfl, rfl, rfl, rfl, trivial⟩, h_71⟩
   ·refine oN rfl ?_
    refine WL.buildSl (vs := [(0, (.agg ⟨flat [(1, [(vi kd)]), (32, key.map vu8), (1, [(vi dm)]), (1, [(.slice a_53 qn c_54)]), (32, cd.map vu8)]⟩))]) (cs := aC (kd, key, dm, data) (.slice a_53 qn c_54) cd) h_60 underlying44 sizeOf96 (zv typeInfo96 rfl) rfl rfl (fill_1 (zc := flat [(1, [vi 0]), (32, List.replicate 32 (vu8 0)), (1, [vi 0]), (1, [.slice none 0 0]), (32, List.replicate 32 (vu8 0))]) (by kernel_rfl) (sC (s := (67, flat [(1, [vi 0]), (32, List.replicate 32 (vu8 0)), (1, [vi 0]), (1, [.slice none 0 0]), (32, List.replicate 32 (vu8 0))])) ⟨by decide, SsOk.one (sC sV (sC (SOk.rep rfl) (sC sV (sC sV (sC (SOk.rep rfl) sN)))))⟩ sN) (aC_ok (q := (kd, key, dm, data)) (s := (.slice a_53 qn c_54)) (d := cd) hq.1 hcdl rfl)) ((aC_ok (q := (kd, key, dm, data)) (s := (.slice a_53 qn c_54)) (d := cd) hq.1 hcdl rfl)).head.len ((aC_ok (q := (kd, key, dm, data)) (s := (.slice a_53 qn c_54)) (d := cd) hq.1 hcdl rfl)).head.one rfl rfl (fun b_72 w_73 h_74 => ?_)
    refine WL.nil ?_
    refine ⟨(N1_2_3_4_5_8_9_10 h_74.ok), ?_⟩
    refine WT.s (oN rfl ?_)
    refine qV rfl (R.load1 rfl isAgg44 (h_74.ok _ M6) (Sg.t rfl (Sg.t rfl (Sg.t rfl (Sg.t rfl Sg.h))))) ?_
    refine WL.nil ?_
    refine ⟨(N1_2_3_4_5_8_9_10 h_74.ok), ?_⟩
    refine WT.s (oN rfl ?_)
    refine WL.append (km := lg.length + 1) (xs := lx) (ys := aC (kd, key, dm, data) (.slice a_53 qn c_54) cd) (zs := lx ++ aC (kd, key, dm, data) (.slice a_53 qn c_54) cd) h_74 rfl rfl el44 (viewB (h_74.ok _ M0) Sg.h) ((aC_ok (q := (kd, key, dm, data)) (s := (.slice a_53 qn c_54)) (d := cd) hq.1 hcdl rfl)).head.len ((aC_ok (q := (kd, key, dm, data)) (s := (.slice a_53 qn c_54)) (d := cd) hq.1 hcdl rfl)).head.one rfl (by omega) (by omega) (by omega) (fun _ _ => Y7) rfl (fun a_75 c_76 w_77 h_78 => ?_)
    refine WL.nil ?_
    refine ⟨(N1_2_3_4_5_8_9_10 h_78.ok), ?_⟩
    refine qT rfl rfl (fun wq hS => R.nilCheck rfl) ?_
    refine qT rfl rfl (fun wq hS => R.fieldAddr (off' := 35) rfl underlying47 rfl sizeOf44 rfl rfl) ?_
    refine WT.s (oN rfl ?_)
    refine WL.store1 h_78 rfl rfl sizeOf44 rfl Y6 (by decide) (Sg.t rfl (Sg.t rfl (Sg.t rfl (Sg.t rfl Sg.h)))) (fun w_79 h_80 => ?_)
    refine WL.nil ?_
    refine ⟨(N1_2_3_4_5_8_9_10 h_80.ok), ?_⟩
    refine WT.nil (thn_n ?_)
    exact ⟨(b_72, a_75, c_76), (U4 rfl rfl rfl rfl (U4 rfl rfl rfl rfl (U4 rfl rfl rfl rfl (Ag.refl _ _)))), ⟨rfl, rfl, rfl, rfl, rfl, rfl, rfl, rfl, rfl, rfl, rfl, rfl, trivial⟩, h_80⟩
  ·rintro ⟨b_84, a_85, c_86⟩ J_81 w_82 h_83
   refine thn_n (WP.seq (WP.reg ?_))
   refine qV rfl (R.loadA [] [(32, cd.map vu8)] [] (cs := cd.map vu8) rfl isAgg23 sizeOf23 (h_83.ok _ M2) rfl rfl rfl rfl) ?_
   refine WL.storeA [] [(32, (zB 32).map vu8)] [(32, cd.map vu8)] [] h_83 rfl rfl sizeOf23 Y3 (by decide) rfl rfl rfl rfl rfl rfl (sC (s8 hcdl) sN) (fun w_87 h_88 => ?_)
   refine WL.nil (thn_n (WP.ret ?_))
   refine ret_of results102 (RV.cell rfl (h_88.loadA (cs := cd.map vu8) isAgg23 sizeOf23 M3 rfl rfl) RV.nil) ?_
   have h_103 := ((((((((((((((h_88.drop rfl).up J1).drop rfl).up J1).drop rfl).up J1).drop rfl).up J1).drop rfl).up J5).up J5).up J4).up J4).up J5).up J5
   have h_104 := HP_logPush (q := (kd, key, dm, data)) (d := cd) h_103 hq hcdl (lenApp (a := 0) (b := qn) (rfl : List.length ([] : List UInt8) = 0) hdl (by omega) : List.length (([] : List UInt8) ++ data) = qn)
   have h_114 := ((((((((h_104.up J1).drop rfl).up J1).drop rfl).up J4).up J4).up J2).up J4).up J4
   have hse : lg.length + 1 = (lg ++ [((kd, key, dm, data), cd)]).length := snoc_len.symm
   have h_105 := h_114
   rw [hse] at h_105
   exact ⟨_, _, _, cd, rfl, hcdl, by rw [sL_miss hfd]; exact h_105⟩
theorem c_rStreamT {w00 : World} {L : List Ent} (ob : Nat) (ms df : List UInt8) (hms : ms.length = 32) (da : Option Addr) (dn dc u : Nat) (hdf : df.length = 32 * dn) (la : Option Addr) (lc : Nat) (lx : List Value) (lg : Lg) (hu : u ≤ 500000) (hlg : lg.length ≤ 500000) (dm : Int) (key data : List UInt8) (qa : Option Addr) (qn qc : Nat) (hk : key.length = 32) (hdm : 1 ≤ dm ∧ dm ≤ 16) (hdl : data.length = qn) (hqn : qn ≤ 100000) (w : World) (h_0 : HP w00 w (Ent.blk ob .nw 47 [(1, [(.bool true)]), (32, ms.map vu8), (1, [(.slice da dn dc)]), (1, [(vi ((u : Nat) : Int))]), (1, [(.slice la lg.length lc)])] :: Ent.row la lg.length lc 96 67 lx :: Ent.pin (sblks lx) (fun w => Lgs w lx lg) :: Ent.view da (df.map vu8) :: Ent.view qa (data.map vu8) :: L)) :
  Cs Tryz.prog 69 [(.pointer (some ⟨ob, 0, none⟩)), (.agg ⟨flat [(1, [(vi 4)]), (32, key.map vu8), (1, [(vi dm)]), (1, [(.slice qa qn qc)])]⟩), (vi 128)].toArray w (fun v w1 => ∃ a c la' lc' lx', v = .slice a 128 c ∧ HP w00 w1 (Ent.row a 128 c 5 1 ((((sT df dn key dm data u lg 4).2.2).take 128).map vu8) :: Ent.blk ob .nw 47 [(1, [(.bool true)]), (32, ms.map vu8), (1, [(.slice da dn dc)]), (1, [(vi (((sT df dn key dm data u lg 4).1 : Nat) : Int))]), (1, [(.slice la' ((sT df dn key dm data u lg 4).2.1.length) lc')])] :: Ent.row la' ((sT df dn key dm data u lg 4).2.1.length) lc' 96 67 lx' :: Ent.pin (sblks lx') (fun w => Lgs w lx' ((sT df dn key dm data u lg 4).2.1)) :: Ent.view da (df.map vu8) :: Ent.view qa (data.map vu8) :: L)) := by
 have h32 : ok32 lg := Lgs.ok32 (h_0.ok _ M2).1
 refine Cs.of (n := 66) (args := [(pO ob 0), (.agg ⟨flat [(1, [(vi 4)]), (32, key.map vu8), (1, [(vi dm)]), (1, [(.slice qa qn qc)])]⟩), (vi 128)]) Tryz.func69 rfl rfl rfl ?_
 refine WP.seq (WP.reg ?_)
 refine WL.box (segs := [(1, [(vi 4)]), (32, key.map vu8), (1, [(vi dm)]), (1, [(.slice qa qn qc)])]) h_0 rfl rfl (sC sV (sC (s8 hk) (sC sV (sC sV sN)))) rfl (fun b_1 w_2 h_3 => ?_)
 refine qA (.slice none 0 0) rfl rfl ?_
 refine WL.nil (thn_n (WP.seq (WP.reg ?_)))
 refine qA (.slice none 0 0) rfl rfl ?_
 refine WL.nil (thn_n (WP.seq (WP.seq (WP.reg ?_))))
 refine qM (pO ob 0) rfl rfl (qV rfl (R.nilCheck rfl) (qV rfl (R.fieldAddr (off' := 0) rfl underlying47 rfl sizeOf4 rfl rfl) (qV rfl (R.load1 rfl isAgg4 (h_3.ok _ M1) Sg.h) ?_)))
 refine WL.nil (thn_n ?_)
 refine WP.condT rfl ?_
 refine WP.seq (WP.seq (WP.reg ?_))
 refine qA (vi 0) rfl rfl ?_
 refine WL.nil (thn_n (WP.block ?_))
 have h_4 := h_3.rowNil 5 1
 have h_11 := ((((((h_4.up J6).up J2).up J2).up J6).up J6).up J6).up J6
 refine WP.loopG (G := Nat × Option Addr × Nat × Option Addr × Nat × List Value) [7, 8, 9, 10, 19, 20, 21, 22, 23, 24, 25, 26, 27, 28, 29, 30, 31, 32, 33, 34, 35, 36, 37, 38, 39, 40] (fun (k, oa, oc, la2, lc2, lx2) => [(7, (.slice oa (32 * k) oc)), (8, (vn k))]) (fun (k, oa, oc, la2, lc2, lx2) m w1 => HP w00 w1 (Ent.blk ob .nw 47 [(1, [(.bool true)]), (32, ms.map vu8), (1, [(.slice da dn dc)]), (1, [(vn ((sT df dn key dm data u lg k).1))]), (1, [(.slice la2 ((sT df dn key dm data u lg k).2.1.length) lc2)])] :: Ent.row la2 ((sT df dn key dm data u lg k).2.1.length) lc2 96 67 lx2 :: Ent.pin (sblks lx2) (fun w => Lgs w lx2 ((sT df dn key dm data u lg k).2.1)) :: Ent.view da (df.map vu8) :: Ent.row oa (32 * k) oc 5 1 (((sT df dn key dm data u lg k).2.2).map vu8) :: Ent.blk b_1 .nw 90 [(1, [(vi 4)]), (32, key.map vu8), (1, [(vi dm)]), (1, [(.slice qa qn qc)])] :: Ent.view qa (data.map vu8) :: L) ∧ (32 * k ≤ 128 + 31) ∧ m = 128 + 32 - 32 * k) ⟨(0, none, 0, la, lc, lx), _, ⟨rfl, rfl, trivial⟩, h_11, (by omega), rfl⟩ ?_
 rintro ⟨k, oa, oc, la2, lc2, lx2⟩ m_14 J_15 w_12 ⟨h_13, hkk, rfl⟩
 have hsu := sT_u (df := df) (dn := dn) (key := key) (dm := dm) (data := data) (u := u) (lg := lg) k
 have hsl := sT_l (df := df) (dn := dn) (key := key) (dm := dm) (data := data) (u := u) (lg := lg) k
 have hs32 := sT_32 (key := key) (dm := dm) (data := data) (u := u) hdf h32 k
 have hk8 : k < 100 → (UInt64.ofNat k).toNat = k := fun _ => by simp; omega
 refine WP.seq (WP.seq (WP.reg ?_))
 refine qM (.slice oa (32 * k) oc) rfl rfl (qV rfl (R.lenS (a := oa) (m := 32 * k) rfl rfl underlying88) (qM (vi 128) rfl rfl (qV rfl (R.bin rfl rfl (bi_lss (r := decide ((((32 * k : Nat) : Int) : Int) < 128)) rfl)) ?_)))
 refine WL.nil (thn_n ?_)
 refine WP.cond (b := decide ((((32 * k : Nat) : Int) : Int) < 128)) rfl (fun c_16 => ?_) (fun c_16 => ?_)
 ·have p_17 := of_decide_eq_true c_16
  refine WP.skip (thn_n (WP.seq (WP.block (WP.seq (WP.reg ?_)))))
  refine qV rfl (R.loadA [] [(1, [(vi 4)]), (32, key.map vu8), (1, [(vi dm)]), (1, [(.slice qa qn qc)])] [] rfl isAgg90 sizeOf90 (h_13.ok _ M5) rfl rfl rfl rfl) ?_
  refine WL.alloc (segs := [(1, [(vi 0)]), (32, (zB 32).map vu8), (1, [(vi 0)]), (1, [(.slice none 0 0)])]) h_13 (zv typeInfo90 rfl) rfl (sC sV (sC (s8 lr) (sC sV (sC sV sN)))) rfl (fun b_18 w_19 h_20 => ?_)
  refine WL.storeA [] [(1, [(vi 0)]), (32, (zB 32).map vu8), (1, [(vi 0)]), (1, [(.slice none 0 0)])] [(1, [(vi 4)]), (32, key.map vu8), (1, [(vi dm)]), (1, [(.slice qa qn qc)])] [] h_20 rfl rfl sizeOf90 At.h (by decide) rfl rfl rfl rfl rfl rfl (sC sV (sC (s8 hk) (sC sV (sC sV sN)))) (fun w_21 h_22 => ?_)
  refine WL.nil (thn_n (WP.seq (WP.reg ?_)))
  refine qV rfl (R.fieldAddr (off' := 34) rfl underlying90 rfl sizeOf88 rfl rfl) (qV rfl (R.load1 rfl isAgg88 (h_22.ok _ M6) (Sg.t rfl (Sg.t rfl (Sg.t rfl Sg.h)))) ?_)
  have h_23 := h_22.rowNil 5 1
  refine WL.append (km := qn) (xs := []) (ys := data.map vu8) (zs := data.map vu8) h_23 rfl rfl el88 (viewV (h_23.ok _ M8)) ((len_map hdl).trans (Nat.mul_one _).symm) (one_u8 _) rfl (by omega) (by omega) (by omega) (fun _ _ => At.h) rfl (fun a_24 c_25 w_26 h_27 => ?_)
  refine qM (vn k) rfl rfl (qV rfl (R.conv (b := ((UInt64.ofNat k) : UInt64).toNat) rfl underlying3 underlying27 (w64_nat k)) ?_)
  refine WL.call Tryz.call101 rfl rfl (c_rLe (UInt64.ofNat k) _) rfl ?_
  rintro _ w_30 ⟨a_28, cap_29, rfl, hc_31, ho_32⟩
  have h_33 := h_27.gotRow hc_31 ho_32
  refine WL.append (km := qn + 8) (xs := data.map vu8) (ys := (leN 8 (UInt64.ofNat k).toNat).map vu8) (zs := (data ++ (leN 8 (UInt64.ofNat k).toNat)).map vu8) h_33 rfl rfl el88 (ownView (h_33.ok _ M0)) ((len_map (leN_len ..)).trans (Nat.mul_one _).symm) (one_u8 _) (by simp only [List.map_append, List.map_nil]) (by omega) (by omega) (by omega) (fun _ _ => Y1) rfl (fun a_34 c_35 w_36 h_37 => ?_)
  refine qV rfl (R.fieldAddr (off' := 34) rfl underlying90 rfl sizeOf88 rfl rfl) ?_
  refine WL.store1 h_37 rfl rfl sizeOf88 rfl Y2 (by decide) (Sg.t rfl (Sg.t rfl (Sg.t rfl Sg.h))) (fun w_38 h_39 => ?_)
  refine WL.nil (thn_n (WP.seq (WP.reg ?_)))
  refine qM (pO ob 0) rfl rfl (qV rfl (R.loadA [] [(1, [(vi 4)]), (32, key.map vu8), (1, [(vi dm)]), (1, [(.slice a_34 (qn + 8) c_35)])] [] rfl isAgg90 sizeOf90 (h_39.ok _ M2) rfl rfl rfl rfl) (qV rfl (R.buildA (vs := []) (cs := (zB 32).map vu8) underlying23 sizeOf5 (zv typeInfo23 rfl) rfl rfl) ?_))
  have h_44 := ((((h_39.up J1).up J6).up J6).up J6).up J6
  refine WL.call Tryz.call102 rfl rfl (c_rAns_r true ob ms df hms da dn dc ((sT df dn key dm data u lg k).1) hdf la2 lc2 lx2 ((sT df dn key dm data u lg k).2.1) (by omega) (by omega) 4 dm key (data ++ (leN 8 (UInt64.ofNat k).toNat)) a_34 (qn + 8) c_35 ⟨hk, by show (1 : Int) ≤ 4 ∧ (4 : Int) ≤ 4; decide, hdm, by simp only [List.length_append, leN_len]; omega⟩ (lenApp (a := qn) (b := 8) hdl (leN_len ..) (by omega) : List.length (data ++ (leN 8 (UInt64.ofNat k).toNat)) = qn + 8) (zB 32) lr (fun h => by cases h) _ h_44) rfl ?_
  rintro _ w_48 ⟨la_45, lc_46, lx_47, rfl, h_49⟩
  refine WL.alloc (segs := [(32, (zB 32).map vu8)]) h_49 (zv typeInfo23 rfl) rfl (sC (s8 lr) sN) rfl (fun b_50 w_51 h_52 => ?_)
  refine WL.storeA [] [(32, (zB 32).map vu8)] [(32, (anD true df dn ((sT df dn key dm data u lg k).1) ((sT df dn key dm data u lg k).2.1) (4, key, dm, (data ++ (leN 8 (UInt64.ofNat k).toNat)))).map vu8)] [] h_52 rfl rfl sizeOf23 At.h (by decide) rfl rfl rfl rfl rfl rfl (sC (s8 (anD_len hdf hs32)) sN) (fun w_53 h_54 => ?_)
  refine WL.nil (thn_n (WP.reg ?_))
  refine qM (.slice oa (32 * k) oc) rfl rfl (qV rfl (R.sliceA (b := b_50) (off := 0) (off' := 0) (l := 0) (h := 32) rfl EvB.dflt EvB.dflt (by decide) (by decide) underlying23 sizeOf5 rfl) ?_)
  refine WL.append (km := 32 * k + 32) (xs := ((sT df dn key dm data u lg k).2.2).map vu8) (ys := (anD true df dn ((sT df dn key dm data u lg k).1) ((sT df dn key dm data u lg k).2.1) (4, key, dm, (data ++ (leN 8 (UInt64.ofNat k).toNat)))).map vu8) (zs := (((sT df dn key dm data u lg k).2.2) ++ (anD true df dn ((sT df dn key dm data u lg k).1) ((sT df dn key dm data u lg k).2.1) (4, key, dm, (data ++ (leN 8 (UInt64.ofNat k).toNat))))).map vu8) h_54 rfl rfl el88 (viewB (h_54.ok _ M0) Sg.h) ((len_map (anD_len hdf hs32)).trans (Nat.mul_one _).symm) (one_u8 _) (by simp only [List.map_append, List.map_nil]) (by omega) (by omega) (by omega) (fun _ _ => Y8) rfl (fun a_55 c_56 w_57 h_58 => ?_)
  refine qA (.slice a_55 (32 * k + 32) c_56) rfl rfl ?_
  refine WL.nil (inb_n (thn_n (WP.reg ?_)))
  refine qM (vn k) rfl rfl (qV rfl (R.bin rfl rfl (bi_add (c := ((k + 1 : Nat) : Int)) (by omega) (by omega))) (qA (vn (k + 1)) rfl rfl ?_))
  refine WL.nil (thn_n ?_)
  have h_72 := (((((((((((((h_58.drop rfl).up J4).drop rfl).up J4).drop rfl).up J4).drop rfl).up J6).up J6).up J6).up J6).up J6).up J6).up J6
  rw [hk8 (by omega)] at h_72
  exact ⟨(k + 1, a_55, c_56, la_45, lc_46, lx_47), _, (by omega), (U2 rfl rfl (U4 rfl rfl rfl rfl (U4 rfl rfl rfl rfl (U4 rfl rfl rfl rfl (U4 rfl rfl rfl rfl (U4 rfl rfl rfl rfl (U4 rfl rfl rfl rfl (Ag.updL rfl (Ag.mix _ _ _))))))))), ⟨rfl, rfl, trivial⟩, h_72, (by omega), rfl⟩
 ·have p_73 := of_decide_eq_false c_16
  refine WP.exit (thn_x (thn_x (inb_hit (thn_n (WP.seq (WP.reg ?_))))))
  refine qM (.slice oa (32 * k) oc) rfl rfl (qM (vi 128) rfl rfl (qV rfl (R.sliceR0 (h := 128) rfl EvB.dflt (EvB.it (l := 128) rfl rfl) (Nat.le_trans (by omega) (h_13.own M4).2.2.1) underlying88 sizeOf5 (h_13.ok _ M4)) ?_))
  have h_74 := HP.rowCut (k := 128) h_13 Y4 (by omega)
  rw [show (((sT df dn key dm data u lg k).2.2).map vu8).take (128 * 1) = (((sT df dn key dm data u lg k).2.2).take 128).map vu8 from by rw [Nat.mul_one, ← List.map_take]] at h_74
  refine qA (.slice oa 128 oc) rfl rfl ?_
  refine WL.nil (thn_n (WP.ret (thn_r ?_)))
  refine ret_of results69 (RV.tmp (v := (.slice oa 128 oc)) rfl RV.nil) ?_
  have h_82 := (((((((h_74.up J5).drop rfl).up J5).up J4).up J4).up J4).up J4).up J5
  have hkn : k = 4 := by omega
  subst hkn
  exact ⟨_, _, _, _, _, rfl, h_82⟩

theorem c_rStreamF {w00 : World} {L : List Ent} (ob : Nat) (ms df : List UInt8) (hms : ms.length = 32) (da : Option Addr) (dn dc u : Nat) (hdf : df.length = 32 * dn) (la : Option Addr) (lc : Nat) (lx : List Value) (lg : Lg) (hu : u ≤ 1000000) (hlg : lg.length ≤ 1000000) (dm : Int) (key data : List UInt8) (qa : Option Addr) (qn qc : Nat) (hk : key.length = 32) (hdm : 1 ≤ dm ∧ dm ≤ 16) (hdl : data.length = qn) (hqn : qn ≤ 100000) (w : World) (h_0 : HP w00 w (Ent.blk ob .nw 47 [(1, [(.bool false)]), (32, ms.map vu8), (1, [(.slice da dn dc)]), (1, [(vi ((u : Nat) : Int))]), (1, [(.slice la lg.length lc)])] :: Ent.row la lg.length lc 96 67 lx :: Ent.pin (sblks lx) (fun w => Lgs w lx lg) :: Ent.view da (df.map vu8) :: Ent.view qa (data.map vu8) :: L)) :
  Cs Tryz.prog 69 [(.pointer (some ⟨ob, 0, none⟩)), (.agg ⟨flat [(1, [(vi 4)]), (32, key.map vu8), (1, [(vi dm)]), (1, [(.slice qa qn qc)])]⟩), (vi 128)].toArray w (fun v w1 => ∃ a c la' lc' lx', v = .slice a 128 c ∧ HP w00 w1 (Ent.row a 128 c 5 1 ((nL ((4 : Int), key, dm, data) 128).map vu8) :: Ent.blk ob .nw 47 [(1, [(.bool false)]), (32, ms.map vu8), (1, [(.slice da dn dc)]), (1, [(vi ((u : Nat) : Int))]), (1, [(.slice la' ((sL ((4 : Int), key, dm, data) ((nL ((4 : Int), key, dm, data) 128).take 32) lg).length) lc')])] :: Ent.row la' ((sL ((4 : Int), key, dm, data) ((nL ((4 : Int), key, dm, data) 128).take 32) lg).length) lc' 96 67 lx' :: Ent.pin (sblks lx') (fun w => Lgs w lx' (sL ((4 : Int), key, dm, data) ((nL ((4 : Int), key, dm, data) 128).take 32) lg)) :: Ent.view da (df.map vu8) :: Ent.view qa (data.map vu8) :: L)) := by
 have hqd : data.length ≤ 1000000000 := by omega
 refine Cs.of (n := 66) (args := [(pO ob 0), (.agg ⟨flat [(1, [(vi 4)]), (32, key.map vu8), (1, [(vi dm)]), (1, [(.slice qa qn qc)])]⟩), (vi 128)]) Tryz.func69 rfl rfl rfl ?_
 refine WP.seq (WP.reg ?_)
 refine WL.box (segs := [(1, [(vi 4)]), (32, key.map vu8), (1, [(vi dm)]), (1, [(.slice qa qn qc)])]) h_0 rfl rfl (sC sV (sC (s8 hk) (sC sV (sC sV sN)))) rfl (fun b_1 w_2 h_3 => ?_)
 refine qA (.slice none 0 0) rfl rfl ?_
 refine WL.nil (thn_n (WP.seq (WP.reg ?_)))
 refine qA (.slice none 0 0) rfl rfl ?_
 refine WL.nil (thn_n (WP.seq (WP.seq (WP.reg ?_))))
 refine qM (pO ob 0) rfl rfl (qV rfl (R.nilCheck rfl) (qV rfl (R.fieldAddr (off' := 0) rfl underlying47 rfl sizeOf4 rfl rfl) (qV rfl (R.load1 rfl isAgg4 (h_3.ok _ M1) Sg.h) ?_)))
 refine WL.nil (thn_n ?_)
 refine WP.condF rfl ?_
 refine WP.skip (thn_n (WP.seq (WP.reg ?_)))
 refine WL.alloc (segs := [(16, (zB 16).map vu8)]) h_3 (zv typeInfo152 rfl) rfl (sC (s8 lr) sN) rfl (fun b_4 w_5 h_6 => ?_)
 refine WL.nil (thn_n (WP.seq (WP.reg ?_)))
 refine WL.alloc (segs := [(8, (zB 8).map vu8)]) h_6 (zv typeInfo153 rfl) rfl (sC (s8 lr) sN) rfl (fun b_7 w_8 h_9 => ?_)
 refine WL.nil (thn_n (WP.seq ?_))
 refine WP.drawT (SL w00.heap.size [.blk b_7 .nw 153 [(8, (zB 8).map vu8)], .blk b_1 .nw 90 [(1, [(vi 4)]), (32, key.map vu8), (1, [(vi dm)]), (1, [(.slice qa qn qc)])], .blk ob .nw 47 [(1, [(.bool false)]), (32, ms.map vu8), (1, [(.slice da dn dc)]), (1, [(vn u)]), (1, [(.slice la lg.length lc)])], .row la lg.length lc 96 67 lx, .pin (sblks lx) (fun w => Lgs w lx lg), .view da (df.map vu8), .view qa (data.map vu8)]) (.q 0 (.q 1 (.q 2 (.s 3 .nil)))) (by kernel_rfl) (by kernel_rfl) rfl (by kernel_rfl) (fun w_10 hc_12 => (SL.cons ((h_9.same hc_12).ok _ M0) (SL.cons ((h_9.same hc_12).ok _ M2) (SL.cons ((h_9.same hc_12).ok _ M3) (SL.cons ((h_9.same hc_12).ok _ M4) (SL.cons ((h_9.same hc_12).ok _ M5) (SL.cons ((h_9.same hc_12).ok _ M6) (SL.cons ((h_9.same hc_12).ok _ M7) (SL.nil _ _))))))))) (fun w_10 hc_12 => ?_)
 have h_11 := h_9.same hc_12
 refine qT rfl rfl (fun wq hS => R.sliceA (b := b_4) (off := 0) (off' := 0) (l := 0) (h := 16) rfl EvB.dflt EvB.dflt (by decide) (by decide) underlying152 sizeOf5 rfl) ?_
 refine qT rfl rfl (fun wq hS => R.fieldAddr (off' := 1) rfl underlying90 rfl sizeOf23 rfl rfl) ?_
 refine qT rfl rfl (fun wq hS => R.sliceA (b := b_1) (off := 1) (off' := 1) (l := 0) (h := 16) rfl EvB.dflt (EvB.it (l := 16) rfl rfl) (by decide) (by decide) underlying23 sizeOf5 rfl) ?_
 refine WT.s (oN rfl ?_)
 refine WL.copy (q := 16) (i := 0) (ys := ((key.drop 0).take 16).map vu8) (cs' := ((key.drop 0).take 16).map vu8) h_11 rfl rfl underlying88 sizeOf5 (viewPart 0 16 (h_11.ok _ M2) (Sg.t rfl Sg.h)) (len_map (subLen (K := 32) hk (by omega) : List.length ((key.drop 0).take 16) = 16)) (one_u8 _) Y1 (by decide) Sg.h rfl (by decide) (by rw [len_map lr]; decide) (cpAll (subLen (K := 32) hk (by omega) : List.length ((key.drop 0).take 16) = 16) lr) rfl (fun w_13 h_14 => ?_)
 refine WL.nil ?_
 refine ⟨(SL.cons (h_14.ok _ M0) (SL.cons (h_14.ok _ M2) (SL.cons (h_14.ok _ M3) (SL.cons (h_14.ok _ M4) (SL.cons (h_14.ok _ M5) (SL.cons (h_14.ok _ M6) (SL.cons (h_14.ok _ M7) (SL.nil _ _)))))))), ?_⟩
 refine WT.nil (thn_n (WP.seq (WP.reg ?_)))
 refine qV rfl (R.loadA [] [(1, [(vi 4)]), (32, key.map vu8), (1, [(vi dm)]), (1, [(.slice qa qn qc)])] [] rfl isAgg90 sizeOf90 (h_14.ok _ M2) rfl rfl rfl rfl) ?_
 refine WL.call Tryz.call104 rfl rfl (c_rText 4 dm key data qa qn qc ⟨hk, by show (1 : Int) ≤ 4 ∧ (4 : Int) ≤ 4; decide, hdm, hqd⟩ hdl _ (viewV (h_14.ok _ M7))) rfl ?_
 rintro _ w_17 ⟨a_15, cap_16, rfl, hc_18, ho_19⟩
 have h_20 := h_14.gotRow hc_18 ho_19
 refine WL.call Tryz.call103 rfl rfl (c_SumR a_15 (34 + qn) cap_16 (cT (4, key, dm, data)) (cT_len ⟨hk, by show (1 : Int) ≤ 4 ∧ (4 : Int) ≤ 4; decide, hdm, hqd⟩ hdl) (by omega) _ (ownView (h_20.ok _ M0))) rfl ?_
 rintro _ w_22 ⟨rfl, hc_21⟩
 have h_23 := h_20.same hc_21
 refine WL.alloc (segs := [(32, (zB 32).map vu8)]) h_23 (zv typeInfo23 rfl) rfl (sC (s8 lr) sN) rfl (fun b_24 w_25 h_26 => ?_)
 refine WL.storeA [] [(32, (zB 32).map vu8)] [(32, (sumL (cT (4, key, dm, data))).map vu8)] [] h_26 rfl rfl sizeOf23 At.h (by decide) rfl rfl rfl rfl rfl rfl (sC (s8 (sumL_len _)) sN) (fun w_27 h_28 => ?_)
 refine WL.nil (thn_n (WP.seq ?_))
 refine WP.drawT (SL w00.heap.size [.blk b_24 .nw 23 [(32, (sumL (cT (4, key, dm, data))).map vu8)], .row a_15 (34 + qn) cap_16 5 1 ((cT (4, key, dm, data)).map vu8), .blk b_4 .nw 152 [(16, ((key.drop 0).take 16).map vu8)], .blk b_1 .nw 90 [(1, [(vi 4)]), (32, key.map vu8), (1, [(vi dm)]), (1, [(.slice qa qn qc)])], .blk ob .nw 47 [(1, [(.bool false)]), (32, ms.map vu8), (1, [(.slice da dn dc)]), (1, [(vn u)]), (1, [(.slice la lg.length lc)])], .row la lg.length lc 96 67 lx, .pin (sblks lx) (fun w => Lgs w lx lg), .view da (df.map vu8), .view qa (data.map vu8)]) (.q 0 (.q 1 (.s 2 .nil))) (by kernel_rfl) (by kernel_rfl) rfl (by kernel_rfl) (fun w_29 hc_31 => (SL.cons ((h_28.same hc_31).ok _ M0) (SL.cons ((h_28.same hc_31).ok _ M1) (SL.cons ((h_28.same hc_31).ok _ M3) (SL.cons ((h_28.same hc_31).ok _ M4) (SL.cons ((h_28.same hc_31).ok _ M5) (SL.cons ((h_28.same hc_31).ok _ M6) (SL.cons ((h_28.same hc_31).ok _ M7) (SL.cons ((h_28.same hc_31).ok _ M8) (SL.cons ((h_28.same hc_31).ok _ M9) (SL.nil _ _))))))))))) (fun w_29 hc_31 => ?_)
 have h_30 := h_28.same hc_31
 refine qT rfl rfl (fun wq hS => R.sliceA (b := b_7) (off := 0) (off' := 0) (l := 0) (h := 8) rfl EvB.dflt EvB.dflt (by decide) (by decide) underlying153 sizeOf5 rfl) ?_
 refine qT rfl rfl (fun wq hS => R.sliceA (b := b_24) (off := 0) (off' := 0) (l := 0) (h := 8) rfl EvB.dflt (EvB.it (l := 8) rfl rfl) (by decide) (by decide) underlying23 sizeOf5 rfl) ?_
 refine WT.s (oN rfl ?_)
 refine WL.copy (q := 8) (i := 0) (ys := (((sumL (cT (4, key, dm, data))).drop 0).take 8).map vu8) (cs' := (((sumL (cT (4, key, dm, data))).drop 0).take 8).map vu8) h_30 rfl rfl underlying88 sizeOf5 (viewPart 0 8 (h_30.ok _ M0) Sg.h) (len_map (subLen (K := 32) (sumL_len _) (by omega) : List.length (((sumL (cT (4, key, dm, data))).drop 0).take 8) = 8)) (one_u8 _) Y2 (by decide) Sg.h rfl (by decide) (by rw [len_map lr]; decide) (cpAll (subLen (K := 32) (sumL_len _) (by omega) : List.length (((sumL (cT (4, key, dm, data))).drop 0).take 8) = 8) lr) rfl (fun w_32 h_33 => ?_)
 refine WL.nil ?_
 refine ⟨(SL.cons (h_33.ok _ M0) (SL.cons (h_33.ok _ M1) (SL.cons (h_33.ok _ M3) (SL.cons (h_33.ok _ M4) (SL.cons (h_33.ok _ M5) (SL.cons (h_33.ok _ M6) (SL.cons (h_33.ok _ M7) (SL.cons (h_33.ok _ M8) (SL.cons (h_33.ok _ M9) (SL.nil _ _)))))))))), ?_⟩
 refine WT.nil (thn_n (WP.seq (WP.reg ?_)))
 refine qV rfl (R.loadA [] [(16, ((key.drop 0).take 16).map vu8)] [] (cs := ((key.drop 0).take 16).map vu8) rfl isAgg152 sizeOf152 (h_33.ok _ M3) rfl rfl rfl rfl) (qV rfl (R.loadA [] [(8, (((sumL (cT (4, key, dm, data))).drop 0).take 8).map vu8)] [] (cs := (((sumL (cT (4, key, dm, data))).drop 0).take 8).map vu8) rfl isAgg153 sizeOf153 (h_33.ok _ M2) rfl rfl rfl rfl) (qM (vi 128) rfl rfl ?_))
 refine WL.call Tryz.call105 rfl rfl (c_StreamR ((key.drop 0).take 16) (((sumL (cT (4, key, dm, data))).drop 0).take 8) (subLen (K := 32) hk (by omega) : List.length ((key.drop 0).take 16) = 16) (subLen (K := 32) (sumL_len _) (by omega) : List.length (((sumL (cT (4, key, dm, data))).drop 0).take 8) = 8) 128 (by decide) _) rfl ?_
 rintro _ w_36 ⟨a_34, cap_35, rfl, hc_37, ho_38⟩
 have h_39 := h_33.gotRow hc_37 ho_38
 refine qA (.slice a_34 128 cap_35) rfl rfl ?_
 refine WL.nil (thn_n (WP.seq ?_))
 have hXl : List.length (Go.Ax.strL ((key.drop 0).take 16) (((sumL (cT (4, key, dm, data))).drop 0).take 8) 128) = 128 := (Go.Ax.strL_len (subLen (K := 32) (sumL_len _) (by omega) : List.length (((sumL (cT (4, key, dm, data))).drop 0).take 8) = 8) _)
 generalize hX : Go.Ax.strL ((key.drop 0).take 16) (((sumL (cT (4, key, dm, data))).drop 0).take 8) 128 = X at h_39 hXl
 refine WP.reg ?_
 refine WL.alloc (segs := [(32, (zB 32).map vu8)]) h_39 (zv typeInfo23 rfl) rfl (sC (s8 lr) sN) rfl (fun b_40 w_41 h_42 => ?_)
 refine WL.nil (thn_n (WP.seq (WP.reg ?_)))
 refine qV rfl (R.sliceA (b := b_40) (off := 0) (off' := 0) (l := 0) (h := 32) rfl EvB.dflt EvB.dflt (by decide) (by decide) underlying23 sizeOf5 rfl) (qM (.slice a_34 128 cap_35) rfl rfl ?_)
 refine WL.copy (q := 32) (i := 0) (ys := X.map vu8) (cs' := (X.take 32).map vu8) h_42 rfl rfl underlying88 sizeOf5 (ownView (h_42.ok _ M1)) (len_map hXl) (one_u8 _) At.h (by decide) Sg.h rfl (by decide) (by rw [len_map lr]; decide) (by simp only [List.map_append, List.map_take, List.map_drop, List.take_zero, List.nil_append, Nat.zero_add, List.map_replicate, List.drop_replicate, Nat.sub_self, List.replicate_zero, List.append_nil]) rfl (fun w_43 h_44 => ?_)
 refine WL.nil (thn_n (WP.seq (WP.reg ?_)))
 refine qM (pO ob 0) rfl rfl (qV rfl (R.loadA [] [(1, [(vi 4)]), (32, key.map vu8), (1, [(vi dm)]), (1, [(.slice qa qn qc)])] [] rfl isAgg90 sizeOf90 (h_44.ok _ M6) rfl rfl rfl rfl) (qV rfl (R.loadA [] [(32, (X.take 32).map vu8)] [] (cs := (X.take 32).map vu8) rfl isAgg23 sizeOf23 (h_44.ok _ M0) rfl rfl rfl rfl) ?_))
 have h_49 := ((((h_44.up J11).up J11).up J11).up J11).up J11
 refine WL.call Tryz.call102 rfl rfl (c_rAnsS ob ms df hms da dn dc u hdf la lc lx lg hu hlg 4 dm key data qa qn qc ⟨hk, by show (1 : Int) ≤ 4 ∧ (4 : Int) ≤ 4; decide, hdm, hqd⟩ hdl (X.take 32) (by rw [List.length_take, hXl]; decide) _ h_49) rfl ?_
 rintro _ w_55 ⟨la_50, lc_51, lx_52, d_53, rfl, hd_54, h_56⟩
 refine WL.nil (thn_n (WP.seq (WP.reg ?_)))
 refine qM (.slice a_34 128 cap_35) rfl rfl (qA (.slice a_34 128 cap_35) rfl rfl ?_)
 refine WL.nil (thn_n (WP.ret ?_))
 refine ret_of results69 (RV.tmp (v := (.slice a_34 128 cap_35)) rfl RV.nil) ?_
 have h_74 := (((((((((((((((((h_56.up J5).drop rfl).up J6).drop rfl).up J6).drop rfl).up J6).drop rfl).up J6).drop rfl).up J6).drop rfl).up J4).up J4).up J4).up J4).up J4).up J5
 subst hX
 simp only [List.drop_zero] at h_74
 exact ⟨_, _, _, _, _, rfl, h_74⟩

theorem c_rgStream {w00 : World} {L : List Ent} (id : Bool) (ob : Nat) (ms df : List UInt8) (hms : ms.length = 32) (da : Option Addr) (dn dc u : Nat) (hdf : df.length = 32 * dn) (la : Option Addr) (lc : Nat) (lx : List Value) (lg : Lg) (hu : u ≤ 500000) (hlg : lg.length ≤ 500000) (dm : Int) (key data : List UInt8) (qa : Option Addr) (qn qc : Nat) (hk : key.length = 32) (hdm : 1 ≤ dm ∧ dm ≤ 16) (hdl : data.length = qn) (hqn : qn ≤ 100000) (w : World) (h_0 : HP w00 w (Ent.blk ob .nw 47 [(1, [(.bool id)]), (32, ms.map vu8), (1, [(.slice da dn dc)]), (1, [(vi ((u : Nat) : Int))]), (1, [(.slice la lg.length lc)])] :: Ent.row la lg.length lc 96 67 lx :: Ent.pin (sblks lx) (fun w => Lgs w lx lg) :: Ent.view da (df.map vu8) :: Ent.view qa (data.map vu8) :: L)) :
  Cs Tryz.prog 69 [(.pointer (some ⟨ob, 0, none⟩)), (.agg ⟨flat [(1, [(vi 4)]), (32, key.map vu8), (1, [(vi dm)]), (1, [(.slice qa qn qc)])]⟩), (vi 128)].toArray w (fun v w1 => ∃ a c la' lc' lx', v = .slice a 128 c ∧ HP w00 w1 (Ent.row a 128 c 5 1 (((gSt id df dn key dm data u lg).2.2).map vu8) :: Ent.blk ob .nw 47 [(1, [(.bool id)]), (32, ms.map vu8), (1, [(.slice da dn dc)]), (1, [(vi (((gSt id df dn key dm data u lg).1 : Nat) : Int))]), (1, [(.slice la' ((gSt id df dn key dm data u lg).2.1.length) lc')])] :: Ent.row la' ((gSt id df dn key dm data u lg).2.1.length) lc' 96 67 lx' :: Ent.pin (sblks lx') (fun w => Lgs w lx' ((gSt id df dn key dm data u lg).2.1)) :: Ent.view da (df.map vu8) :: Ent.view qa (data.map vu8) :: L)) := by
 cases id with
 | false =>
  have hu2 : u ≤ 1000000 := by omega
  have hlg2 : lg.length ≤ 1000000 := by omega
  simp only [gSt_F]
  exact c_rStreamF ob ms df hms da dn dc u hdf la lc lx lg hu2 hlg2 dm key data qa qn qc hk hdm hdl hqn w h_0
 | true =>
  simp only [gSt_T]
  exact c_rStreamT ob ms df hms da dn dc u hdf la lc lx lg hu hlg dm key data qa qn qc hk hdm hdl hqn w h_0
end Go.Proofs.YteclkcpdclimnaaGreat

namespace Go.Proofs.YteclkcpdclimnaaGreat
open Go.Proofs.Tryz
open Go.Vc Go.Orc Go.Sh Go.RowKit
set_option maxRecDepth 20000
theorem ce29 : Tryz.prog.cellsOf 29 = 128 := by kernel_rfl
end Go.Proofs.YteclkcpdclimnaaGreat

namespace Go.Proofs.YteclkcpdclimnaaGreat
open Go.Proofs.Tryz
open Go.Vc Go.Orc Go.Sh Go.RowKit
set_option maxRecDepth 20000

theorem c_Mix (p q : List UInt8) (hp : p.length = 128) (hq : q.length = 128) (w : World) :
  Cs Tryz.prog 55 [(.agg ⟨p.map vu8⟩), (.agg ⟨q.map vu8⟩)].toArray w (fun v w1 => v = (.agg ⟨(gx p q).map vu8⟩) ∧ Chg w w1 []) := by
 refine Cs.of (n := 19) (args := [(.agg ⟨p.map vu8⟩), (.agg ⟨q.map vu8⟩)]) Tryz.func55 rfl rfl rfl ?_
 have h_0 := HP.init w
 refine WP.seq (WP.reg ?_)
 refine WL.box (segs := [(128, p.map vu8)]) h_0 rfl rfl (sC (s8 hp) sN) rfl (fun b_1 w_2 h_3 => ?_)
 refine WL.box (segs := [(128, q.map vu8)]) h_3 rfl rfl (sC (s8 hq) sN) rfl (fun b_4 w_5 h_6 => ?_)
 refine WL.alloc (segs := [(128, (zB 128).map vu8)]) h_6 (zv typeInfo29 rfl) rfl (sC (s8 lr) sN) rfl (fun b_7 w_8 h_9 => ?_)
 refine WL.nil (thn_n (WP.seq (WP.seq (WP.reg ?_))))
 refine qM (vi 0) rfl rfl ?_
 refine WL.nil (thn_n (WP.block ?_))
 refine WP.loopG (G := Nat) [5, 6, 7, 8, 9, 10, 11, 12, 13, 14, 15, 16, 17] (fun i => [(6, (vn i))]) (fun i m w1 => HP w w1 [.blk b_7 .nw 29 [(128, (zB 128).map vu8)], .blk b_4 .nw 29 [(128, q.map vu8)], .blk b_1 .nw 29 [(128, (Go.Sh.mix (gx p q) p i).map vu8)]] ∧ (i ≤ 128) ∧ m = 128 - i) ⟨0, _, ⟨rfl, trivial⟩, (by rw [Go.Sh.mix_0]; exact h_9), (by omega), rfl⟩ ?_
 rintro i m_12 J_13 w_10 ⟨h_11, hi, rfl⟩
 refine WP.seq (WP.reg ?_)
 refine qV rfl (R.bin rfl rfl (bi_lss (r := decide ((((i : Nat) : Int) : Int) < 128)) rfl)) ?_
 refine WL.nil (thn_n (WP.seq ?_))
 refine WP.cond (b := decide ((((i : Nat) : Int) : Int) < 128)) rfl (fun c_14 => ?_) (fun c_14 => ?_)
 ·have p_15 := of_decide_eq_true c_14
  refine WP.skip (thn_n (WP.seq (WP.block (WP.seq (WP.reg ?_)))))
  refine qM (vn i) rfl rfl (qA (vn i) rfl rfl ?_)
  refine WL.nil (thn_n ?_)
  refine WP.drawZ 8 (SL w.heap.size [.blk b_7 .nw 29 [(128, (zB 128).map vu8)], .blk b_4 .nw 29 [(128, q.map vu8)], .blk b_1 .nw 29 [(128, (Go.Sh.mix (gx p q) p i).map vu8)]]) (.q 0 (.q 1 (.q 2 (.q 3 (.q 4 (.q 5 (.q 6 (.q 7 (.s 8 .nil))))))))) (by kernel_rfl) (by kernel_rfl) rfl (by kernel_rfl) (fun w_16 hc_18 => (SL.cons ((h_11.same hc_18).ok _ M0) (SL.cons ((h_11.same hc_18).ok _ M1) (SL.cons ((h_11.same hc_18).ok _ M2) (SL.nil _ _))))) (fun w_16 hc_18 => ?_)
  have h_17 := h_11.same hc_18
  refine ZT.q rfl (Wn.no rfl) rfl rfl (fun wq hS => R.move (v := (vn i)) rfl) ?_
  refine ZT.q rfl (Wn.no rfl) rfl rfl (fun wq hS => R.indexA (b := b_1) (off := 0) (off' := (0 + i)) (i := i) rfl rfl rfl (by omega) underlying29 sizeOf5 (by rw [Nat.mul_one])) ?_
  refine ZT.q rfl (Wn.no rfl) rfl rfl (fun wq hS => R.loadE (b := b_1) (off := (0 + i)) (i := i) (v := (vu8 ((Go.Sh.mix (gx p q) p i).getD i 0))) rfl isAgg5 (hS _ M2) Sg.h rfl (get_u8 (lt_len (K := 128) (Go.Sh.mix_len (gx_len hp hq) hp) (by omega)))) ?_
  refine ZT.q rfl (Wn.no rfl) rfl rfl (fun wq hS => R.move (v := (vn i)) rfl) ?_
  refine ZT.q rfl (Wn.no rfl) rfl rfl (fun wq hS => R.indexA (b := b_4) (off := 0) (off' := (0 + i)) (i := i) rfl rfl rfl (by omega) underlying29 sizeOf5 (by rw [Nat.mul_one])) ?_
  refine ZT.q rfl (Wn.no rfl) rfl rfl (fun wq hS => R.loadE (b := b_4) (off := (0 + i)) (i := i) (v := (vu8 (q.getD i 0))) rfl isAgg5 (hS _ M1) Sg.h rfl (get_u8 (lt_len (K := 128) hq (by omega)))) ?_
  refine ZT.q rfl (Wn.no rfl) rfl rfl (fun wq hS => R.bin rfl rfl (b8_xor ((Go.Sh.mix (gx p q) p i).getD i 0) (q.getD i 0))) ?_
  refine ZT.q rfl (Wn.no rfl) rfl rfl (fun wq hS => R.indexA (b := b_1) (off := 0) (off' := (0 + i)) (i := i) rfl rfl rfl (by omega) underlying29 sizeOf5 (by rw [Nat.mul_one])) ?_
  refine ZT.s ?_
  refine OpZ.last rfl (Wn.no rfl) ?_
  refine WL.storeE (b := b_1) (off := (0 + i)) (i := i) (v := (vu8 (((Go.Sh.mix (gx p q) p i).getD i 0) ^^^ (q.getD i 0)))) (cs' := ((Go.Sh.mix (gx p q) p i).set i (((Go.Sh.mix (gx p q) p i).getD i 0) ^^^ (q.getD i 0))).map vu8) h_17 rfl rfl sizeOf5 rfl Y2 (by decide) Sg.h rfl (lt_len (K := 128) (len_map (Go.Sh.mix_len (gx_len hp hq) hp)) (by omega)) (set_u8 _ _ _) (fun w_19 h_20 => ?_)
  refine WL.nil (ZT.nil (inb_n (thn_n (WP.reg ?_))))
  refine qV rfl (R.bin rfl rfl (bi_add (c := ((i + 1 : Nat) : Int)) (by omega) (by omega))) (qM (vn (i + 1)) rfl rfl ?_)
  refine WL.nil (thn_n ?_)
  have h_23 := ((h_20.up J2).up J2).up J2
  rw [gx_step hp hq (by omega)] at h_23
  exact ⟨i + 1, _, (by omega), (Ag.upd rfl (U4 rfl rfl rfl rfl (U4 rfl rfl rfl rfl (U4 rfl rfl rfl rfl (Ag.updL rfl (Ag.mix _ _ _)))))), ⟨rfl, trivial⟩, h_23, (by omega), rfl⟩
 ·have p_24 := of_decide_eq_false c_14
  refine WP.exit (thn_x (thn_x (inb_hit (thn_n (WP.seq (WP.reg ?_))))))
  refine qV rfl (R.loadA [] [(128, (Go.Sh.mix (gx p q) p i).map vu8)] [] (cs := (Go.Sh.mix (gx p q) p i).map vu8) rfl isAgg29 sizeOf29 (h_11.ok _ M2) rfl rfl rfl rfl) ?_
  refine WL.storeA [] [(128, (zB 128).map vu8)] [(128, (Go.Sh.mix (gx p q) p i).map vu8)] [] h_11 rfl rfl sizeOf29 At.h (by decide) rfl rfl rfl rfl rfl rfl (sC (s8 (Go.Sh.mix_len (gx_len hp hq) hp)) sN) (fun w_25 h_26 => ?_)
  refine WL.nil (thn_n (WP.ret ?_))
  refine ret_of results55 (RV.cell rfl (h_26.loadA (cs := (Go.Sh.mix (gx p q) p i).map vu8) isAgg29 sizeOf29 M0 rfl rfl) RV.nil) ?_
  have hi2 : i = 128 := by omega
  subst hi2
  exact ⟨by rw [gx_all hp hq]; rfl, h_26.chgS⟩

theorem c_MixR (p q : List UInt8) (hp : p.length = 128) (hq : q.length = 128) (w : World) :
  Cs Tryz.prog 70 [(.agg ⟨p.map vu8⟩), (.agg ⟨q.map vu8⟩)].toArray w (fun v w1 => v = (.agg ⟨(gx p q).map vu8⟩) ∧ Chg w w1 []) := by
 refine Cs.of (n := 20) (args := [(.agg ⟨p.map vu8⟩), (.agg ⟨q.map vu8⟩)]) Tryz.func70 rfl rfl rfl ?_
 have h_0 := HP.init w
 refine WP.seq (WP.reg ?_)
 refine WL.box (segs := [(128, p.map vu8)]) h_0 rfl rfl (sC (s8 hp) sN) rfl (fun b_1 w_2 h_3 => ?_)
 refine WL.box (segs := [(128, q.map vu8)]) h_3 rfl rfl (sC (s8 hq) sN) rfl (fun b_4 w_5 h_6 => ?_)
 refine WL.alloc (segs := [(128, (zB 128).map vu8)]) h_6 (zv typeInfo29 rfl) rfl (sC (s8 lr) sN) rfl (fun b_7 w_8 h_9 => ?_)
 refine WL.nil (thn_n (WP.seq (WP.seq (WP.reg ?_))))
 refine qA (vi 0) rfl rfl ?_
 refine WL.nil (thn_n (WP.block ?_))
 refine WP.loopG (G := Nat) [5, 6, 7, 8, 9, 10, 11, 12, 13, 14, 15, 16, 17, 18] (fun i => [(5, (vn i))]) (fun i m w1 => HP w w1 [.blk b_7 .nw 29 [(128, (zB 128).map vu8)], .blk b_4 .nw 29 [(128, q.map vu8)], .blk b_1 .nw 29 [(128, (Go.Sh.mix (gx p q) p i).map vu8)]] ∧ (i ≤ 128) ∧ m = 128 - i) ⟨0, _, ⟨rfl, trivial⟩, (by rw [Go.Sh.mix_0]; exact h_9), (by omega), rfl⟩ ?_
 rintro i m_12 J_13 w_10 ⟨h_11, hi, rfl⟩
 refine WP.seq (WP.seq (WP.reg ?_))
 refine qM (vn i) rfl rfl (qV rfl (R.bin rfl rfl (bi_lss (r := decide ((((i : Nat) : Int) : Int) < 128)) rfl)) ?_)
 refine WL.nil (thn_n ?_)
 refine WP.cond (b := decide ((((i : Nat) : Int) : Int) < 128)) rfl (fun c_14 => ?_) (fun c_14 => ?_)
 ·have p_15 := of_decide_eq_true c_14
  refine WP.skip (thn_n (WP.seq (WP.block ?_)))
  refine WP.drawZ 9 (SL w.heap.size [.blk b_7 .nw 29 [(128, (zB 128).map vu8)], .blk b_4 .nw 29 [(128, q.map vu8)], .blk b_1 .nw 29 [(128, (Go.Sh.mix (gx p q) p i).map vu8)]]) (.q 0 (.q 1 (.q 2 (.q 3 (.q 4 (.q 5 (.q 6 (.q 7 (.q 8 (.s 9 .nil)))))))))) (by kernel_rfl) (by kernel_rfl) rfl (by kernel_rfl) (fun w_16 hc_18 => (SL.cons ((h_11.same hc_18).ok _ M0) (SL.cons ((h_11.same hc_18).ok _ M1) (SL.cons ((h_11.same hc_18).ok _ M2) (SL.nil _ _))))) (fun w_16 hc_18 => ?_)
  have h_17 := h_11.same hc_18
  refine ZT.q rfl (Wn.no rfl) rfl rfl (fun wq hS => R.move (v := (vn i)) rfl) ?_
  refine ZT.q rfl (Wn.no rfl) rfl rfl (fun wq hS => R.move (v := (vn i)) rfl) ?_
  refine ZT.q rfl (Wn.no rfl) rfl rfl (fun wq hS => R.indexA (b := b_1) (off := 0) (off' := (0 + i)) (i := i) rfl rfl rfl (by omega) underlying29 sizeOf5 (by rw [Nat.mul_one])) ?_
  refine ZT.q rfl (Wn.no rfl) rfl rfl (fun wq hS => R.loadE (b := b_1) (off := (0 + i)) (i := i) (v := (vu8 ((Go.Sh.mix (gx p q) p i).getD i 0))) rfl isAgg5 (hS _ M2) Sg.h rfl (get_u8 (lt_len (K := 128) (Go.Sh.mix_len (gx_len hp hq) hp) (by omega)))) ?_
  refine ZT.q rfl (Wn.no rfl) rfl rfl (fun wq hS => R.move (v := (vn i)) rfl) ?_
  refine ZT.q rfl (Wn.no rfl) rfl rfl (fun wq hS => R.indexA (b := b_4) (off := 0) (off' := (0 + i)) (i := i) rfl rfl rfl (by omega) underlying29 sizeOf5 (by rw [Nat.mul_one])) ?_
  refine ZT.q rfl (Wn.no rfl) rfl rfl (fun wq hS => R.loadE (b := b_4) (off := (0 + i)) (i := i) (v := (vu8 (q.getD i 0))) rfl isAgg5 (hS _ M1) Sg.h rfl (get_u8 (lt_len (K := 128) hq (by omega)))) ?_
  refine ZT.q rfl (Wn.no rfl) rfl rfl (fun wq hS => R.bin rfl rfl (b8_xor ((Go.Sh.mix (gx p q) p i).getD i 0) (q.getD i 0))) ?_
  refine ZT.q rfl (Wn.no rfl) rfl rfl (fun wq hS => R.indexA (b := b_1) (off := 0) (off' := (0 + i)) (i := i) rfl rfl rfl (by omega) underlying29 sizeOf5 (by rw [Nat.mul_one])) ?_
  refine ZT.s ?_
  refine OpZ.last rfl (Wn.no rfl) ?_
  refine WL.storeE (b := b_1) (off := (0 + i)) (i := i) (v := (vu8 (((Go.Sh.mix (gx p q) p i).getD i 0) ^^^ (q.getD i 0)))) (cs' := ((Go.Sh.mix (gx p q) p i).set i (((Go.Sh.mix (gx p q) p i).getD i 0) ^^^ (q.getD i 0))).map vu8) h_17 rfl rfl sizeOf5 rfl Y2 (by decide) Sg.h rfl (lt_len (K := 128) (len_map (Go.Sh.mix_len (gx_len hp hq) hp)) (by omega)) (set_u8 _ _ _) (fun w_19 h_20 => ?_)
  refine WL.nil (ZT.nil (inb_n (thn_n (WP.reg ?_))))
  refine qM (vn i) rfl rfl (qV rfl (R.bin rfl rfl (bi_add (c := ((i + 1 : Nat) : Int)) (by omega) (by omega))) (qA (vn (i + 1)) rfl rfl ?_))
  refine WL.nil (thn_n ?_)
  have h_23 := ((h_20.up J2).up J2).up J2
  rw [gx_step hp hq (by omega)] at h_23
  exact ⟨i + 1, _, (by omega), (U2 rfl rfl (U4 rfl rfl rfl rfl (U4 rfl rfl rfl rfl (U4 rfl rfl rfl rfl (Ag.updL rfl (Ag.mix _ _ _)))))), ⟨rfl, trivial⟩, h_23, (by omega), rfl⟩
 ·have p_24 := of_decide_eq_false c_14
  refine WP.exit (thn_x (thn_x (inb_hit (thn_n (WP.seq (WP.reg ?_))))))
  refine qV rfl (R.loadA [] [(128, (Go.Sh.mix (gx p q) p i).map vu8)] [] (cs := (Go.Sh.mix (gx p q) p i).map vu8) rfl isAgg29 sizeOf29 (h_11.ok _ M2) rfl rfl rfl rfl) ?_
  refine WL.storeA [] [(128, (zB 128).map vu8)] [(128, (Go.Sh.mix (gx p q) p i).map vu8)] [] h_11 rfl rfl sizeOf29 At.h (by decide) rfl rfl rfl rfl rfl rfl (sC (s8 (Go.Sh.mix_len (gx_len hp hq) hp)) sN) (fun w_25 h_26 => ?_)
  refine WL.nil (thn_n (WP.ret ?_))
  refine ret_of results70 (RV.cell rfl (h_26.loadA (cs := (Go.Sh.mix (gx p q) p i).map vu8) isAgg29 sizeOf29 M0 rfl rfl) RV.nil) ?_
  have hi2 : i = 128 := by omega
  subst hi2
  exact ⟨by rw [gx_all hp hq]; rfl, h_26.chgS⟩

theorem c_bword (x : UInt64) (w : World) :
  Cs Tryz.prog 96 [(vu64 x)].toArray w (fun v w1 => ∃ a cap, v = .slice a 8 cap ∧ Chg w w1 [] ∧ Own w.heap.size w1 5 1 a 8 cap ((leN 8 x.toNat).map vu8)) := by
 refine Cs.of (n := 11) (args := [(vu64 x)]) Tryz.func96 rfl rfl rfl ?_
 have h_0 := HP.init w
 refine WP.seq (WP.reg ?_)
 refine qA (.slice none 0 0) rfl rfl ?_
 refine WL.nil (thn_n (WP.seq (WP.reg ?_)))
 refine qM (vu64 x) rfl rfl ?_
 refine WL.call Tryz.call73 rfl rfl (c_Put_b x 8 rfl _) rfl ?_
 rintro _ w_3 ⟨a_1, cap_2, rfl, hc_4, ho_5⟩
 have h_6 := h_0.gotRow hc_4 ho_5
 refine qM (.tuple [(.slice a_1 8 cap_2), (vi 0)].toArray) rfl rfl (qV rfl (R.extract rfl rfl) (qV rfl (R.extract rfl rfl) (qA (.slice a_1 8 cap_2) rfl rfl (qA (vi 0) rfl rfl ?_))))
 refine WL.nil (thn_n (WP.seq (WP.reg ?_)))
 refine qM (.slice a_1 8 cap_2) rfl rfl (qA (.slice a_1 8 cap_2) rfl rfl ?_)
 refine WL.nil (thn_n (WP.ret ?_))
 refine ret_of results96 (RV.tmp (v := (.slice a_1 8 cap_2)) rfl RV.nil) ?_
 exact ⟨_, _, rfl, h_6.chgS, h_6.ok _ M0⟩

theorem c_bask_nil (pg : Int) (ct : UInt64) (w : World) :
  Cs Tryz.prog 94 [(.pointer none), (vi pg), (vu64 ct)].toArray w (fun v w1 => v = (vi 1) ∧ Chg w w1 []) := by
 refine Cs.of (n := 29) (args := [(.pointer none), (vi pg), (vu64 ct)]) Tryz.func94 rfl rfl rfl ?_
 have h_0 := HP.init w
 refine WP.seq (WP.reg ?_)
 refine qA (vi 0) rfl rfl ?_
 refine WL.nil (thn_n (WP.seq (WP.seq (WP.reg ?_))))
 refine qM (.pointer none) rfl rfl (qV rfl (R.buildS (pl := [(0, 1), (1, 32), (33, 1), (34, 1)]) (zs := [(1, [(vi 0)]), (32, (zB 32).map vu8), (1, [(vi 0)]), (1, [(.slice none 0 0)])]) (vs := []) (out := [(1, [(vi 0)]), (32, (zB 32).map vu8), (1, [(vi 0)]), (1, [(.slice none 0 0)])]) underlying90 (zv typeInfo90 rfl) rfl (sC sV (sC (s8 lr) (sC sV (sC sV sN)))) (pl90 _ underlying90) rfl FillR.nil rfl) ?_)
 refine WL.call Tryz.call50 rfl rfl (c_oAsk_nil 0 0 (zB 32) none 0 0 lr _ ) rfl ?_
 rintro _ w_3 ⟨rfl, hc_2⟩
 have h_4 := h_0.same hc_2
 refine qM (.tuple [(.agg ⟨(zB 32).map vu8⟩), (vi 1)].toArray) rfl rfl (qV rfl (R.extract rfl rfl) (qV rfl (R.extract rfl rfl) ?_))
 refine WL.alloc (segs := [(32, (zB 32).map vu8)]) h_4 (zv typeInfo23 rfl) rfl (sC (s8 lr) sN) rfl (fun b_5 w_6 h_7 => ?_)
 refine WL.storeA [] [(32, (zB 32).map vu8)] [(32, (zB 32).map vu8)] [] h_7 rfl rfl sizeOf23 At.h (by decide) rfl rfl rfl rfl rfl rfl (sC (s8 lr) sN) (fun w_8 h_9 => ?_)
 refine qA (vi 1) rfl rfl ?_
 refine WL.nil (thn_n (WP.block (WP.seq (WP.reg ?_))))
 refine qM (vi 1) rfl rfl (qV rfl (R.bin rfl rfl (bi_eql (r := true) (by decide))) (qA (.bool true) rfl rfl ?_))
 refine WL.nil (thn_n ?_)
 refine WP.condT rfl ?_
 refine WP.seq (WP.reg ?_)
 refine qA (vi 1) rfl rfl ?_
 refine WL.nil (thn_n (WP.ret (inb_r (thn_r ?_))))
 refine ret_of results94 (RV.tmp (v := (vi 1)) rfl RV.nil) ?_
 exact ⟨rfl, h_9.chgS⟩

theorem c_bask_big (id : Bool) (ob mp : Nat) (ms : List UInt8) (hms : ms.length = 32) (da : Option Addr) (dn dc u : Nat) (la : Option Addr) (ln lc : Nat) (pg : Int) (ct : UInt64) (h : 128 ≤ pg) (w : World) (hcb : (Ent.blk ob .ro 118 [(1, [(.bool id)]), (32, ms.map vu8), (1, [(.slice da dn dc)]), (1, [(vi ((u : Nat) : Int))]), (1, [(.map (some mp))]), (1, [(.slice la ln lc)])]).ok w.heap.size w) :
  Cs Tryz.prog 94 [(.pointer (some ⟨ob, 0, none⟩)), (vi pg), (vu64 ct)].toArray w (fun v w1 => v = (vi 2) ∧ Chg w w1 []) := by
 refine Cs.of (n := 29) (args := [(pO ob 0), (vi pg), (vu64 ct)]) Tryz.func94 rfl rfl rfl ?_
 have h_0 := HP.init w
 have h_00 := h_0.old hcb (fun f hf => by cases hf)
 refine WP.seq (WP.reg ?_)
 refine qA (vi 0) rfl rfl ?_
 refine WL.nil (thn_n (WP.seq (WP.seq (WP.reg ?_))))
 refine qM (pO ob 0) rfl rfl (qV rfl (R.buildS (pl := [(0, 1), (1, 32), (33, 1), (34, 1)]) (zs := [(1, [(vi 0)]), (32, (zB 32).map vu8), (1, [(vi 0)]), (1, [(.slice none 0 0)])]) (vs := []) (out := [(1, [(vi 0)]), (32, (zB 32).map vu8), (1, [(vi 0)]), (1, [(.slice none 0 0)])]) underlying90 (zv typeInfo90 rfl) rfl (sC sV (sC (s8 lr) (sC sV (sC sV sN)))) (pl90 _ underlying90) rfl FillR.nil rfl) ?_)
 refine WL.call Tryz.call50 rfl rfl (c_oAsk_0 id ob mp ms hms da dn dc u la ln lc 0 (zB 32) none 0 0 lr _ (h_00.argR M0)) rfl ?_
 rintro _ w_3 ⟨rfl, hc_2⟩
 have h_4 := h_00.same hc_2
 refine qM (.tuple [(.agg ⟨(zB 32).map vu8⟩), (vi 2)].toArray) rfl rfl (qV rfl (R.extract rfl rfl) (qV rfl (R.extract rfl rfl) ?_))
 refine WL.alloc (segs := [(32, (zB 32).map vu8)]) h_4 (zv typeInfo23 rfl) rfl (sC (s8 lr) sN) rfl (fun b_5 w_6 h_7 => ?_)
 refine WL.storeA [] [(32, (zB 32).map vu8)] [(32, (zB 32).map vu8)] [] h_7 rfl rfl sizeOf23 At.h (by decide) rfl rfl rfl rfl rfl rfl (sC (s8 lr) sN) (fun w_8 h_9 => ?_)
 refine qA (vi 2) rfl rfl ?_
 refine WL.nil (thn_n (WP.block (WP.seq (WP.reg ?_))))
 refine qM (vi 2) rfl rfl (qV rfl (R.bin rfl rfl (bi_eql (r := false) (by decide))) (qA (.bool false) rfl rfl ?_))
 refine WL.nil (thn_n ?_)
 refine WP.condF rfl ?_
 refine WP.seq (WP.reg ?_)
 refine qM (vi pg) rfl rfl (qV rfl (R.bin rfl rfl (bi_lss (r := decide ((pg : Int) < 0)) rfl)) (qM (.bool (decide ((pg : Int) < 0))) rfl rfl ?_))
 refine WL.want rfl (congrArg Value.bool (decide_eq_false (by omega))) ?_
 refine qM (vi pg) rfl rfl ?_
 refine WL.want rfl (congrArg Value.bool (decide_eq_false (by omega))) ?_
 refine qV rfl (R.bin rfl rfl (bi_geq (r := decide ((pg : Int) ≥ 128)) rfl)) (qV rfl (R.pickF (v := (.bool (decide ((pg : Int) ≥ 128)))) (congrArg Value.bool (decide_eq_false (by omega))) rfl) (qM (.bool (decide ((pg : Int) ≥ 128))) rfl rfl ?_))
 refine WL.skip rfl (congrArg Value.bool (decide_eq_true (by omega))) rfl ?_
 refine WL.skip rfl (congrArg Value.bool (decide_eq_true (by omega))) rfl ?_
 refine qV rfl (R.pickT (v := (.bool true)) (congrArg Value.bool (decide_eq_true (by omega))) rfl) (qA (.bool true) rfl rfl ?_)
 refine WL.nil (thn_n ?_)
 refine WP.condT rfl ?_
 refine WP.seq (WP.reg ?_)
 refine qA (vi 2) rfl rfl ?_
 refine WL.nil (thn_n (WP.ret (inb_r (thn_r ?_))))
 refine ret_of results94 (RV.tmp (v := (vi 2)) rfl RV.nil) ?_
 exact ⟨rfl, h_9.chgS⟩

theorem c_bask_ok (id : Bool) (ob mp : Nat) (ms : List UInt8) (hms : ms.length = 32) (da : Option Addr) (dn dc u : Nat) (la : Option Addr) (ln lc : Nat) (pg : Nat) (ct : UInt64) (h : pg < 128) (hct : ¬ ct > 4294967296) (w : World) (hcb : (Ent.blk ob .ro 118 [(1, [(.bool id)]), (32, ms.map vu8), (1, [(.slice da dn dc)]), (1, [(vi ((u : Nat) : Int))]), (1, [(.map (some mp))]), (1, [(.slice la ln lc)])]).ok w.heap.size w) :
  Cs Tryz.prog 94 [(.pointer (some ⟨ob, 0, none⟩)), (vi ((pg : Nat) : Int)), (vu64 ct)].toArray w (fun v w1 => v = (vi 0) ∧ Chg w w1 []) := by
 refine Cs.of (n := 29) (args := [(pO ob 0), (vn pg), (vu64 ct)]) Tryz.func94 rfl rfl rfl ?_
 have h_0 := HP.init w
 have h_00 := h_0.old hcb (fun f hf => by cases hf)
 refine WP.seq (WP.reg ?_)
 refine qA (vi 0) rfl rfl ?_
 refine WL.nil (thn_n (WP.seq (WP.seq (WP.reg ?_))))
 refine qM (pO ob 0) rfl rfl (qV rfl (R.buildS (pl := [(0, 1), (1, 32), (33, 1), (34, 1)]) (zs := [(1, [(vi 0)]), (32, (zB 32).map vu8), (1, [(vi 0)]), (1, [(.slice none 0 0)])]) (vs := []) (out := [(1, [(vi 0)]), (32, (zB 32).map vu8), (1, [(vi 0)]), (1, [(.slice none 0 0)])]) underlying90 (zv typeInfo90 rfl) rfl (sC sV (sC (s8 lr) (sC sV (sC sV sN)))) (pl90 _ underlying90) rfl FillR.nil rfl) ?_)
 refine WL.call Tryz.call50 rfl rfl (c_oAsk_0 id ob mp ms hms da dn dc u la ln lc 0 (zB 32) none 0 0 lr _ (h_00.argR M0)) rfl ?_
 rintro _ w_3 ⟨rfl, hc_2⟩
 have h_4 := h_00.same hc_2
 refine qM (.tuple [(.agg ⟨(zB 32).map vu8⟩), (vi 2)].toArray) rfl rfl (qV rfl (R.extract rfl rfl) (qV rfl (R.extract rfl rfl) ?_))
 refine WL.alloc (segs := [(32, (zB 32).map vu8)]) h_4 (zv typeInfo23 rfl) rfl (sC (s8 lr) sN) rfl (fun b_5 w_6 h_7 => ?_)
 refine WL.storeA [] [(32, (zB 32).map vu8)] [(32, (zB 32).map vu8)] [] h_7 rfl rfl sizeOf23 At.h (by decide) rfl rfl rfl rfl rfl rfl (sC (s8 lr) sN) (fun w_8 h_9 => ?_)
 refine qA (vi 2) rfl rfl ?_
 refine WL.nil (thn_n (WP.block (WP.seq (WP.reg ?_))))
 refine qM (vi 2) rfl rfl (qV rfl (R.bin rfl rfl (bi_eql (r := false) (by decide))) (qA (.bool false) rfl rfl ?_))
 refine WL.nil (thn_n ?_)
 refine WP.condF rfl ?_
 refine WP.seq (WP.reg ?_)
 refine qM (vn pg) rfl rfl (qV rfl (R.bin rfl rfl (bi_lss (r := decide ((((pg : Nat) : Int) : Int) < 0)) rfl)) (qM (.bool (decide ((((pg : Nat) : Int) : Int) < 0))) rfl rfl ?_))
 refine WL.want rfl (congrArg Value.bool (decide_eq_false (by omega))) ?_
 refine qM (vn pg) rfl rfl ?_
 refine WL.want rfl (congrArg Value.bool (decide_eq_false (by omega))) ?_
 refine qV rfl (R.bin rfl rfl (bi_geq (r := decide ((((pg : Nat) : Int) : Int) ≥ 128)) rfl)) (qV rfl (R.pickF (v := (.bool (decide ((((pg : Nat) : Int) : Int) ≥ 128)))) (congrArg Value.bool (decide_eq_false (by omega))) rfl) (qM (.bool (decide ((((pg : Nat) : Int) : Int) ≥ 128))) rfl rfl ?_))
 refine WL.want rfl (congrArg Value.bool (decide_eq_false (by omega))) ?_
 refine qM (vu64 ct) rfl rfl ?_
 refine WL.want rfl (congrArg Value.bool (decide_eq_false (by omega))) ?_
 refine qV rfl (R.bin (v := (.bool (decide ((ct : UInt64) > 4294967296)))) rfl rfl (b64_gtr ct 4294967296 (r := decide ((ct : UInt64) > 4294967296)) rfl)) (qV rfl (R.pickF (v := (.bool (decide ((ct : UInt64) > 4294967296)))) (congrArg Value.bool (decide_eq_false (by omega))) rfl) (qA (.bool (decide ((ct : UInt64) > 4294967296))) rfl rfl ?_))
 refine WL.nil (thn_n ?_)
 refine WP.condF (congrArg Value.bool (decide_eq_false hct)) ?_
 refine WP.skip (inb_n (thn_n (WP.seq (WP.reg ?_))))
 refine qA (vi 0) rfl rfl ?_
 refine WL.nil (thn_n (WP.ret ?_))
 refine ret_of results94 (RV.tmp (v := (vi 0)) rfl RV.nil) ?_
 exact ⟨rfl, h_9.chgS⟩

theorem c_Seal1 {w00 : World} {L : List Ent} (id : Bool) (ob mp : Nat) (ms df : List UInt8) (hms : ms.length = 32) (da : Option Addr) (dn dc u : Nat) (hdf : df.length = 32 * dn) (la : Option Addr) (lc : Nat) (lx : List Value) (lg : Lg) (hu : u ≤ 500000) (hlg : lg.length ≤ 500000) (data : List UInt8) (qa : Option Addr) (qn qc : Nat) (hdl : data.length = qn) (hqn : qn ≤ 100000) (key pl : List UInt8) (hk : key.length = 32) (hpl : pl.length = 128) (b1 b2 b3 : Nat) (w : World) (h_0 : HP w00 w (Ent.blk ob .nw 118 [(1, [(.bool id)]), (32, ms.map vu8), (1, [(.slice da dn dc)]), (1, [(vi ((u : Nat) : Int))]), (1, [(.map (some mp))]), (1, [(.slice la lg.length lc)])] :: Ent.row la lg.length lc 96 67 lx :: Ent.obj mp .nw (.map (mArr lg) lg.length) :: Ent.pin (sblks lx) (fun w => Lgs w lx lg) :: Ent.view da (df.map vu8) :: Ent.view qa (data.map vu8) :: Ent.blk b1 .nw 31 [(1, [(.pointer (some ⟨ob, 0, none⟩))])] :: Ent.blk b2 .nw 23 [(32, key.map vu8)] :: Ent.blk b3 .nw 29 [(128, pl.map vu8)] :: L)) :
  Cs Tryz.prog 67 [(.slice qa qn qc), (.pointer (some ⟨b1, 0, none⟩)), (.pointer (some ⟨b2, 0, none⟩)), (.pointer (some ⟨b3, 0, none⟩))].toArray w (fun v w1 => ∃ la' lc' lx', v = (.tuple [(.agg ⟨(gx pl (gSt id df dn key 10 data u lg).2.2).map vu8⟩), (vi 0)].toArray) ∧ HP w00 w1 (Ent.blk ob .nw 118 [(1, [(.bool id)]), (32, ms.map vu8), (1, [(.slice da dn dc)]), (1, [(vi (((gSt id df dn key 10 data u lg).1 : Nat) : Int))]), (1, [(.map (some mp))]), (1, [(.slice la' ((gSt id df dn key 10 data u lg).2.1.length) lc')])] :: Ent.row la' ((gSt id df dn key 10 data u lg).2.1.length) lc' 96 67 lx' :: Ent.obj mp .nw (.map (mArr ((gSt id df dn key 10 data u lg).2.1)) ((gSt id df dn key 10 data u lg).2.1.length)) :: Ent.pin (sblks lx') (fun w => Lgs w lx' ((gSt id df dn key 10 data u lg).2.1)) :: Ent.view da (df.map vu8) :: Ent.view qa (data.map vu8) :: Ent.blk b1 .nw 31 [(1, [(.pointer (some ⟨ob, 0, none⟩))])] :: Ent.blk b2 .nw 23 [(32, key.map vu8)] :: Ent.blk b3 .nw 29 [(128, pl.map vu8)] :: L)) := by
 refine Cs.of (n := 26) (args := [(.slice qa qn qc), (pO b1 0), (pO b2 0), (pO b3 0)]) Tryz.func67 rfl rfl rfl ?_
 refine WP.seq (WP.reg ?_)
 refine WL.alloc (segs := [(128, (zB 128).map vu8)]) h_0 (zv typeInfo29 rfl) rfl (sC (s8 lr) sN) rfl (fun b_1 w_2 h_3 => ?_)
 refine qA (vi 0) rfl rfl ?_
 refine WL.nil (thn_n (WP.seq (WP.reg ?_)))
 refine qV rfl (R.load1 rfl isAgg31 (h_3.ok _ M7) Sg.h) (qV rfl (R.loadA [] [(32, key.map vu8)] [] (cs := key.map vu8) rfl isAgg23 sizeOf23 (h_3.ok _ M8) rfl rfl rfl rfl) (qM (.slice qa qn qc) rfl rfl (qV rfl (R.buildS (pl := [(0, 1), (1, 32), (33, 1), (34, 1)]) (zs := [(1, [(vi 0)]), (32, (zB 32).map vu8), (1, [(vi 0)]), (1, [(.slice none 0 0)])]) (vs := [(0, (vi 4)), (1, (.agg ⟨key.map vu8⟩)), (2, (vi 10)), (3, (.slice qa qn qc))]) (out := [(1, [(vi 4)]), (32, key.map vu8), (1, [(vi 10)]), (1, [(.slice qa qn qc)])]) underlying90 (zv typeInfo90 rfl) rfl (sC sV (sC (s8 lr) (sC sV (sC sV sN)))) (pl90 _ underlying90) rfl (FillR.cons [] [(1, [(vi 0)])] [(1, [(vi 4)])] [(32, (zB 32).map vu8), (1, [(vi 0)]), (1, [(.slice none 0 0)])] rfl rfl rfl rfl (sC sV sN) rfl rfl rfl (FillR.cons [(1, [(vi 4)])] [(32, (zB 32).map vu8)] [(32, key.map vu8)] [(1, [(vi 0)]), (1, [(.slice none 0 0)])] rfl rfl rfl rfl (sC (s8 hk) sN) rfl rfl rfl (FillR.cons [(1, [(vi 4)]), (32, key.map vu8)] [(1, [(vi 0)])] [(1, [(vi 10)])] [(1, [(.slice none 0 0)])] rfl rfl rfl rfl (sC sV sN) rfl rfl rfl (FillR.cons [(1, [(vi 4)]), (32, key.map vu8), (1, [(vi 10)])] [(1, [(.slice none 0 0)])] [(1, [(.slice qa qn qc)])] [] rfl rfl rfl rfl (sC sV sN) rfl rfl rfl FillR.nil)))) rfl) ?_)))
 have h_10 := (((((h_3.up J6).up J6).up J6).up J6).up J6).up J6
 have h32_w_15 := Lgs.ok32 (h_10.ok _ M3).1
 refine WL.call Tryz.call68 rfl rfl (c_gStream id ob mp ms df hms da dn dc u hdf la lc lx lg (by omega) (by omega) 10 key data qa qn qc hk (by omega) hdl (by omega) _ h_10) rfl ?_
 rintro _ w_15 ⟨a_11, la_12, lc_13, lx_14, rfl, h_16⟩
 refine qM (.tuple [(.slice a_11 128 128), (vi 0)].toArray) rfl rfl (qV rfl (R.extract rfl rfl) (qV rfl (R.extract rfl rfl) (qA (.slice a_11 128 128) rfl rfl (qA (vi 0) rfl rfl ?_))))
 refine WL.nil (thn_n (WP.seq (WP.seq (WP.reg ?_))))
 refine qM (vi 0) rfl rfl (qV rfl (R.bin rfl rfl (bi_neq (r := false) (by decide))) ?_)
 refine WL.nil (thn_n ?_)
 refine WP.condF rfl ?_
 refine WP.skip (thn_n (WP.seq ?_))
 refine WP.cutG (G := Nat) [6, 21, 22, 23, 24, 25] (fun bY4Y2Y0Y0 => [(6, (vi 0)), (22, (.slice (some ⟨bY4Y2Y0Y0, 0, none⟩) 128 128)), (23, (.pointer (some (gA (some ⟨bY4Y2Y0Y0, 0, none⟩) 0)))), (21, (.agg ⟨pl.map vu8⟩)), (24, (.agg ⟨((gSt id df dn key 10 data u lg).2.2).map vu8⟩)), (25, (.agg ⟨(gx pl ((gSt id df dn key 10 data u lg).2.2)).map vu8⟩))]) (fun bY4Y2Y0Y0 w1 => HP w00 w1 (Ent.row (some ⟨bY4Y2Y0Y0, 0, none⟩) 128 128 5 1 (((gSt id df dn key 10 data u lg).2.2).map vu8) :: Ent.blk ob .nw 118 [(1, [(.bool id)]), (32, ms.map vu8), (1, [(.slice da dn dc)]), (1, [(vn ((gSt id df dn key 10 data u lg).1))]), (1, [(.map (some mp))]), (1, [(.slice la_12 ((gSt id df dn key 10 data u lg).2.1.length) lc_13)])] :: Ent.row la_12 ((gSt id df dn key 10 data u lg).2.1.length) lc_13 96 67 lx_14 :: Ent.obj mp .nw (.map (mArr ((gSt id df dn key 10 data u lg).2.1)) ((gSt id df dn key 10 data u lg).2.1.length)) :: Ent.pin (sblks lx_14) (fun w => Lgs w lx_14 ((gSt id df dn key 10 data u lg).2.1)) :: Ent.view da (df.map vu8) :: Ent.view qa (data.map vu8) :: Ent.blk b_1 .nw 29 [(128, (gx pl ((gSt id df dn key 10 data u lg).2.2)).map vu8)] :: Ent.blk b1 .nw 31 [(1, [(pO ob 0)])] :: Ent.blk b2 .nw 23 [(32, key.map vu8)] :: Ent.blk b3 .nw 29 [(128, pl.map vu8)] :: L)) ?_ ?_
 ·refine WP.drawT (SL w00.heap.size []) (.q 1 (.q 2 (.s2 0 3 (.s 3 (.s 4 (.s 5 (.q 6 .nil)))) (.s 0 (.s 4 (.s 5 (.q 6 .nil))))))) (by kernel_rfl) (by kernel_rfl) rfl (by kernel_rfl) (fun w_17 hc_19 => (SL.nil _ _)) (fun w_17 hc_19 => ?_)
  have h_18 := h_16.same hc_19
  refine qT rfl rfl (fun wq hS => R.move (v := (.slice a_11 128 128)) rfl) ?_
  obtain ⟨b_20, rr_21, ha_22, hb_23, hc_24⟩ := Own.open (h_18.own M0) (by decide)
  subst ha_22
  refine qT rfl rfl (fun wq hS => R.s2ap (a := (some ⟨b_20, 0, none⟩)) (k := 128) rfl underlying29 (by decide)) ?_
  refine WT.s2 ?_ ?_
  ·refine oN rfl ?_
   refine qV rfl (R.loadA [] [(128, pl.map vu8)] [] (cs := pl.map vu8) rfl isAgg29 sizeOf29 (h_18.ok _ M10) rfl rfl rfl rfl) ?_
   refine WL.nil ?_
   refine ⟨(SL.nil _ _), ?_⟩
   refine WT.s (oN rfl ?_)
   refine qV rfl (R.loadGA (a := (some ⟨b_20, 0, none⟩)) (i := 0) (xs := ((gSt id df dn key 10 data u lg).2.2).map vu8) (cs := ((gSt id df dn key 10 data u lg).2.2).map vu8) rfl (ownView (h_18.ok _ M0)) isAgg29 sizeOf29 (by rw [List.drop_zero, List.take_of_length_le (by rw [len_map (gSt_len hdf h32_w_15)]; exact Nat.le_refl _)]) (len_map (gSt_len hdf h32_w_15)) (by decide)) ?_
   refine WL.nil ?_
   refine ⟨(SL.nil _ _), ?_⟩
   refine WT.s (oN rfl ?_)
   refine WL.call Tryz.call55 rfl rfl (c_Mix pl ((gSt id df dn key 10 data u lg).2.2) hpl (gSt_len hdf h32_w_15) _ ) rfl ?_
   rintro _ w_26 ⟨rfl, hc_25⟩
   have h_27 := h_18.same hc_25
   refine WL.nil ?_
   refine ⟨(SL.nil _ _), ?_⟩
   refine WT.s (oN rfl ?_)
   refine WL.storeA [] [(128, (zB 128).map vu8)] [(128, (gx pl ((gSt id df dn key 10 data u lg).2.2)).map vu8)] [] h_27 rfl rfl sizeOf29 Y7 (by decide) rfl rfl rfl rfl rfl rfl (sC (s8 (gx_len hpl (gSt_len hdf h32_w_15))) sN) (fun w_28 h_29 => ?_)
   refine WL.nil ?_
   refine ⟨(SL.nil _ _), ?_⟩
   refine qT rfl rfl (fun wq hS => R.assign (v := (vi 0)) rfl) ?_
   refine WT.nil (thn_n ?_)
   exact ⟨b_20, (U2 rfl rfl (U4 rfl rfl rfl rfl (Ag.refl _ _))), ⟨rfl, rfl, rfl, rfl, rfl, rfl, trivial⟩, h_29⟩
  ·refine oN rfl ?_
   refine qV rfl (R.loadGA (a := (some ⟨b_20, 0, none⟩)) (i := 0) (xs := ((gSt id df dn key 10 data u lg).2.2).map vu8) (cs := ((gSt id df dn key 10 data u lg).2.2).map vu8) rfl (ownView (h_18.ok _ M0)) isAgg29 sizeOf29 (by rw [List.drop_zero, List.take_of_length_le (by rw [len_map (gSt_len hdf h32_w_15)]; exact Nat.le_refl _)]) (len_map (gSt_len hdf h32_w_15)) (by decide)) ?_
   refine WL.nil ?_
   refine ⟨(SL.nil _ _), ?_⟩
   refine WT.s (oN rfl ?_)
   refine qV rfl (R.loadA [] [(128, pl.map vu8)] [] (cs := pl.map vu8) rfl isAgg29 sizeOf29 (h_18.ok _ M10) rfl rfl rfl rfl) ?_
   refine WL.nil ?_
   refine ⟨(SL.nil _ _), ?_⟩
   refine WT.s (oN rfl ?_)
   refine WL.call Tryz.call55 rfl rfl (c_Mix pl ((gSt id df dn key 10 data u lg).2.2) hpl (gSt_len hdf h32_w_15) _ ) rfl ?_
   rintro _ w_31 ⟨rfl, hc_30⟩
   have h_32 := h_18.same hc_30
   refine WL.nil ?_
   refine ⟨(SL.nil _ _), ?_⟩
   refine WT.s (oN rfl ?_)
   refine WL.storeA [] [(128, (zB 128).map vu8)] [(128, (gx pl ((gSt id df dn key 10 data u lg).2.2)).map vu8)] [] h_32 rfl rfl sizeOf29 Y7 (by decide) rfl rfl rfl rfl rfl rfl (sC (s8 (gx_len hpl (gSt_len hdf h32_w_15))) sN) (fun w_33 h_34 => ?_)
   refine WL.nil ?_
   refine ⟨(SL.nil _ _), ?_⟩
   refine qT rfl rfl (fun wq hS => R.assign (v := (vi 0)) rfl) ?_
   refine WT.nil (thn_n ?_)
   exact ⟨b_20, (U2 rfl rfl (U4 rfl rfl rfl rfl (Ag.refl _ _))), ⟨rfl, rfl, rfl, rfl, rfl, rfl, trivial⟩, h_34⟩
 ·rintro b_38 J_35 w_36 h_37
  refine thn_n (WP.ret ?_)
  refine ret_of results67 (RV.cell rfl (h_37.loadA (cs := (gx pl ((gSt id df dn key 10 data u lg).2.2)).map vu8) isAgg29 sizeOf29 M7 rfl rfl) (RV.tmp (v := (vi 0)) rfl RV.nil)) ?_
  have h_50 := (((((((((((h_37.drop rfl).up J6).drop rfl).up J8).up J8).up J8).up J8).up J8).up J8).up J8).up J8).up J8
  exact ⟨_, _, _, rfl, h_50⟩

theorem c_withG_nil (pg : Int) (ct : UInt64) (fv : Value) (w : World) :
  Cs Tryz.prog 66 [(.pointer none), (vi pg), (vu64 ct), fv].toArray w (fun v w1 => v = (.tuple [(.agg ⟨(List.replicate 128 (0 : UInt8)).map vu8⟩), (vi 1)].toArray) ∧ Chg w w1 []) := by
 refine Cs.of (n := 30) (args := [(.pointer none), (vi pg), (vu64 ct), fv]) Tryz.func66 rfl rfl rfl ?_
 have h_0 := HP.init w
 refine WP.seq (WP.reg ?_)
 refine WL.alloc (segs := [(128, (zB 128).map vu8)]) h_0 (zv typeInfo29 rfl) rfl (sC (s8 lr) sN) rfl (fun b_1 w_2 h_3 => ?_)
 refine qA (vi 0) rfl rfl ?_
 refine WL.nil (thn_n (WP.seq (WP.seq (WP.reg ?_))))
 refine qM (.pointer none) rfl rfl (qM (vi pg) rfl rfl (qM (vu64 ct) rfl rfl ?_))
 refine WL.call Tryz.call94 rfl rfl (c_bask_nil pg ct _ ) rfl ?_
 rintro _ w_5 ⟨rfl, hc_4⟩
 have h_6 := h_3.same hc_4
 refine qA (vi 1) rfl rfl ?_
 refine WL.nil (thn_n (WP.seq (WP.reg ?_)))
 refine qM (vi 1) rfl rfl (qV rfl (R.bin rfl rfl (bi_neq (r := true) (by decide))) ?_)
 refine WL.nil (thn_n ?_)
 refine WP.condT rfl ?_
 refine WP.seq (WP.reg ?_)
 refine qV rfl (R.loadA [] [(128, (zB 128).map vu8)] [] (cs := (zB 128).map vu8) rfl isAgg29 sizeOf29 (h_6.ok _ M0) rfl rfl rfl rfl) (qM (vi 1) rfl rfl ?_)
 refine WL.storeA [] [(128, (zB 128).map vu8)] [(128, (zB 128).map vu8)] [] h_6 rfl rfl sizeOf29 At.h (by decide) rfl rfl rfl rfl rfl rfl (sC (s8 lr) sN) (fun w_7 h_8 => ?_)
 refine qA (vi 1) rfl rfl ?_
 refine WL.nil (thn_n (WP.ret (thn_r ?_)))
 refine ret_of results66 (RV.cell rfl (h_8.loadA (cs := (zB 128).map vu8) isAgg29 sizeOf29 M0 rfl rfl) (RV.tmp (v := (vi 1)) rfl RV.nil)) ?_
 exact ⟨rfl, h_8.chgS⟩

theorem c_withG_big (id : Bool) (ob mp : Nat) (ms : List UInt8) (hms : ms.length = 32) (da : Option Addr) (dn dc u : Nat) (la : Option Addr) (ln lc : Nat) (pg : Int) (ct : UInt64) (fv : Value) (h : 128 ≤ pg) (w : World) (hcb : (Ent.blk ob .ro 118 [(1, [(.bool id)]), (32, ms.map vu8), (1, [(.slice da dn dc)]), (1, [(vi ((u : Nat) : Int))]), (1, [(.map (some mp))]), (1, [(.slice la ln lc)])]).ok w.heap.size w) :
  Cs Tryz.prog 66 [(.pointer (some ⟨ob, 0, none⟩)), (vi pg), (vu64 ct), fv].toArray w (fun v w1 => v = (.tuple [(.agg ⟨(List.replicate 128 (0 : UInt8)).map vu8⟩), (vi 2)].toArray) ∧ Chg w w1 []) := by
 refine Cs.of (n := 30) (args := [(pO ob 0), (vi pg), (vu64 ct), fv]) Tryz.func66 rfl rfl rfl ?_
 have h_0 := HP.init w
 have h_00 := h_0.old hcb (fun f hf => by cases hf)
 refine WP.seq (WP.reg ?_)
 refine WL.alloc (segs := [(128, (zB 128).map vu8)]) h_00 (zv typeInfo29 rfl) rfl (sC (s8 lr) sN) rfl (fun b_1 w_2 h_3 => ?_)
 refine qA (vi 0) rfl rfl ?_
 refine WL.nil (thn_n (WP.seq (WP.seq (WP.reg ?_))))
 refine qM (pO ob 0) rfl rfl (qM (vi pg) rfl rfl (qM (vu64 ct) rfl rfl ?_))
 refine WL.call Tryz.call94 rfl rfl (c_bask_big id ob mp ms hms da dn dc u la ln lc pg ct (by omega) _ (h_3.argR M1)) rfl ?_
 rintro _ w_5 ⟨rfl, hc_4⟩
 have h_6 := h_3.same hc_4
 refine qA (vi 2) rfl rfl ?_
 refine WL.nil (thn_n (WP.seq (WP.reg ?_)))
 refine qM (vi 2) rfl rfl (qV rfl (R.bin rfl rfl (bi_neq (r := true) (by decide))) ?_)
 refine WL.nil (thn_n ?_)
 refine WP.condT rfl ?_
 refine WP.seq (WP.reg ?_)
 refine qV rfl (R.loadA [] [(128, (zB 128).map vu8)] [] (cs := (zB 128).map vu8) rfl isAgg29 sizeOf29 (h_6.ok _ M0) rfl rfl rfl rfl) (qM (vi 2) rfl rfl ?_)
 refine WL.storeA [] [(128, (zB 128).map vu8)] [(128, (zB 128).map vu8)] [] h_6 rfl rfl sizeOf29 At.h (by decide) rfl rfl rfl rfl rfl rfl (sC (s8 lr) sN) (fun w_7 h_8 => ?_)
 refine qA (vi 2) rfl rfl ?_
 refine WL.nil (thn_n (WP.ret (thn_r ?_)))
 refine ret_of results66 (RV.cell rfl (h_8.loadA (cs := (zB 128).map vu8) isAgg29 sizeOf29 M0 rfl rfl) (RV.tmp (v := (vi 2)) rfl RV.nil)) ?_
 exact ⟨rfl, h_8.chgS⟩

theorem c_withG {w00 : World} {L : List Ent} (id : Bool) (ob mp : Nat) (ms df : List UInt8) (hms : ms.length = 32) (da : Option Addr) (dn dc u : Nat) (hdf : df.length = 32 * dn) (la : Option Addr) (lc : Nat) (lx : List Value) (lg : Lg) (hu : u ≤ 500000) (hlg : lg.length ≤ 500000) (key pl : List UInt8) (hk : key.length = 32) (hpl : pl.length = 128) (b1 b2 b3 : Nat) (pg : Nat) (ct : UInt64) (h : pg < 128) (hct : ¬ ct > 4294967296) (w : World) (h_0 : HP w00 w (Ent.blk ob .nw 118 [(1, [(.bool id)]), (32, ms.map vu8), (1, [(.slice da dn dc)]), (1, [(vi ((u : Nat) : Int))]), (1, [(.map (some mp))]), (1, [(.slice la lg.length lc)])] :: Ent.row la lg.length lc 96 67 lx :: Ent.obj mp .nw (.map (mArr lg) lg.length) :: Ent.pin (sblks lx) (fun w => Lgs w lx lg) :: Ent.view da (df.map vu8) :: Ent.blk b1 .nw 31 [(1, [(.pointer (some ⟨ob, 0, none⟩))])] :: Ent.blk b2 .nw 23 [(32, key.map vu8)] :: Ent.blk b3 .nw 29 [(128, pl.map vu8)] :: L)) :
  Cs Tryz.prog 66 [(.pointer (some ⟨ob, 0, none⟩)), (vi ((pg : Nat) : Int)), (vu64 ct), (Value.func (Fn.func 67) [].toArray [(Value.pointer (some ⟨b1, 0, none⟩)), (Value.pointer (some ⟨b2, 0, none⟩)), (Value.pointer (some ⟨b3, 0, none⟩))].toArray)].toArray w (fun v w1 => ∃ la' lc' lx', v = (.tuple [(.agg ⟨(gx pl (gSt id df dn key 10 (pcB pg ct) u lg).2.2).map vu8⟩), (vi 0)].toArray) ∧ HP w00 w1 (Ent.blk ob .nw 118 [(1, [(.bool id)]), (32, ms.map vu8), (1, [(.slice da dn dc)]), (1, [(vi (((gSt id df dn key 10 (pcB pg ct) u lg).1 : Nat) : Int))]), (1, [(.map (some mp))]), (1, [(.slice la' ((gSt id df dn key 10 (pcB pg ct) u lg).2.1.length) lc')])] :: Ent.row la' ((gSt id df dn key 10 (pcB pg ct) u lg).2.1.length) lc' 96 67 lx' :: Ent.obj mp .nw (.map (mArr ((gSt id df dn key 10 (pcB pg ct) u lg).2.1)) ((gSt id df dn key 10 (pcB pg ct) u lg).2.1.length)) :: Ent.pin (sblks lx') (fun w => Lgs w lx' ((gSt id df dn key 10 (pcB pg ct) u lg).2.1)) :: Ent.view da (df.map vu8) :: Ent.blk b1 .nw 31 [(1, [(.pointer (some ⟨ob, 0, none⟩))])] :: Ent.blk b2 .nw 23 [(32, key.map vu8)] :: Ent.blk b3 .nw 29 [(128, pl.map vu8)] :: L)) := by
 refine Cs.of (n := 30) (args := [(pO ob 0), (vn pg), (vu64 ct), (Value.func (Fn.func 67) [].toArray [(Value.pointer (some ⟨b1, 0, none⟩)), (Value.pointer (some ⟨b2, 0, none⟩)), (Value.pointer (some ⟨b3, 0, none⟩))].toArray)]) Tryz.func66 rfl rfl rfl ?_
 refine WP.seq (WP.reg ?_)
 refine WL.alloc (segs := [(128, (zB 128).map vu8)]) h_0 (zv typeInfo29 rfl) rfl (sC (s8 lr) sN) rfl (fun b_1 w_2 h_3 => ?_)
 refine qA (vi 0) rfl rfl ?_
 refine WL.nil (thn_n (WP.seq (WP.seq (WP.reg ?_))))
 refine qM (pO ob 0) rfl rfl (qM (vn pg) rfl rfl (qM (vu64 ct) rfl rfl ?_))
 refine WL.call Tryz.call94 rfl rfl (c_bask_ok id ob mp ms hms da dn dc u la lg.length lc pg ct (by omega) hct _ (h_3.argR M1)) rfl ?_
 rintro _ w_5 ⟨rfl, hc_4⟩
 have h_6 := h_3.same hc_4
 refine qA (vi 0) rfl rfl ?_
 refine WL.nil (thn_n (WP.seq (WP.reg ?_)))
 refine qM (vi 0) rfl rfl (qV rfl (R.bin rfl rfl (bi_neq (r := false) (by decide))) ?_)
 refine WL.nil (thn_n ?_)
 refine WP.condF rfl ?_
 refine WP.skip (thn_n (WP.seq (WP.reg ?_)))
 refine qM (Value.func (Fn.func 67) [].toArray [(Value.pointer (some ⟨b1, 0, none⟩)), (Value.pointer (some ⟨b2, 0, none⟩)), (Value.pointer (some ⟨b3, 0, none⟩))].toArray) rfl rfl (qM (vn pg) rfl rfl (qV rfl (R.conv (b := ((UInt64.ofNat pg) : UInt64).toNat) rfl underlying3 underlying27 (w64_nat pg)) ?_))
 refine WL.call Tryz.call96 rfl rfl (c_bword (UInt64.ofNat pg) _) rfl ?_
 rintro _ w_9 ⟨a_7, cap_8, rfl, hc_10, ho_11⟩
 have h_12 := h_6.gotRow hc_10 ho_11
 refine qM (vu64 ct) rfl rfl ?_
 refine WL.call Tryz.call96 rfl rfl (c_bword ct _) rfl ?_
 rintro _ w_15 ⟨a_13, cap_14, rfl, hc_16, ho_17⟩
 have h_18 := h_12.gotRow hc_16 ho_17
 refine WL.buildSl (vs := [(0, (.slice a_7 8 cap_8)), (1, (.slice a_13 8 cap_14))]) (cs := [(.slice a_7 8 cap_8), (.slice a_13 8 cap_14)]) h_18 underlying128 sizeOf88 (zv typeInfo88 rfl) rfl rfl (by kernel_rfl) rfl (by simp [Value.oneCell']) rfl rfl (fun b_19 w_20 h_21 => ?_)
 refine WL.call Tryz.call95 rfl rfl (c_wJoin (some ⟨b_19, 0, none⟩) 2 2 [(.slice a_7 8 cap_8), (.slice a_13 8 cap_14)] [leN 8 (UInt64.ofNat pg).toNat, leN 8 ct.toNat] rfl (by have := pcB_len pg ct; simp only [pcB] at this; omega) (by omega) _ (viewB (h_21.ok _ M0) Sg.h) (Sls.cons (leN_len ..) (h_21.own M2).2.2.1 (ownView (h_21.ok _ M2)) (Sls.cons (leN_len ..) (h_21.own M1).2.2.1 (ownView (h_21.ok _ M1)) Sls.nil))) rfl ?_
 rintro _ w_24 ⟨a_22, cap_23, rfl, hc_25, ho_26⟩
 have h_27 := h_21.gotRow hc_25 ho_26
 have h_28 := h_27.rowView
 have h_37 := ((((((((h_28.up J12).up J12).up J12).up J3).up J12).up J12).up J12).up J12).up J12
 have h32_w_41 := Lgs.ok32 (h_37.ok _ M3).1
 refine WL.call Tryz.call67 rfl rfl (c_Seal1 id ob mp ms df hms da dn dc u hdf la lc lx lg (by omega) (by omega) ([leN 8 (UInt64.ofNat pg).toNat, leN 8 ct.toNat].flatten) a_22 ([leN 8 (UInt64.ofNat pg).toNat, leN 8 ct.toNat].flatten.length) cap_23 (rfl : List.length ([leN 8 (UInt64.ofNat pg).toNat, leN 8 ct.toNat].flatten) = [leN 8 (UInt64.ofNat pg).toNat, leN 8 ct.toNat].flatten.length) (by have := pcB_len pg ct; simp only [pcB] at this; omega) key pl hk hpl b1 b2 b3 _ h_37) rfl ?_
 rintro _ w_41 ⟨la_38, lc_39, lx_40, rfl, h_42⟩
 refine qV rfl (R.extract rfl rfl) (qV rfl (R.extract rfl rfl) ?_)
 refine WL.storeA [] [(128, (zB 128).map vu8)] [(128, (gx pl (gSt id df dn key 10 ([leN 8 (UInt64.ofNat pg).toNat, leN 8 ct.toNat].flatten) u lg).2.2).map vu8)] [] h_42 rfl rfl sizeOf29 Y12 (by decide) rfl rfl rfl rfl rfl rfl (sC (s8 (gx_len hpl (gSt_len hdf h32_w_41))) sN) (fun w_43 h_44 => ?_)
 refine qA (vi 0) rfl rfl ?_
 refine WL.nil (thn_n (WP.ret ?_))
 refine ret_of results66 (RV.cell rfl (h_44.loadA (cs := (gx pl (gSt id df dn key 10 ([leN 8 (UInt64.ofNat pg).toNat, leN 8 ct.toNat].flatten) u lg).2.2).map vu8) isAgg29 sizeOf29 M12 rfl rfl) (RV.tmp (v := (vi 0)) rfl RV.nil)) ?_
 have h_62 := (((((((((((((((((h_44.up J5).drop rfl).up J8).drop rfl).up J8).drop rfl).up J8).drop rfl).up J8).drop rfl).up J7).up J7).up J7).up J7).up J7).up J7).up J7).up J7
 exact ⟨_, _, _, rfl, h_62⟩

theorem c_Seal_nil (key pl : List UInt8) (hk : key.length = 32) (hpl : pl.length = 128) (pg : Int) (ct : UInt64) (w : World) :
  Cs Tryz.prog 20 [(.pointer none), (.agg ⟨key.map vu8⟩), (vi pg), (vu64 ct), (.agg ⟨pl.map vu8⟩)].toArray w (fun v w1 => v = (.tuple [(.agg ⟨(List.replicate 128 (0 : UInt8)).map vu8⟩), (vi 1)].toArray) ∧ Chg w w1 []) := by
 refine Cs.of (n := 19) (args := [(.pointer none), (.agg ⟨key.map vu8⟩), (vi pg), (vu64 ct), (.agg ⟨pl.map vu8⟩)]) Tryz.func20 rfl rfl rfl ?_
 have h_0 := HP.init w
 refine WP.seq (WP.reg ?_)
 refine WL.box (segs := [(1, [(.pointer none)])]) h_0 rfl rfl (sC sV sN) rfl (fun b_1 w_2 h_3 => ?_)
 refine WL.box (segs := [(32, key.map vu8)]) h_3 rfl rfl (sC (s8 hk) sN) rfl (fun b_4 w_5 h_6 => ?_)
 refine WL.box (segs := [(128, pl.map vu8)]) h_6 rfl rfl (sC (s8 hpl) sN) rfl (fun b_7 w_8 h_9 => ?_)
 refine WL.alloc (segs := [(128, (zB 128).map vu8)]) h_9 (zv typeInfo29 rfl) rfl (sC (s8 lr) sN) rfl (fun b_10 w_11 h_12 => ?_)
 refine qA (vi 0) rfl rfl ?_
 refine WL.nil (thn_n (WP.seq (WP.reg ?_)))
 refine qV rfl (R.load1 rfl isAgg31 (h_12.ok _ M3) Sg.h) (qM (vi pg) rfl rfl (qM (vu64 ct) rfl rfl (qV rfl (R.makeFuncL (fi := []) (ca := [(pO b_1 0), (pO b_4 0), (pO b_7 0)]) rfl rfl) ?_)))
 refine WL.call Tryz.call66 rfl rfl (c_withG_nil pg ct (Value.func (Fn.func 67) [].toArray [(Value.pointer (some ⟨b_1, 0, none⟩)), (Value.pointer (some ⟨b_4, 0, none⟩)), (Value.pointer (some ⟨b_7, 0, none⟩))].toArray) _ ) rfl ?_
 rintro _ w_14 ⟨rfl, hc_13⟩
 have h_15 := h_12.same hc_13
 refine qV rfl (R.extract rfl rfl) (qV rfl (R.extract rfl rfl) ?_)
 refine WL.storeA [] [(128, (zB 128).map vu8)] [(128, (zB 128).map vu8)] [] h_15 rfl rfl sizeOf29 At.h (by decide) rfl rfl rfl rfl rfl rfl (sC (s8 lr) sN) (fun w_16 h_17 => ?_)
 refine qA (vi 1) rfl rfl ?_
 refine WL.nil (thn_n (WP.ret ?_))
 refine ret_of results20 (RV.cell rfl (h_17.loadA (cs := (zB 128).map vu8) isAgg29 sizeOf29 M0 rfl rfl) (RV.tmp (v := (vi 1)) rfl RV.nil)) ?_
 exact ⟨rfl, h_17.chgS⟩

theorem c_Seal_big (id : Bool) (ob mp : Nat) (ms : List UInt8) (hms : ms.length = 32) (da : Option Addr) (dn dc u : Nat) (la : Option Addr) (ln lc : Nat) (key pl : List UInt8) (hk : key.length = 32) (hpl : pl.length = 128) (pg : Int) (ct : UInt64) (h : 128 ≤ pg) (w : World) (hcb : (Ent.blk ob .ro 118 [(1, [(.bool id)]), (32, ms.map vu8), (1, [(.slice da dn dc)]), (1, [(vi ((u : Nat) : Int))]), (1, [(.map (some mp))]), (1, [(.slice la ln lc)])]).ok w.heap.size w) :
  Cs Tryz.prog 20 [(.pointer (some ⟨ob, 0, none⟩)), (.agg ⟨key.map vu8⟩), (vi pg), (vu64 ct), (.agg ⟨pl.map vu8⟩)].toArray w (fun v w1 => v = (.tuple [(.agg ⟨(List.replicate 128 (0 : UInt8)).map vu8⟩), (vi 2)].toArray) ∧ Chg w w1 []) := by
 refine Cs.of (n := 19) (args := [(pO ob 0), (.agg ⟨key.map vu8⟩), (vi pg), (vu64 ct), (.agg ⟨pl.map vu8⟩)]) Tryz.func20 rfl rfl rfl ?_
 have h_0 := HP.init w
 have h_00 := h_0.old hcb (fun f hf => by cases hf)
 refine WP.seq (WP.reg ?_)
 refine WL.box (segs := [(1, [(pO ob 0)])]) h_00 rfl rfl (sC sV sN) rfl (fun b_1 w_2 h_3 => ?_)
 refine WL.box (segs := [(32, key.map vu8)]) h_3 rfl rfl (sC (s8 hk) sN) rfl (fun b_4 w_5 h_6 => ?_)
 refine WL.box (segs := [(128, pl.map vu8)]) h_6 rfl rfl (sC (s8 hpl) sN) rfl (fun b_7 w_8 h_9 => ?_)
 refine WL.alloc (segs := [(128, (zB 128).map vu8)]) h_9 (zv typeInfo29 rfl) rfl (sC (s8 lr) sN) rfl (fun b_10 w_11 h_12 => ?_)
 refine qA (vi 0) rfl rfl ?_
 refine WL.nil (thn_n (WP.seq (WP.reg ?_)))
 refine qV rfl (R.load1 rfl isAgg31 (h_12.ok _ M3) Sg.h) (qM (vi pg) rfl rfl (qM (vu64 ct) rfl rfl (qV rfl (R.makeFuncL (fi := []) (ca := [(pO b_1 0), (pO b_4 0), (pO b_7 0)]) rfl rfl) ?_)))
 refine WL.call Tryz.call66 rfl rfl (c_withG_big id ob mp ms hms da dn dc u la ln lc pg ct (Value.func (Fn.func 67) [].toArray [(Value.pointer (some ⟨b_1, 0, none⟩)), (Value.pointer (some ⟨b_4, 0, none⟩)), (Value.pointer (some ⟨b_7, 0, none⟩))].toArray) (by omega) _ (h_12.argR M4)) rfl ?_
 rintro _ w_14 ⟨rfl, hc_13⟩
 have h_15 := h_12.same hc_13
 refine qV rfl (R.extract rfl rfl) (qV rfl (R.extract rfl rfl) ?_)
 refine WL.storeA [] [(128, (zB 128).map vu8)] [(128, (zB 128).map vu8)] [] h_15 rfl rfl sizeOf29 At.h (by decide) rfl rfl rfl rfl rfl rfl (sC (s8 lr) sN) (fun w_16 h_17 => ?_)
 refine qA (vi 2) rfl rfl ?_
 refine WL.nil (thn_n (WP.ret ?_))
 refine ret_of results20 (RV.cell rfl (h_17.loadA (cs := (zB 128).map vu8) isAgg29 sizeOf29 M0 rfl rfl) (RV.tmp (v := (vi 2)) rfl RV.nil)) ?_
 exact ⟨rfl, h_17.chgS⟩

theorem c_Seal {w00 : World} {L : List Ent} (id : Bool) (ob mp : Nat) (ms df : List UInt8) (hms : ms.length = 32) (da : Option Addr) (dn dc u : Nat) (hdf : df.length = 32 * dn) (la : Option Addr) (lc : Nat) (lx : List Value) (lg : Lg) (hu : u ≤ 500000) (hlg : lg.length ≤ 500000) (key pl : List UInt8) (hk : key.length = 32) (hpl : pl.length = 128) (pg : Nat) (ct : UInt64) (h : pg < 128) (hct : ¬ ct > 4294967296) (w : World) (h_0 : HP w00 w (Ent.blk ob .nw 118 [(1, [(.bool id)]), (32, ms.map vu8), (1, [(.slice da dn dc)]), (1, [(vi ((u : Nat) : Int))]), (1, [(.map (some mp))]), (1, [(.slice la lg.length lc)])] :: Ent.row la lg.length lc 96 67 lx :: Ent.obj mp .nw (.map (mArr lg) lg.length) :: Ent.pin (sblks lx) (fun w => Lgs w lx lg) :: Ent.view da (df.map vu8) :: L)) :
  Cs Tryz.prog 20 [(.pointer (some ⟨ob, 0, none⟩)), (.agg ⟨key.map vu8⟩), (vi ((pg : Nat) : Int)), (vu64 ct), (.agg ⟨pl.map vu8⟩)].toArray w (fun v w1 => ∃ la' lc' lx', v = (.tuple [(.agg ⟨(gx pl (gSt id df dn key 10 (pcB pg ct) u lg).2.2).map vu8⟩), (vi 0)].toArray) ∧ HP w00 w1 (Ent.blk ob .nw 118 [(1, [(.bool id)]), (32, ms.map vu8), (1, [(.slice da dn dc)]), (1, [(vi (((gSt id df dn key 10 (pcB pg ct) u lg).1 : Nat) : Int))]), (1, [(.map (some mp))]), (1, [(.slice la' ((gSt id df dn key 10 (pcB pg ct) u lg).2.1.length) lc')])] :: Ent.row la' ((gSt id df dn key 10 (pcB pg ct) u lg).2.1.length) lc' 96 67 lx' :: Ent.obj mp .nw (.map (mArr ((gSt id df dn key 10 (pcB pg ct) u lg).2.1)) ((gSt id df dn key 10 (pcB pg ct) u lg).2.1.length)) :: Ent.pin (sblks lx') (fun w => Lgs w lx' ((gSt id df dn key 10 (pcB pg ct) u lg).2.1)) :: Ent.view da (df.map vu8) :: L)) := by
 refine Cs.of (n := 19) (args := [(pO ob 0), (.agg ⟨key.map vu8⟩), (vn pg), (vu64 ct), (.agg ⟨pl.map vu8⟩)]) Tryz.func20 rfl rfl rfl ?_
 refine WP.seq (WP.reg ?_)
 refine WL.box (segs := [(1, [(pO ob 0)])]) h_0 rfl rfl (sC sV sN) rfl (fun b_1 w_2 h_3 => ?_)
 refine WL.box (segs := [(32, key.map vu8)]) h_3 rfl rfl (sC (s8 hk) sN) rfl (fun b_4 w_5 h_6 => ?_)
 refine WL.box (segs := [(128, pl.map vu8)]) h_6 rfl rfl (sC (s8 hpl) sN) rfl (fun b_7 w_8 h_9 => ?_)
 refine WL.alloc (segs := [(128, (zB 128).map vu8)]) h_9 (zv typeInfo29 rfl) rfl (sC (s8 lr) sN) rfl (fun b_10 w_11 h_12 => ?_)
 refine qA (vi 0) rfl rfl ?_
 refine WL.nil (thn_n (WP.seq (WP.reg ?_)))
 refine qV rfl (R.load1 rfl isAgg31 (h_12.ok _ M3) Sg.h) (qM (vn pg) rfl rfl (qM (vu64 ct) rfl rfl (qV rfl (R.makeFuncL (fi := []) (ca := [(pO b_1 0), (pO b_4 0), (pO b_7 0)]) rfl rfl) ?_)))
 have h_20 := (((((((h_12.up J1).up J2).up J3).up J8).up J8).up J8).up J8).up J8
 have h32_w_24 := Lgs.ok32 (h_20.ok _ M3).1
 refine WL.call Tryz.call66 rfl rfl (c_withG id ob mp ms df hms da dn dc u hdf la lc lx lg (by omega) (by omega) key pl hk hpl b_1 b_4 b_7 pg ct (by omega) hct _ h_20) rfl ?_
 rintro _ w_24 ⟨la_21, lc_22, lx_23, rfl, h_25⟩
 refine qV rfl (R.extract rfl rfl) (qV rfl (R.extract rfl rfl) ?_)
 refine WL.storeA [] [(128, (zB 128).map vu8)] [(128, (gx pl (gSt id df dn key 10 (pcB pg ct) u lg).2.2).map vu8)] [] h_25 rfl rfl sizeOf29 Y8 (by decide) rfl rfl rfl rfl rfl rfl (sC (s8 (gx_len hpl (gSt_len hdf h32_w_24))) sN) (fun w_26 h_27 => ?_)
 refine qA (vi 0) rfl rfl ?_
 refine WL.nil (thn_n (WP.ret ?_))
 refine ret_of results20 (RV.cell rfl (h_27.loadA (cs := (gx pl (gSt id df dn key 10 (pcB pg ct) u lg).2.2).map vu8) isAgg29 sizeOf29 M8 rfl rfl) (RV.tmp (v := (vi 0)) rfl RV.nil)) ?_
 have h_40 := ((((((((((((h_27.up J5).drop rfl).up J5).drop rfl).up J5).drop rfl).up J5).drop rfl).up J4).up J4).up J4).up J4).up J4
 exact ⟨_, _, _, rfl, h_40⟩
end Go.Proofs.YteclkcpdclimnaaGreat

namespace Go.Proofs.YteclkcpdclimnaaGreat
open Go.Proofs.Tryz
open Go.Vc Go.Orc Go.Sh Go.RowKit
set_option maxRecDepth 20000
theorem kt29 : Tryz.prog.keyTypeAt 2 29 = true := by kernel_rfl
theorem ag29 : aggB Tryz.prog 29 = true := by unfold aggB; rw [underlying29]
theorem c_ones (x : UInt8) (w : World) :
  Cs Tryz.prog 54 [(vu8 x)].toArray w (fun v w1 => v = (.agg ⟨(onesL x).map vu8⟩) ∧ Chg w w1 []) := by
 refine Cs.of (n := 13) (args := [(vu8 x)]) Tryz.func54 rfl rfl rfl ?_
 have h_0 := HP.init w
 refine WP.seq (WP.reg ?_)
 refine WL.alloc (segs := [(32, (zB 32).map vu8)]) h_0 (zv typeInfo23 rfl) rfl (sC (s8 lr) sN) rfl (fun b_1 w_2 h_3 => ?_)
 refine WL.nil (thn_n (WP.seq (WP.reg ?_)))
 refine WL.alloc (segs := [(32, (zB 32).map vu8)]) h_3 (zv typeInfo23 rfl) rfl (sC (s8 lr) sN) rfl (fun b_4 w_5 h_6 => ?_)
 refine WL.nil (thn_n (WP.seq (WP.seq (WP.reg ?_))))
 refine qA (vi 0) rfl rfl ?_
 refine WL.nil (thn_n (WP.block ?_))
 refine WP.loopG (G := Nat) [4, 5, 6, 7, 8, 9, 10, 11] (fun i => [(4, (vn i))]) (fun i m w1 => HP w w1 [.blk b_4 .nw 23 [(32, (Go.Sh.mix (onesL x) (List.replicate 32 0) i).map vu8)], .blk b_1 .nw 23 [(32, (zB 32).map vu8)]] ∧ (i ≤ 32) ∧ m = 32 - i) ⟨0, _, ⟨rfl, trivial⟩, (by rw [Go.Sh.mix_0]; exact h_6), (by omega), rfl⟩ ?_
 rintro i m_9 J_10 w_7 ⟨h_8, hi, rfl⟩
 refine WP.seq (WP.seq (WP.reg ?_))
 refine qM (vn i) rfl rfl (qV rfl (R.bin rfl rfl (bi_lss (r := decide ((((i : Nat) : Int) : Int) < 32)) rfl)) ?_)
 refine WL.nil (thn_n ?_)
 refine WP.cond (b := decide ((((i : Nat) : Int) : Int) < 32)) rfl (fun c_11 => ?_) (fun c_11 => ?_)
 ·have p_12 := of_decide_eq_true c_11
  refine WP.skip (thn_n (WP.seq (WP.block (WP.reg ?_))))
  refine qM (vn i) rfl rfl (qM (vu8 x) rfl rfl (qV rfl (R.indexA (b := b_4) (off := 0) (off' := (0 + i)) (i := i) rfl rfl rfl (by omega) underlying23 sizeOf5 (by rw [Nat.mul_one])) ?_))
  refine WL.storeE (b := b_4) (off := (0 + i)) (i := i) (v := (vu8 x)) (cs' := ((Go.Sh.mix (onesL x) (List.replicate 32 0) i).set i x).map vu8) h_8 rfl rfl sizeOf5 rfl At.h (by decide) Sg.h rfl (lt_len (K := 32) (len_map (Go.Sh.mix_len (onesL_len x) lr)) (by omega)) (set_u8 _ _ _) (fun w_13 h_14 => ?_)
  refine WL.nil (inb_n (thn_n (WP.reg ?_)))
  refine qM (vn i) rfl rfl (qV rfl (R.bin rfl rfl (bi_add (c := ((i + 1 : Nat) : Int)) (by omega) (by omega))) (qA (vn (i + 1)) rfl rfl ?_))
  refine WL.nil (thn_n ?_)
  have h_16 := (h_14.up J1).up J1
  rw [ones_set (by omega)] at h_16
  exact ⟨i + 1, _, (by omega), (U4 rfl rfl rfl rfl (U4 rfl rfl rfl rfl (Ag.updL rfl (Ag.mix _ _ _)))), ⟨rfl, trivial⟩, h_16, (by omega), rfl⟩
 ·have p_17 := of_decide_eq_false c_11
  refine WP.exit (thn_x (thn_x (inb_hit (thn_n (WP.seq (WP.reg ?_))))))
  refine qV rfl (R.loadA [] [(32, (Go.Sh.mix (onesL x) (List.replicate 32 0) i).map vu8)] [] (cs := (Go.Sh.mix (onesL x) (List.replicate 32 0) i).map vu8) rfl isAgg23 sizeOf23 (h_8.ok _ M0) rfl rfl rfl rfl) ?_
  refine WL.storeA [] [(32, (zB 32).map vu8)] [(32, (Go.Sh.mix (onesL x) (List.replicate 32 0) i).map vu8)] [] h_8 rfl rfl sizeOf23 Y1 (by decide) rfl rfl rfl rfl rfl rfl (sC (s8 (Go.Sh.mix_len (onesL_len x) lr)) sN) (fun w_18 h_19 => ?_)
  refine WL.nil (thn_n (WP.ret ?_))
  refine ret_of results54 (RV.cell rfl (h_19.loadA (cs := (Go.Sh.mix (onesL x) (List.replicate 32 0) i).map vu8) isAgg23 sizeOf23 M1 rfl rfl) RV.nil) ?_
  have hi2 : i = 32 := by omega
  subst hi2
  exact ⟨by rw [ones_all]; rfl, h_19.chgS⟩

theorem c_num16 (e : Int) (be : -9223372036854775808 ≤ e ∧ e < 9223372036854775808) (w : World) :
  Cs Tryz.prog 15 [(vi e)].toArray w (fun v w1 => v = vi e ∧ Chg w w1 []) := by
 refine Cs.of (n := 4) (args := [(vi e)]) Tryz.func15 rfl rfl rfl ?_
 have h_0 := HP.init w
 refine WP.seq (WP.reg ?_)
 refine qA (vi 0) rfl rfl ?_
 refine WL.nil (thn_n (WP.seq (WP.reg ?_)))
 refine qM (vi e) rfl rfl (qA (vi e) rfl rfl ?_)
 refine WL.nil (thn_n (WP.ret ?_))
 refine ret_of results15 (RV.tmp (v := (vi e)) rfl RV.nil) ?_
 exact ⟨rfl, h_0.chgS⟩

theorem c_known16  (w : World) :
  Cs Tryz.prog 10 [].toArray w (fun v w1 => v = .bool true ∧ Chg w w1 []) := by
 refine Cs.of (n := 75) (args := []) Tryz.func10 rfl rfl rfl ?_
 have h_0 := HP.init w
 refine WP.seq (WP.reg ?_)
 refine qA (.bool false) rfl rfl ?_
 refine WL.nil (thn_n (WP.seq (WP.reg ?_)))
 refine qV rfl (R.buildA (vs := []) (cs := (zB 32).map vu8) underlying23 sizeOf5 (zv typeInfo23 rfl) rfl rfl) ?_
 refine WL.call Tryz.call54 rfl rfl (c_ones (1 : UInt8) _ ) rfl ?_
 rintro _ w_2 ⟨rfl, hc_1⟩
 have h_3 := h_0.same hc_1
 refine WL.call Tryz.call54 rfl rfl (c_ones (2 : UInt8) _ ) rfl ?_
 rintro _ w_5 ⟨rfl, hc_4⟩
 have h_6 := h_3.same hc_4
 refine WL.call Tryz.call54 rfl rfl (c_ones (3 : UInt8) _ ) rfl ?_
 rintro _ w_8 ⟨rfl, hc_7⟩
 have h_9 := h_6.same hc_7
 refine WL.call Tryz.call54 rfl rfl (c_ones (4 : UInt8) _ ) rfl ?_
 rintro _ w_11 ⟨rfl, hc_10⟩
 have h_12 := h_9.same hc_10
 refine WL.buildSl (vs := [(0, (.agg ⟨(onesL (1 : UInt8)).map vu8⟩)), (1, (.agg ⟨(onesL (2 : UInt8)).map vu8⟩)), (2, (.agg ⟨(onesL (3 : UInt8)).map vu8⟩)), (3, (.agg ⟨(onesL (4 : UInt8)).map vu8⟩))]) (cs := ((onesL (1 : UInt8)) ++ ((onesL (2 : UInt8)) ++ ((onesL (3 : UInt8)) ++ (onesL (4 : UInt8))))).map vu8) h_12 underlying24 sizeOf23 (zv typeInfo23 rfl) rfl rfl (fill_4 (by kernel_rfl) (onesL_len _) (onesL_len _) (onesL_len _) (onesL_len _)) (len_map (show List.length ((onesL (1 : UInt8)) ++ ((onesL (2 : UInt8)) ++ ((onesL (3 : UInt8)) ++ (onesL (4 : UInt8))))) = 4 * 32 from by simp only [List.length_append, onesL_len])) (one_u8 _) rfl rfl (fun b_13 w_14 h_15 => ?_)
 have h_16 := HP.blkRow (m := 4) (s := 32) h_15 At.h rfl (by simp only [maxLen]; decide)
 have h_17 := h_16.rowView
 refine WL.call Tryz.call46 rfl rfl (c_ONew true (zB 32) ((onesL (1 : UInt8)) ++ ((onesL (2 : UInt8)) ++ ((onesL (3 : UInt8)) ++ (onesL (4 : UInt8))))) lr (some ⟨b_13, 0, none⟩) 4 4 (by simp only [List.length_append, onesL_len]) (by decide) _ h_17) rfl ?_
 rintro _ w_22 ⟨b_18, b_19, a_20, c_21, rfl, h_23⟩
 refine qA (pO b_18 0) rfl rfl ?_
 refine WL.nil (thn_n (WP.seq (WP.reg ?_)))
 refine qM (pO b_18 0) rfl rfl (qV rfl (R.buildA (vs := []) (cs := (zB 32).map vu8) underlying23 sizeOf5 (zv typeInfo23 rfl) rfl rfl) (qV rfl (R.buildA (vs := []) (cs := (zB 128).map vu8) underlying29 sizeOf5 (zv typeInfo29 rfl) rfl rfl) ?_))
 have h_28 := ((((h_23.up J4).up J4).up J4).up J4).up J4
 have h32_w_32 := Lgs.ok32 (h_28.ok _ M3).1
 refine WL.call Tryz.call20 rfl rfl (c_Seal true b_18 b_19 (zB 32) ((onesL (1 : UInt8)) ++ ((onesL (2 : UInt8)) ++ ((onesL (3 : UInt8)) ++ (onesL (4 : UInt8))))) lr a_20 4 c_21 0 (by simp only [List.length_append, onesL_len]) none 0 [] ([] : Lg) (by decide) (by decide) (zB 32) (zB 128) lr lr 0 (0 : UInt64) (by omega) (by decide) _ h_28) rfl ?_
 rintro _ w_32 ⟨la_29, lc_30, lx_31, rfl, h_33⟩
 refine qM (.tuple [(.agg ⟨(gx (zB 128) (gSt true ((onesL (1 : UInt8)) ++ ((onesL (2 : UInt8)) ++ ((onesL (3 : UInt8)) ++ (onesL (4 : UInt8))))) 4 (zB 32) 10 (pcB 0 (0 : UInt64)) 0 ([] : Lg)).2.2).map vu8⟩), (vi 0)].toArray) rfl rfl (qV rfl (R.extract rfl rfl) (qV rfl (R.extract rfl rfl) ?_))
 refine WL.alloc (segs := [(128, (zB 128).map vu8)]) h_33 (zv typeInfo29 rfl) rfl (sC (s8 lr) sN) rfl (fun b_34 w_35 h_36 => ?_)
 refine WL.storeA [] [(128, (zB 128).map vu8)] [(128, (gx (zB 128) (gSt true ((onesL (1 : UInt8)) ++ ((onesL (2 : UInt8)) ++ ((onesL (3 : UInt8)) ++ (onesL (4 : UInt8))))) 4 (zB 32) 10 (pcB 0 (0 : UInt64)) 0 ([] : Lg)).2.2).map vu8)] [] h_36 rfl rfl sizeOf29 At.h (by decide) rfl rfl rfl rfl rfl rfl (sC (s8 (gx_len lr (gSt_len (by simp only [List.length_append, onesL_len]) h32_w_32))) sN) (fun w_37 h_38 => ?_)
 refine qA (vi 0) rfl rfl ?_
 refine WL.nil (thn_n (WP.seq (WP.reg ?_)))
 refine qM (pO b_18 0) rfl rfl (qV rfl (R.buildA (vs := []) (cs := (zB 32).map vu8) underlying23 sizeOf5 (zv typeInfo23 rfl) rfl rfl) (qV rfl (R.buildA (vs := []) (cs := (zB 128).map vu8) underlying29 sizeOf5 (zv typeInfo29 rfl) rfl rfl) ?_))
 refine WL.call Tryz.call20 rfl rfl (c_Seal_big true b_18 b_19 (zB 32) lr a_20 4 c_21 ((gSt true ((onesL (1 : UInt8)) ++ ((onesL (2 : UInt8)) ++ ((onesL (3 : UInt8)) ++ (onesL (4 : UInt8))))) 4 (zB 32) 10 (pcB 0 (0 : UInt64)) 0 ([] : Lg)).1) la_29 ((gSt true ((onesL (1 : UInt8)) ++ ((onesL (2 : UInt8)) ++ ((onesL (3 : UInt8)) ++ (onesL (4 : UInt8))))) 4 (zB 32) 10 (pcB 0 (0 : UInt64)) 0 ([] : Lg)).2.1.length) lc_30 (zB 32) (zB 128) lr lr 128 (0 : UInt64) (by omega) _ (h_38.argR M1)) rfl ?_
 rintro _ w_40 ⟨rfl, hc_39⟩
 have h_41 := h_38.same hc_39
 refine qM (.tuple [(.agg ⟨(zB 128).map vu8⟩), (vi 2)].toArray) rfl rfl (qV rfl (R.extract rfl rfl) (qV rfl (R.extract rfl rfl) ?_))
 refine WL.alloc (segs := [(128, (zB 128).map vu8)]) h_41 (zv typeInfo29 rfl) rfl (sC (s8 lr) sN) rfl (fun b_42 w_43 h_44 => ?_)
 refine WL.storeA [] [(128, (zB 128).map vu8)] [(128, (zB 128).map vu8)] [] h_44 rfl rfl sizeOf29 At.h (by decide) rfl rfl rfl rfl rfl rfl (sC (s8 lr) sN) (fun w_45 h_46 => ?_)
 refine qA (vi 2) rfl rfl ?_
 refine WL.nil (thn_n (WP.seq (WP.reg ?_)))
 refine qV rfl (R.buildA (vs := []) (cs := (zB 32).map vu8) underlying23 sizeOf5 (zv typeInfo23 rfl) rfl rfl) (qV rfl (R.buildA (vs := []) (cs := (zB 128).map vu8) underlying29 sizeOf5 (zv typeInfo29 rfl) rfl rfl) ?_)
 refine WL.call Tryz.call20 rfl rfl (c_Seal_nil (zB 32) (zB 128) lr lr 0 (0 : UInt64) _ ) rfl ?_
 rintro _ w_48 ⟨rfl, hc_47⟩
 have h_49 := h_46.same hc_47
 refine qM (.tuple [(.agg ⟨(zB 128).map vu8⟩), (vi 1)].toArray) rfl rfl (qV rfl (R.extract rfl rfl) (qV rfl (R.extract rfl rfl) ?_))
 refine WL.alloc (segs := [(128, (zB 128).map vu8)]) h_49 (zv typeInfo29 rfl) rfl (sC (s8 lr) sN) rfl (fun b_50 w_51 h_52 => ?_)
 refine WL.storeA [] [(128, (zB 128).map vu8)] [(128, (zB 128).map vu8)] [] h_52 rfl rfl sizeOf29 At.h (by decide) rfl rfl rfl rfl rfl rfl (sC (s8 lr) sN) (fun w_53 h_54 => ?_)
 refine qA (vi 1) rfl rfl ?_
 refine WL.nil (thn_n (WP.seq (WP.reg ?_)))
 refine qM (vi 0) rfl rfl ?_
 refine WL.call Tryz.call15 rfl rfl (c_num16 0 (by omega) _ ) rfl ?_
 rintro _ w_56 ⟨rfl, hc_55⟩
 have h_57 := h_54.same hc_55
 refine qV rfl (R.bin rfl rfl (bi_eql (r := true) (by decide))) (qM (.bool true) rfl rfl ?_)
 refine WL.want rfl rfl ?_
 refine qV rfl (R.indexA (b := b_34) (off := 0) (off' := 0) (i := 0) rfl rfl rfl (by decide) underlying29 sizeOf5 rfl) ?_
 refine WL.want rfl rfl ?_
 refine qV rfl (R.loadE (b := b_34) (off := 0) (i := 0) (v := (vu8 ((gx (zB 128) (gSt true ((onesL (1 : UInt8)) ++ ((onesL (2 : UInt8)) ++ ((onesL (3 : UInt8)) ++ (onesL (4 : UInt8))))) 4 (zB 32) 10 (pcB 0 (0 : UInt64)) 0 ([] : Lg)).2.2).getD 0 0))) rfl isAgg5 (h_57.ok _ M2) Sg.h rfl (get_u8 (lt_len (K := 128) (gx_len lr (gSt_len (by simp only [List.length_append, onesL_len]) h32_w_32)) (by decide)))) ?_
 refine WL.want rfl rfl ?_
 refine qV rfl (R.bin (v := (.bool true)) rfl rfl (b8_eql ((gx (zB 128) (gSt true ((onesL (1 : UInt8)) ++ ((onesL (2 : UInt8)) ++ ((onesL (3 : UInt8)) ++ (onesL (4 : UInt8))))) 4 (zB 32) 10 (pcB 0 (0 : UInt64)) 0 ([] : Lg)).2.2).getD 0 0) 1 (r := true) (by decide +kernel))) (qV rfl (R.pickT (v := (.bool true)) rfl rfl) (qM (.bool true) rfl rfl ?_))
 refine WL.want rfl rfl ?_
 refine qV rfl (R.indexA (b := b_34) (off := 0) (off' := 32) (i := 32) rfl rfl rfl (by decide) underlying29 sizeOf5 rfl) ?_
 refine WL.want rfl rfl ?_
 refine qV rfl (R.loadE (b := b_34) (off := 32) (i := 32) (v := (vu8 ((gx (zB 128) (gSt true ((onesL (1 : UInt8)) ++ ((onesL (2 : UInt8)) ++ ((onesL (3 : UInt8)) ++ (onesL (4 : UInt8))))) 4 (zB 32) 10 (pcB 0 (0 : UInt64)) 0 ([] : Lg)).2.2).getD 32 0))) rfl isAgg5 (h_57.ok _ M2) Sg.h rfl (get_u8 (lt_len (K := 128) (gx_len lr (gSt_len (by simp only [List.length_append, onesL_len]) h32_w_32)) (by decide)))) ?_
 refine WL.want rfl rfl ?_
 refine qV rfl (R.bin (v := (.bool true)) rfl rfl (b8_eql ((gx (zB 128) (gSt true ((onesL (1 : UInt8)) ++ ((onesL (2 : UInt8)) ++ ((onesL (3 : UInt8)) ++ (onesL (4 : UInt8))))) 4 (zB 32) 10 (pcB 0 (0 : UInt64)) 0 ([] : Lg)).2.2).getD 32 0) 2 (r := true) (by decide +kernel))) (qV rfl (R.pickT (v := (.bool true)) rfl rfl) (qM (.bool true) rfl rfl ?_))
 refine WL.want rfl rfl ?_
 refine qV rfl (R.indexA (b := b_34) (off := 0) (off' := 64) (i := 64) rfl rfl rfl (by decide) underlying29 sizeOf5 rfl) ?_
 refine WL.want rfl rfl ?_
 refine qV rfl (R.loadE (b := b_34) (off := 64) (i := 64) (v := (vu8 ((gx (zB 128) (gSt true ((onesL (1 : UInt8)) ++ ((onesL (2 : UInt8)) ++ ((onesL (3 : UInt8)) ++ (onesL (4 : UInt8))))) 4 (zB 32) 10 (pcB 0 (0 : UInt64)) 0 ([] : Lg)).2.2).getD 64 0))) rfl isAgg5 (h_57.ok _ M2) Sg.h rfl (get_u8 (lt_len (K := 128) (gx_len lr (gSt_len (by simp only [List.length_append, onesL_len]) h32_w_32)) (by decide)))) ?_
 refine WL.want rfl rfl ?_
 refine qV rfl (R.bin (v := (.bool true)) rfl rfl (b8_eql ((gx (zB 128) (gSt true ((onesL (1 : UInt8)) ++ ((onesL (2 : UInt8)) ++ ((onesL (3 : UInt8)) ++ (onesL (4 : UInt8))))) 4 (zB 32) 10 (pcB 0 (0 : UInt64)) 0 ([] : Lg)).2.2).getD 64 0) 3 (r := true) (by decide +kernel))) (qV rfl (R.pickT (v := (.bool true)) rfl rfl) (qM (.bool true) rfl rfl ?_))
 refine WL.want rfl rfl ?_
 refine qV rfl (R.indexA (b := b_34) (off := 0) (off' := 127) (i := 127) rfl rfl rfl (by decide) underlying29 sizeOf5 rfl) ?_
 refine WL.want rfl rfl ?_
 refine qV rfl (R.loadE (b := b_34) (off := 127) (i := 127) (v := (vu8 ((gx (zB 128) (gSt true ((onesL (1 : UInt8)) ++ ((onesL (2 : UInt8)) ++ ((onesL (3 : UInt8)) ++ (onesL (4 : UInt8))))) 4 (zB 32) 10 (pcB 0 (0 : UInt64)) 0 ([] : Lg)).2.2).getD 127 0))) rfl isAgg5 (h_57.ok _ M2) Sg.h rfl (get_u8 (lt_len (K := 128) (gx_len lr (gSt_len (by simp only [List.length_append, onesL_len]) h32_w_32)) (by decide)))) ?_
 refine WL.want rfl rfl ?_
 refine qV rfl (R.bin (v := (.bool true)) rfl rfl (b8_eql ((gx (zB 128) (gSt true ((onesL (1 : UInt8)) ++ ((onesL (2 : UInt8)) ++ ((onesL (3 : UInt8)) ++ (onesL (4 : UInt8))))) 4 (zB 32) 10 (pcB 0 (0 : UInt64)) 0 ([] : Lg)).2.2).getD 127 0) 4 (r := true) (by decide +kernel))) (qV rfl (R.pickT (v := (.bool true)) rfl rfl) (qM (.bool true) rfl rfl ?_))
 refine WL.want rfl rfl ?_
 refine qM (vi 2) rfl rfl ?_
 refine WL.want rfl rfl ?_
 refine WL.call Tryz.call15 rfl rfl (c_num16 2 (by omega) _ ) rfl ?_
 rintro _ w_59 ⟨rfl, hc_58⟩
 have h_60 := h_57.same hc_58
 refine WL.want rfl rfl ?_
 refine qV rfl (R.bin rfl rfl (bi_eql (r := true) (by decide))) (qV rfl (R.pickT (v := (.bool true)) rfl rfl) (qM (.bool true) rfl rfl ?_))
 refine WL.want rfl rfl ?_
 refine qM (vi 1) rfl rfl ?_
 refine WL.want rfl rfl ?_
 refine WL.call Tryz.call15 rfl rfl (c_num16 1 (by omega) _ ) rfl ?_
 rintro _ w_62 ⟨rfl, hc_61⟩
 have h_63 := h_60.same hc_61
 refine WL.want rfl rfl ?_
 refine qV rfl (R.bin rfl rfl (bi_eql (r := true) (by decide))) (qV rfl (R.pickT (v := (.bool true)) rfl rfl) (qM (.bool true) rfl rfl ?_))
 refine WL.want rfl rfl ?_
 refine qV rfl (R.loadA [] [(128, (gx (zB 128) (gSt true ((onesL (1 : UInt8)) ++ ((onesL (2 : UInt8)) ++ ((onesL (3 : UInt8)) ++ (onesL (4 : UInt8))))) 4 (zB 32) 10 (pcB 0 (0 : UInt64)) 0 ([] : Lg)).2.2).map vu8)] [] (cs := (gx (zB 128) (gSt true ((onesL (1 : UInt8)) ++ ((onesL (2 : UInt8)) ++ ((onesL (3 : UInt8)) ++ (onesL (4 : UInt8))))) 4 (zB 32) 10 (pcB 0 (0 : UInt64)) 0 ([] : Lg)).2.2).map vu8) rfl isAgg29 sizeOf29 (h_63.ok _ M2) rfl rfl rfl rfl) ?_
 refine WL.want rfl rfl ?_
 refine qV rfl (R.loadA [] [(128, (gx (zB 128) (gSt true ((onesL (1 : UInt8)) ++ ((onesL (2 : UInt8)) ++ ((onesL (3 : UInt8)) ++ (onesL (4 : UInt8))))) 4 (zB 32) 10 (pcB 0 (0 : UInt64)) 0 ([] : Lg)).2.2).map vu8)] [] (cs := (gx (zB 128) (gSt true ((onesL (1 : UInt8)) ++ ((onesL (2 : UInt8)) ++ ((onesL (3 : UInt8)) ++ (onesL (4 : UInt8))))) 4 (zB 32) 10 (pcB 0 (0 : UInt64)) 0 ([] : Lg)).2.2).map vu8) rfl isAgg29 sizeOf29 (h_63.ok _ M2) rfl rfl rfl rfl) ?_
 refine WL.want rfl rfl ?_
 refine WL.call Tryz.call55 rfl rfl (c_Mix (gx (zB 128) (gSt true ((onesL (1 : UInt8)) ++ ((onesL (2 : UInt8)) ++ ((onesL (3 : UInt8)) ++ (onesL (4 : UInt8))))) 4 (zB 32) 10 (pcB 0 (0 : UInt64)) 0 ([] : Lg)).2.2) (gx (zB 128) (gSt true ((onesL (1 : UInt8)) ++ ((onesL (2 : UInt8)) ++ ((onesL (3 : UInt8)) ++ (onesL (4 : UInt8))))) 4 (zB 32) 10 (pcB 0 (0 : UInt64)) 0 ([] : Lg)).2.2) (gx_len lr (gSt_len (by simp only [List.length_append, onesL_len]) h32_w_32)) (gx_len lr (gSt_len (by simp only [List.length_append, onesL_len]) h32_w_32)) _ ) rfl ?_
 rintro _ w_65 ⟨rfl, hc_64⟩
 have h_66 := h_63.same hc_64
 refine WL.want rfl rfl ?_
 refine qV rfl (R.buildA (vs := []) (cs := (zB 128).map vu8) underlying29 sizeOf5 (zv typeInfo29 rfl) rfl rfl) ?_
 refine WL.want rfl rfl ?_
 refine qV rfl (R.eqA (xs := (gx (gx (zB 128) (gSt true ((onesL (1 : UInt8)) ++ ((onesL (2 : UInt8)) ++ ((onesL (3 : UInt8)) ++ (onesL (4 : UInt8))))) 4 (zB 32) 10 (pcB 0 (0 : UInt64)) 0 ([] : Lg)).2.2) (gx (zB 128) (gSt true ((onesL (1 : UInt8)) ++ ((onesL (2 : UInt8)) ++ ((onesL (3 : UInt8)) ++ (onesL (4 : UInt8))))) 4 (zB 32) 10 (pcB 0 (0 : UInt64)) 0 ([] : Lg)).2.2)).map vu8) (ys := (zB 128).map vu8) (r := true) rfl rfl eqGuardType29 kt29 (by decide) ag29 (Typ.u8s underlying29 ce29 underlying5 ce5 (gx_len (gx_len lr (gSt_len (by simp only [List.length_append, onesL_len]) h32_w_32)) (gx_len lr (gSt_len (by simp only [List.length_append, onesL_len]) h32_w_32)))) (Typ.u8s underlying29 ce29 underlying5 ce5 lr) (eqT (congrArg (List.map vu8) (by decide +kernel)))) (qV rfl (R.pickT (v := (.bool true)) rfl rfl) (qA (.bool true) rfl rfl ?_))
 refine WL.nil (thn_n (WP.ret ?_))
 refine ret_of results10 (RV.tmp (v := (.bool true)) rfl RV.nil) ?_
 exact ⟨rfl, h_66.chgS⟩
end Go.Proofs.YteclkcpdclimnaaGreat

namespace Go.Proofs.YteclkcpdclimnaaGreat
open Go.Proofs.Tryz
open Go.Vc Go.Orc Go.Sh Go.RowKit
set_option maxRecDepth 20000

theorem c_bask_ct (id : Bool) (ob mp : Nat) (ms : List UInt8) (hms : ms.length = 32) (da : Option Addr) (dn dc u : Nat) (la : Option Addr) (ln lc : Nat) (pg : Nat) (ct : UInt64) (h : pg < 128) (hct : ct > 4294967296) (w : World) (hcb : (Ent.blk ob .ro 118 [(1, [(.bool id)]), (32, ms.map vu8), (1, [(.slice da dn dc)]), (1, [(vi ((u : Nat) : Int))]), (1, [(.map (some mp))]), (1, [(.slice la ln lc)])]).ok w.heap.size w) :
  Cs Tryz.prog 94 [(.pointer (some ⟨ob, 0, none⟩)), (vi ((pg : Nat) : Int)), (vu64 ct)].toArray w (fun v w1 => v = (vi 2) ∧ Chg w w1 []) := by
 refine Cs.of (n := 29) (args := [(pO ob 0), (vn pg), (vu64 ct)]) Tryz.func94 rfl rfl rfl ?_
 have h_0 := HP.init w
 have h_00 := h_0.old hcb (fun f hf => by cases hf)
 refine WP.seq (WP.reg ?_)
 refine qA (vi 0) rfl rfl ?_
 refine WL.nil (thn_n (WP.seq (WP.seq (WP.reg ?_))))
 refine qM (pO ob 0) rfl rfl (qV rfl (R.buildS (pl := [(0, 1), (1, 32), (33, 1), (34, 1)]) (zs := [(1, [(vi 0)]), (32, (zB 32).map vu8), (1, [(vi 0)]), (1, [(.slice none 0 0)])]) (vs := []) (out := [(1, [(vi 0)]), (32, (zB 32).map vu8), (1, [(vi 0)]), (1, [(.slice none 0 0)])]) underlying90 (zv typeInfo90 rfl) rfl (sC sV (sC (s8 lr) (sC sV (sC sV sN)))) (pl90 _ underlying90) rfl FillR.nil rfl) ?_)
 refine WL.call Tryz.call50 rfl rfl (c_oAsk_0 id ob mp ms hms da dn dc u la ln lc 0 (zB 32) none 0 0 lr _ (h_00.argR M0)) rfl ?_
 rintro _ w_3 ⟨rfl, hc_2⟩
 have h_4 := h_00.same hc_2
 refine qM (.tuple [(.agg ⟨(zB 32).map vu8⟩), (vi 2)].toArray) rfl rfl (qV rfl (R.extract rfl rfl) (qV rfl (R.extract rfl rfl) ?_))
 refine WL.alloc (segs := [(32, (zB 32).map vu8)]) h_4 (zv typeInfo23 rfl) rfl (sC (s8 lr) sN) rfl (fun b_5 w_6 h_7 => ?_)
 refine WL.storeA [] [(32, (zB 32).map vu8)] [(32, (zB 32).map vu8)] [] h_7 rfl rfl sizeOf23 At.h (by decide) rfl rfl rfl rfl rfl rfl (sC (s8 lr) sN) (fun w_8 h_9 => ?_)
 refine qA (vi 2) rfl rfl ?_
 refine WL.nil (thn_n (WP.block (WP.seq (WP.reg ?_))))
 refine qM (vi 2) rfl rfl (qV rfl (R.bin rfl rfl (bi_eql (r := false) (by decide))) (qA (.bool false) rfl rfl ?_))
 refine WL.nil (thn_n ?_)
 refine WP.condF rfl ?_
 refine WP.seq (WP.reg ?_)
 refine qM (vn pg) rfl rfl (qV rfl (R.bin rfl rfl (bi_lss (r := decide ((((pg : Nat) : Int) : Int) < 0)) rfl)) (qM (.bool (decide ((((pg : Nat) : Int) : Int) < 0))) rfl rfl ?_))
 refine WL.want rfl (congrArg Value.bool (decide_eq_false (by omega))) ?_
 refine qM (vn pg) rfl rfl ?_
 refine WL.want rfl (congrArg Value.bool (decide_eq_false (by omega))) ?_
 refine qV rfl (R.bin rfl rfl (bi_geq (r := decide ((((pg : Nat) : Int) : Int) ≥ 128)) rfl)) (qV rfl (R.pickF (v := (.bool (decide ((((pg : Nat) : Int) : Int) ≥ 128)))) (congrArg Value.bool (decide_eq_false (by omega))) rfl) (qM (.bool (decide ((((pg : Nat) : Int) : Int) ≥ 128))) rfl rfl ?_))
 refine WL.want rfl (congrArg Value.bool (decide_eq_false (by omega))) ?_
 refine qM (vu64 ct) rfl rfl ?_
 refine WL.want rfl (congrArg Value.bool (decide_eq_false (by omega))) ?_
 refine qV rfl (R.bin (v := (.bool (decide ((ct : UInt64) > 4294967296)))) rfl rfl (b64_gtr ct 4294967296 (r := decide ((ct : UInt64) > 4294967296)) rfl)) (qV rfl (R.pickF (v := (.bool (decide ((ct : UInt64) > 4294967296)))) (congrArg Value.bool (decide_eq_false (by omega))) rfl) (qA (.bool (decide ((ct : UInt64) > 4294967296))) rfl rfl ?_))
 refine WL.nil (thn_n ?_)
 refine WP.condT (congrArg Value.bool (decide_eq_true hct)) ?_
 refine WP.seq (WP.reg ?_)
 refine qA (vi 2) rfl rfl ?_
 refine WL.nil (thn_n (WP.ret (inb_r (thn_r ?_))))
 refine ret_of results94 (RV.tmp (v := (vi 2)) rfl RV.nil) ?_
 exact ⟨rfl, h_9.chgS⟩

end Go.Proofs.YteclkcpdclimnaaGreat

namespace Go.Proofs.YteclkcpdclimnaaGreat
open Go.Proofs.Tryz
open Go.Vc Go.Orc Go.Sh Go.RowKit
set_option maxRecDepth 20000
theorem flat_take {ls : List (List UInt8)} {k : Nat} (h : k < ls.length) : (ls.take (k + 1)).flatten = (ls.take k).flatten ++ ls.getD k [] := by
 rw [take_snoc ls k [] h, List.flatten_append]; simp
theorem flat_take_le (ls : List (List UInt8)) (k : Nat) : ((ls.take k).flatten).length ≤ ls.flatten.length := by
 have h : ls.flatten = (ls.take k).flatten ++ (ls.drop k).flatten := by rw [← List.flatten_append, List.take_append_drop]
 rw [h, List.length_append]; omega
def recL (pc : UInt64) (rg : List UInt64) (run : Bool) : List (List UInt8) := [leN 8 pc.toNat, leN 8 (rg.getD 0 0).toNat, leN 8 (rg.getD 1 0).toNat, leN 8 (rg.getD 2 0).toNat, leN 8 (rg.getD 3 0).toNat, leN 8 (rg.getD 4 0).toNat, leN 8 (rg.getD 5 0).toNat, leN 8 (rg.getD 6 0).toNat, leN 8 (rg.getD 7 0).toNat] ++ (bif run then [[1]] else [])
def recP (pc : UInt64) (rg : List UInt64) (run : Bool) : List UInt8 := ovr (ovr (List.replicate 128 (0 : UInt8)) 0 ([114, 101, 99] : List UInt8)) 8 (recL pc rg run).flatten
def regsB (rg : List UInt64) : List UInt8 := ((((((((([] : List UInt8) ++ leN 8 (rg.getD 0 0).toNat) ++ leN 8 (rg.getD 1 0).toNat) ++ leN 8 (rg.getD 2 0).toNat) ++ leN 8 (rg.getD 3 0).toNat) ++ leN 8 (rg.getD 4 0).toNat) ++ leN 8 (rg.getD 5 0).toNat) ++ leN 8 (rg.getD 6 0).toNat) ++ leN 8 (rg.getD 7 0).toNat)
def recB (pc : UInt64) (rg : List UInt64) (run : Bool) : List UInt8 := ovr (List.replicate 128 (0 : UInt8)) 0 [(([114, 101, 99] : List UInt8) ++ List.replicate (8 - 3) (0 : UInt8)), leN 8 pc.toNat, regsB rg, [bif run then 1 else 0]].flatten
end Go.Proofs.YteclkcpdclimnaaGreat

namespace Go.Proofs.YteclkcpdclimnaaGreat
open Go.Proofs.Tryz
open Go.Vc Go.Orc Go.Sh Go.RowKit
set_option maxRecDepth 20000
theorem pl47 : ∀ fs, Tryz.prog.underlying 47 = some (.struct fs) → Places Tryz.prog fs [(0, 1), (1, 32), (33, 1), (34, 1), (35, 1)] := by
 intro fs h w; rw [underlying47] at h; cases h; simp
end Go.Proofs.YteclkcpdclimnaaGreat

namespace Go.Proofs.YteclkcpdclimnaaGreat
open Go.Proofs.Tryz
open Go.Vc Go.Orc Go.Sh Go.RowKit
set_option maxRecDepth 20000

theorem c_bask_neg (id : Bool) (ob mp : Nat) (ms : List UInt8) (hms : ms.length = 32) (da : Option Addr) (dn dc u : Nat) (la : Option Addr) (ln lc : Nat) (pg : Int) (ct : UInt64) (h : pg < 0) (w : World) (hcb : (Ent.blk ob .ro 118 [(1, [(.bool id)]), (32, ms.map vu8), (1, [(.slice da dn dc)]), (1, [(vi ((u : Nat) : Int))]), (1, [(.map (some mp))]), (1, [(.slice la ln lc)])]).ok w.heap.size w) :
  Cs Tryz.prog 94 [(.pointer (some ⟨ob, 0, none⟩)), (vi pg), (vu64 ct)].toArray w (fun v w1 => v = (vi 2) ∧ Chg w w1 []) := by
 refine Cs.of (n := 29) (args := [(pO ob 0), (vi pg), (vu64 ct)]) Tryz.func94 rfl rfl rfl ?_
 have h_0 := HP.init w
 have h_00 := h_0.old hcb (fun f hf => by cases hf)
 refine WP.seq (WP.reg ?_)
 refine qA (vi 0) rfl rfl ?_
 refine WL.nil (thn_n (WP.seq (WP.seq (WP.reg ?_))))
 refine qM (pO ob 0) rfl rfl (qV rfl (R.buildS (pl := [(0, 1), (1, 32), (33, 1), (34, 1)]) (zs := [(1, [(vi 0)]), (32, (zB 32).map vu8), (1, [(vi 0)]), (1, [(.slice none 0 0)])]) (vs := []) (out := [(1, [(vi 0)]), (32, (zB 32).map vu8), (1, [(vi 0)]), (1, [(.slice none 0 0)])]) underlying90 (zv typeInfo90 rfl) rfl (sC sV (sC (s8 lr) (sC sV (sC sV sN)))) (pl90 _ underlying90) rfl FillR.nil rfl) ?_)
 refine WL.call Tryz.call50 rfl rfl (c_oAsk_0 id ob mp ms hms da dn dc u la ln lc 0 (zB 32) none 0 0 lr _ (h_00.argR M0)) rfl ?_
 rintro _ w_3 ⟨rfl, hc_2⟩
 have h_4 := h_00.same hc_2
 refine qM (.tuple [(.agg ⟨(zB 32).map vu8⟩), (vi 2)].toArray) rfl rfl (qV rfl (R.extract rfl rfl) (qV rfl (R.extract rfl rfl) ?_))
 refine WL.alloc (segs := [(32, (zB 32).map vu8)]) h_4 (zv typeInfo23 rfl) rfl (sC (s8 lr) sN) rfl (fun b_5 w_6 h_7 => ?_)
 refine WL.storeA [] [(32, (zB 32).map vu8)] [(32, (zB 32).map vu8)] [] h_7 rfl rfl sizeOf23 At.h (by decide) rfl rfl rfl rfl rfl rfl (sC (s8 lr) sN) (fun w_8 h_9 => ?_)
 refine qA (vi 2) rfl rfl ?_
 refine WL.nil (thn_n (WP.block (WP.seq (WP.reg ?_))))
 refine qM (vi 2) rfl rfl (qV rfl (R.bin rfl rfl (bi_eql (r := false) (by decide))) (qA (.bool false) rfl rfl ?_))
 refine WL.nil (thn_n ?_)
 refine WP.condF rfl ?_
 refine WP.seq (WP.reg ?_)
 refine qM (vi pg) rfl rfl (qV rfl (R.bin rfl rfl (bi_lss (r := decide ((pg : Int) < 0)) rfl)) (qM (.bool (decide ((pg : Int) < 0))) rfl rfl ?_))
 refine WL.skip rfl (congrArg Value.bool (decide_eq_true (by omega))) rfl ?_
 refine WL.skip rfl (congrArg Value.bool (decide_eq_true (by omega))) rfl ?_
 refine qV rfl (R.pickT (v := (.bool true)) (congrArg Value.bool (decide_eq_true (by omega))) rfl) (qM (.bool true) rfl rfl ?_)
 refine WL.skip rfl rfl rfl ?_
 refine WL.skip rfl rfl rfl ?_
 refine qV rfl (R.pickT (v := (.bool true)) rfl rfl) (qA (.bool true) rfl rfl ?_)
 refine WL.nil (thn_n ?_)
 refine WP.condT rfl ?_
 refine WP.seq (WP.reg ?_)
 refine qA (vi 2) rfl rfl ?_
 refine WL.nil (thn_n (WP.ret (inb_r (thn_r ?_))))
 refine ret_of results94 (RV.tmp (v := (vi 2)) rfl RV.nil) ?_
 exact ⟨rfl, h_9.chgS⟩

theorem c_bask_no (id : Bool) (ob mp : Nat) (ms : List UInt8) (hms : ms.length = 32) (da : Option Addr) (dn dc u : Nat) (la : Option Addr) (ln lc : Nat) (pg : Int) (hpg : ¬ (0 ≤ pg ∧ pg < 128)) (ct : UInt64) (w : World) (hcb : (Ent.blk ob .ro 118 [(1, [(.bool id)]), (32, ms.map vu8), (1, [(.slice da dn dc)]), (1, [(vi ((u : Nat) : Int))]), (1, [(.map (some mp))]), (1, [(.slice la ln lc)])]).ok w.heap.size w) : Cs Tryz.prog 94 [(.pointer (some ⟨ob, 0, none⟩)), (vi pg), (vu64 ct)].toArray w (fun v w1 => v = (vi 2) ∧ Chg w w1 []) := by
 by_cases h0 : pg < 0
 ·exact c_bask_neg id ob mp ms hms da dn dc u la ln lc pg ct h0 w hcb
 ·exact c_bask_big id ob mp ms hms da dn dc u la ln lc pg ct (by omega) w hcb

theorem c_May16 (pg : Nat) (ct : UInt64) (h : pg < 128) (w : World) :
  Cs Tryz.prog 13 [(vi ((pg : Nat) : Int)), (vu64 ct)].toArray w (fun v w1 => v = (.bool (decide (ct ≤ 4294967296))) ∧ Chg w w1 []) := by
 refine Cs.of (n := 15) (args := [(vn pg), (vu64 ct)]) Tryz.func13 rfl rfl rfl ?_
 have h_0 := HP.init w
 refine WP.seq (WP.reg ?_)
 refine qA (.bool false) rfl rfl ?_
 refine WL.nil (thn_n (WP.seq (WP.reg ?_)))
 refine qM (vn pg) rfl rfl (qV rfl (R.bin rfl rfl (bi_geq (r := decide ((((pg : Nat) : Int) : Int) ≥ 0)) rfl)) (qM (.bool (decide ((((pg : Nat) : Int) : Int) ≥ 0))) rfl rfl ?_))
 refine WL.want rfl (congrArg Value.bool (decide_eq_true (by omega))) ?_
 refine qM (vn pg) rfl rfl ?_
 refine WL.want rfl (congrArg Value.bool (decide_eq_true (by omega))) ?_
 refine qV rfl (R.bin rfl rfl (bi_lss (r := decide ((((pg : Nat) : Int) : Int) < 128)) rfl)) (qV rfl (R.pickT (v := (.bool (decide ((((pg : Nat) : Int) : Int) < 128)))) (congrArg Value.bool (decide_eq_true (by omega))) rfl) (qM (.bool (decide ((((pg : Nat) : Int) : Int) < 128))) rfl rfl ?_))
 refine WL.want rfl (congrArg Value.bool (decide_eq_true (by omega))) ?_
 refine qM (vu64 ct) rfl rfl ?_
 refine WL.want rfl (congrArg Value.bool (decide_eq_true (by omega))) ?_
 refine qV rfl (R.bin (v := (.bool (decide ((ct : UInt64) ≤ 4294967296)))) rfl rfl (b64_leq ct 4294967296 (r := decide ((ct : UInt64) ≤ 4294967296)) rfl)) (qV rfl (R.pickT (v := (.bool (decide ((ct : UInt64) ≤ 4294967296)))) (congrArg Value.bool (decide_eq_true (by omega))) rfl) (qA (.bool (decide ((ct : UInt64) ≤ 4294967296))) rfl rfl ?_))
 refine WL.nil (thn_n (WP.ret ?_))
 refine ret_of results13 (RV.tmp (v := (.bool (decide ((ct : UInt64) ≤ 4294967296)))) rfl RV.nil) ?_
 exact ⟨rfl, h_0.chgS⟩

theorem c_May16_no (pg : Int) (hpg : ¬ (0 ≤ pg ∧ pg < 128)) (ct : UInt64) (w : World) :
  Cs Tryz.prog 13 [(vi pg), (vu64 ct)].toArray w (fun v w1 => v = (.bool false) ∧ Chg w w1 []) := by
 refine Cs.of (n := 15) (args := [(vi pg), (vu64 ct)]) Tryz.func13 rfl rfl rfl ?_
 have h_0 := HP.init w
 refine WP.seq (WP.reg ?_)
 refine qA (.bool false) rfl rfl ?_
 refine WL.nil (thn_n (WP.seq (WP.reg ?_)))
 refine qM (vi pg) rfl rfl (qV rfl (R.bin rfl rfl (bi_geq (r := decide ((pg : Int) ≥ 0)) rfl)) (qM (.bool (decide ((pg : Int) ≥ 0))) rfl rfl ?_))
 rcases Bool.eq_false_or_eq_true (decide ((pg : Int) ≥ 0)) with c_1 | c_1
 ·have p_2 := of_decide_eq_true c_1
  refine WL.want rfl (congrArg Value.bool c_1) ?_
  refine qM (vi pg) rfl rfl ?_
  refine WL.want rfl (congrArg Value.bool c_1) ?_
  refine qV rfl (R.bin rfl rfl (bi_lss (r := decide ((pg : Int) < 128)) rfl)) (qV rfl (R.pickT (v := (.bool (decide ((pg : Int) < 128)))) (congrArg Value.bool c_1) rfl) (qM (.bool (decide ((pg : Int) < 128))) rfl rfl ?_))
  rcases Bool.eq_false_or_eq_true (decide ((pg : Int) < 128)) with c_3 | c_3
  ·have p_4 := of_decide_eq_true c_3
   refine WL.want rfl (congrArg Value.bool c_3) ?_
   refine qM (vu64 ct) rfl rfl ?_
   refine WL.want rfl (congrArg Value.bool c_3) ?_
   refine qV rfl (R.bin (v := (.bool (decide ((ct : UInt64) ≤ 4294967296)))) rfl rfl (b64_leq ct 4294967296 (r := decide ((ct : UInt64) ≤ 4294967296)) rfl)) (qV rfl (R.pickT (v := (.bool (decide ((ct : UInt64) ≤ 4294967296)))) (congrArg Value.bool c_3) rfl) (qA (.bool (decide ((ct : UInt64) ≤ 4294967296))) rfl rfl ?_))
   refine WL.nil (thn_n (WP.ret ?_))
   refine ret_of results13 (RV.tmp (v := (.bool (decide ((ct : UInt64) ≤ 4294967296)))) rfl RV.nil) ?_
   exact absurd ⟨by omega, by omega⟩ hpg
  ·have p_5 := of_decide_eq_false c_3
   refine WL.skip rfl (congrArg Value.bool c_3) rfl ?_
   refine WL.skip rfl (congrArg Value.bool c_3) rfl ?_
   refine qV rfl (R.pickF (v := (.bool false)) (congrArg Value.bool c_3) rfl) (qA (.bool false) rfl rfl ?_)
   refine WL.nil (thn_n (WP.ret ?_))
   refine ret_of results13 (RV.tmp (v := (.bool false)) rfl RV.nil) ?_
   exact ⟨rfl, h_0.chgS⟩
 ·have p_6 := of_decide_eq_false c_1
  refine WL.skip rfl (congrArg Value.bool c_1) rfl ?_
  refine WL.skip rfl (congrArg Value.bool c_1) rfl ?_
  refine qV rfl (R.pickF (v := (.bool false)) (congrArg Value.bool c_1) rfl) (qM (.bool false) rfl rfl ?_)
  refine WL.skip rfl rfl rfl ?_
  refine WL.skip rfl rfl rfl ?_
  refine qV rfl (R.pickF (v := (.bool false)) rfl rfl) (qA (.bool false) rfl rfl ?_)
  refine WL.nil (thn_n (WP.ret ?_))
  refine ret_of results13 (RV.tmp (v := (.bool false)) rfl RV.nil) ?_
  exact ⟨rfl, h_0.chgS⟩

theorem c_bothR (pg : Nat) (ct : UInt64) (w : World) :
  Cs Tryz.prog 60 [(vi ((pg : Nat) : Int)), (vu64 ct)].toArray w (fun v w1 => ∃ a cap, v = .slice a 16 cap ∧ Chg w w1 [] ∧ Own w.heap.size w1 5 1 a 16 cap ((pcB pg ct).map vu8)) := by
 refine Cs.of (n := 11) (args := [(vn pg), (vu64 ct)]) Tryz.func60 rfl rfl rfl ?_
 have h_0 := HP.init w
 refine WP.seq (WP.reg ?_)
 refine qA (.slice none 0 0) rfl rfl ?_
 refine WL.nil (thn_n (WP.seq (WP.reg ?_)))
 refine qM (vn pg) rfl rfl (qV rfl (R.conv (b := ((UInt64.ofNat pg) : UInt64).toNat) rfl underlying3 underlying27 (w64_nat pg)) ?_)
 refine WL.call Tryz.call62 rfl rfl (c_PutR (UInt64.ofNat pg) 8 (by omega) _) rfl ?_
 rintro _ w_3 ⟨a_1, cap_2, rfl, hc_4, ho_5⟩
 have h_6 := h_0.gotRow hc_4 ho_5
 refine qM (vu64 ct) rfl rfl ?_
 refine WL.call Tryz.call62 rfl rfl (c_PutR ct 8 (by omega) _) rfl ?_
 rintro _ w_9 ⟨a_7, cap_8, rfl, hc_10, ho_11⟩
 have h_12 := h_6.gotRow hc_10 ho_11
 refine WL.append (km := 16) (xs := (leN 8 (UInt64.ofNat pg).toNat).map vu8) (ys := (leN 8 ct.toNat).map vu8) (zs := ((leN 8 (UInt64.ofNat pg).toNat) ++ (leN 8 ct.toNat)).map vu8) h_12 rfl rfl el88 (ownView (h_12.ok _ M0)) ((len_map (leN_len ..)).trans (Nat.mul_one _).symm) (one_u8 _) (by simp only [List.map_append, List.map_nil]) rfl (by omega) (by omega) (fun _ _ => Y1) rfl (fun a_13 c_14 w_15 h_16 => ?_)
 refine qA (.slice a_13 16 c_14) rfl rfl ?_
 refine WL.nil (thn_n (WP.ret ?_))
 refine ret_of results60 (RV.tmp (v := (.slice a_13 16 c_14)) rfl RV.nil) ?_
 have es : (leN 8 (UInt64.ofNat pg).toNat) ++ (leN 8 ct.toNat) = pcB pg ct := by simp [pcB]
 have ho := h_16.own M1
 rw [es] at ho
 exact ⟨_, _, rfl, h_16.chgS, ho⟩

theorem c_both16 {w00 : World} {L : List Ent} (id : Bool) (ms df : List UInt8) (hms : ms.length = 32) (da0 : Option Addr) (n cap0 : Nat) (hl : df.length = 32 * n) (hn : n ≤ 1000000) (w : World) (h_0 : HP w00 w (Ent.view da0 (df.map vu8) :: L)) :
  Cs Tryz.prog 11 [(.agg ⟨flat [(1, [(.bool id)]), (32, ms.map vu8), (1, [(.slice da0 n cap0)])]⟩)].toArray w (fun v w1 => ∃ ob mp da dc rb, v = .tuple [.pointer (some ⟨ob, 0, none⟩), .pointer (some ⟨rb, 0, none⟩)].toArray ∧ HP w00 w1 (Ent.blk ob .nw 118 [(1, [(.bool id)]), (32, ms.map vu8), (1, [(.slice da n dc)]), (1, [(vi 0)]), (1, [(.map (some mp))]), (1, [(.slice none 0 0)])] :: Ent.row none 0 0 96 67 [] :: Ent.obj mp .nw (.map (mArr ([] : Lg)) 0) :: Ent.pin (sblks []) (fun w => Lgs w [] ([] : Lg)) :: Ent.view da (df.map vu8) :: Ent.blk rb .nw 47 [(1, [(.bool id)]), (32, ms.map vu8), (1, [(.slice da0 n cap0)]), (1, [(vi 0)]), (1, [(.slice none 0 0)])] :: Ent.view da0 (df.map vu8) :: L)) := by
 refine Cs.of (n := 19) (args := [(.agg ⟨flat [(1, [(.bool id)]), (32, ms.map vu8), (1, [(.slice da0 n cap0)])]⟩)]) Tryz.func11 rfl rfl rfl ?_
 refine WP.seq (WP.reg ?_)
 refine WL.box (segs := [(1, [(.bool id)]), (32, ms.map vu8), (1, [(.slice da0 n cap0)])]) h_0 rfl rfl (sC sV (sC (s8 hms) (sC sV sN))) rfl (fun b_1 w_2 h_3 => ?_)
 refine qA (.pointer none) rfl rfl (qA (.pointer none) rfl rfl ?_)
 refine WL.nil (thn_n (WP.seq ?_))
 refine WP.cutG (G := Nat × Nat × Option Addr × Nat × Nat) [2, 3, 4, 5, 6, 7, 8, 9, 10, 11, 12, 13, 14, 15, 16, 17, 18] (fun (bY1Y6Y0Y0, bY1Y14Y0Y0, aY1Y6Y0Y0, cY1Y6Y0Y0, bY1Y6Y0Y1) => [(2, (pO bY1Y6Y0Y0 0)), (3, (pO bY1Y14Y0Y0 0)), (4, (pO b_1 0)), (5, (.bool id)), (6, (pO b_1 1)), (7, (.agg ⟨ms.map vu8⟩)), (8, (pO b_1 33)), (9, (.slice da0 n cap0)), (11, (pO b_1 0)), (12, (.bool id)), (13, (pO b_1 1)), (14, (.agg ⟨ms.map vu8⟩)), (15, (pO b_1 33)), (16, (.slice da0 n cap0)), (17, (.agg ⟨flat [(1, [(.bool id)]), (32, ms.map vu8), (1, [(.slice da0 n cap0)]), (1, [(vi 0)]), (1, [(.slice none 0 0)])]⟩)), (10, (pO bY1Y6Y0Y0 0)), (18, (pO bY1Y14Y0Y0 0))]) (fun (bY1Y6Y0Y0, bY1Y14Y0Y0, aY1Y6Y0Y0, cY1Y6Y0Y0, bY1Y6Y0Y1) w1 => HP w00 w1 (Ent.blk bY1Y14Y0Y0 .nw 47 [(1, [(.bool id)]), (32, ms.map vu8), (1, [(.slice da0 n cap0)]), (1, [(vi 0)]), (1, [(.slice none 0 0)])] :: Ent.blk bY1Y6Y0Y0 .nw 118 [(1, [(.bool id)]), (32, ms.map vu8), (1, [(.slice aY1Y6Y0Y0 n cY1Y6Y0Y0)]), (1, [(vi 0)]), (1, [(.map (some bY1Y6Y0Y1))]), (1, [(.slice none 0 0)])] :: Ent.row none 0 0 96 67 [] :: Ent.obj bY1Y6Y0Y1 .nw (.map (mArr ([] : Lg)) 0) :: Ent.pin (sblks []) (fun w => Lgs w [] ([] : Lg)) :: Ent.view aY1Y6Y0Y0 (df.map vu8) :: Ent.view da0 (df.map vu8) :: Ent.blk b_1 .nw 26 [(1, [(.bool id)]), (32, ms.map vu8), (1, [(.slice da0 n cap0)])] :: L)) ?_ ?_
 ·refine WP.drawT (SL w00.heap.size [.blk b_1 .nw 26 [(1, [(.bool id)]), (32, ms.map vu8), (1, [(.slice da0 n cap0)])], .view da0 (df.map vu8)]) (.q 0 (.q 1 (.q 2 (.q 3 (.q 4 (.q 5 (.q 7 (.q 8 (.q 9 (.q 10 (.q 11 (.q 12 (.q 13 (.s2 6 14 (.q 15 (.s 14 (.q 16 .nil))) (.s 6 (.q 15 (.q 16 .nil))))))))))))))))) (by kernel_rfl) (by kernel_rfl) rfl (by kernel_rfl) (fun w_4 hc_6 => (SL.cons ((h_3.same hc_6).ok _ M0) (SL.cons ((h_3.same hc_6).ok _ M1) (SL.nil _ _)))) (fun w_4 hc_6 => ?_)
  have h_5 := h_3.same hc_6
  refine qT rfl rfl (fun wq hS => R.fieldAddr (off' := 0) rfl underlying26 rfl sizeOf4 rfl rfl) ?_
  refine qT rfl rfl (fun wq hS => R.load1 rfl isAgg4 (hS _ M0) Sg.h) ?_
  refine qT rfl rfl (fun wq hS => R.fieldAddr (off' := 1) rfl underlying26 rfl sizeOf23 rfl rfl) ?_
  refine qT rfl rfl (fun wq hS => R.loadA [(1, [(.bool id)])] [(32, ms.map vu8)] [(1, [(.slice da0 n cap0)])] (cs := ms.map vu8) rfl isAgg23 sizeOf23 (hS _ M0) rfl rfl rfl rfl) ?_
  refine qT rfl rfl (fun wq hS => R.fieldAddr (off' := 33) rfl underlying26 rfl sizeOf24 rfl rfl) ?_
  refine qT rfl rfl (fun wq hS => R.load1 rfl isAgg24 (hS _ M0) (Sg.t rfl (Sg.t rfl Sg.h))) ?_
  refine qT rfl rfl (fun wq hS => R.fieldAddr (off' := 0) rfl underlying26 rfl sizeOf4 rfl rfl) ?_
  refine qT rfl rfl (fun wq hS => R.load1 rfl isAgg4 (hS _ M0) Sg.h) ?_
  refine qT rfl rfl (fun wq hS => R.fieldAddr (off' := 1) rfl underlying26 rfl sizeOf23 rfl rfl) ?_
  refine qT rfl rfl (fun wq hS => R.loadA [(1, [(.bool id)])] [(32, ms.map vu8)] [(1, [(.slice da0 n cap0)])] (cs := ms.map vu8) rfl isAgg23 sizeOf23 (hS _ M0) rfl rfl rfl rfl) ?_
  refine qT rfl rfl (fun wq hS => R.fieldAddr (off' := 33) rfl underlying26 rfl sizeOf24 rfl rfl) ?_
  refine qT rfl rfl (fun wq hS => R.load1 rfl isAgg24 (hS _ M0) (Sg.t rfl (Sg.t rfl Sg.h))) ?_
  refine qT rfl rfl (fun wq hS => R.buildS (pl := [(0, 1), (1, 32), (33, 1), (34, 1), (35, 1)]) (zs := [(1, [(.bool false)]), (32, (zB 32).map vu8), (1, [(.slice none 0 0)]), (1, [(vi 0)]), (1, [(.slice none 0 0)])]) (vs := [(0, (.bool id)), (1, (.agg ⟨ms.map vu8⟩)), (2, (.slice da0 n cap0))]) (out := [(1, [(.bool id)]), (32, ms.map vu8), (1, [(.slice da0 n cap0)]), (1, [(vi 0)]), (1, [(.slice none 0 0)])]) underlying47 (zv typeInfo47 rfl) rfl (sC sV (sC (s8 lr) (sC sV (sC sV (sC sV sN))))) (pl47 _ underlying47) rfl (FillR.cons [] [(1, [(.bool false)])] [(1, [(.bool id)])] [(32, (zB 32).map vu8), (1, [(.slice none 0 0)]), (1, [(vi 0)]), (1, [(.slice none 0 0)])] rfl rfl rfl rfl (sC sV sN) rfl rfl rfl (FillR.cons [(1, [(.bool id)])] [(32, (zB 32).map vu8)] [(32, ms.map vu8)] [(1, [(.slice none 0 0)]), (1, [(vi 0)]), (1, [(.slice none 0 0)])] rfl rfl rfl rfl (sC (s8 hms) sN) rfl rfl rfl (FillR.cons [(1, [(.bool id)]), (32, ms.map vu8)] [(1, [(.slice none 0 0)])] [(1, [(.slice da0 n cap0)])] [(1, [(vi 0)]), (1, [(.slice none 0 0)])] rfl rfl rfl rfl (sC sV sN) rfl rfl rfl FillR.nil))) rfl) ?_
  refine WT.s2 ?_ ?_
  ·refine oN rfl ?_
   have h_8 := h_5.up J1
   refine WL.call Tryz.call46 rfl rfl (c_ONew id ms df hms da0 n cap0 hl (by omega) _ h_8) rfl ?_
   rintro _ w_13 ⟨b_9, b_10, a_11, c_12, rfl, h_14⟩
   refine WL.nil ?_
   refine ⟨(SL.cons (h_14.ok _ M6) (SL.cons (h_14.ok _ M5) (SL.nil _ _))), ?_⟩
   refine qT rfl rfl (fun wq hS => R.assign (v := (pO b_9 0)) rfl) ?_
   refine WT.s (oN rfl ?_)
   refine WL.box (segs := [(1, [(.bool id)]), (32, ms.map vu8), (1, [(.slice da0 n cap0)]), (1, [(vi 0)]), (1, [(.slice none 0 0)])]) h_14 rfl rfl (sC sV (sC (s8 hms) (sC sV (sC sV (sC sV sN))))) rfl (fun b_15 w_16 h_17 => ?_)
   refine WL.nil ?_
   refine ⟨(SL.cons (h_17.ok _ M7) (SL.cons (h_17.ok _ M6) (SL.nil _ _))), ?_⟩
   refine qT rfl rfl (fun wq hS => R.assign (v := (pO b_15 0)) rfl) ?_
   refine WT.nil (thn_n ?_)
   exact ⟨(b_9, b_15, a_11, c_12, b_10), (Ag.upd rfl (U4 rfl rfl rfl rfl (U4 rfl rfl rfl rfl (U4 rfl rfl rfl rfl (U4 rfl rfl rfl rfl (Ag.refl _ _)))))), ⟨rfl, rfl, rfl, rfl, rfl, rfl, rfl, rfl, rfl, rfl, rfl, rfl, rfl, rfl, rfl, rfl, rfl, trivial⟩, h_17⟩
  ·refine oN rfl ?_
   refine WL.box (segs := [(1, [(.bool id)]), (32, ms.map vu8), (1, [(.slice da0 n cap0)]), (1, [(vi 0)]), (1, [(.slice none 0 0)])]) h_5 rfl rfl (sC sV (sC (s8 hms) (sC sV (sC sV (sC sV sN))))) rfl (fun b_18 w_19 h_20 => ?_)
   refine WL.nil ?_
   refine ⟨(N1_2 h_20.ok), ?_⟩
   refine WT.s (oN rfl ?_)
   have h_21 := h_20.up J2
   refine WL.call Tryz.call46 rfl rfl (c_ONew id ms df hms da0 n cap0 hl (by omega) _ h_21) rfl ?_
   rintro _ w_26 ⟨b_22, b_23, a_24, c_25, rfl, h_27⟩
   refine WL.nil ?_
   refine ⟨(SL.cons (h_27.ok _ M7) (SL.cons (h_27.ok _ M5) (SL.nil _ _))), ?_⟩
   refine qT rfl rfl (fun wq hS => R.assign (v := (pO b_22 0)) rfl) ?_
   refine qT rfl rfl (fun wq hS => R.assign (v := (pO b_18 0)) rfl) ?_
   refine WT.nil (thn_n ?_)
   have h_35 := (((((((h_27.up J7).up J6).up J6).up J6).up J6).up J6).up J6).up J7
   exact ⟨(b_22, b_18, a_24, c_25, b_23), (Ag.upd rfl (U4 rfl rfl rfl rfl (U4 rfl rfl rfl rfl (U4 rfl rfl rfl rfl (U4 rfl rfl rfl rfl (Ag.refl _ _)))))), ⟨rfl, rfl, rfl, rfl, rfl, rfl, rfl, rfl, rfl, rfl, rfl, rfl, rfl, rfl, rfl, rfl, rfl, trivial⟩, h_35⟩
 ·rintro ⟨b_39, b_40, a_41, c_42, b_43⟩ J_36 w_37 h_38
  refine thn_n (WP.ret ?_)
  refine ret_of results11 (RV.tmp (v := (pO b_39 0)) rfl (RV.tmp (v := (pO b_40 0)) rfl RV.nil)) ?_
  have h_52 := ((((((((h_38.up J7).drop rfl).up J6).up J1).up J6).up J6).up J6).up J6).up J6
  exact ⟨_, _, _, _, _, rfl, h_52⟩
end Go.Proofs.YteclkcpdclimnaaGreat

namespace Go.Proofs.YteclkcpdclimnaaGreat
open Go.Proofs.Tryz
open Go.Vc Go.Orc Go.Sh Go.RowKit
set_option maxRecDepth 20000

theorem c_Open {w00 : World} {L : List Ent} (id : Bool) (ob mp : Nat) (ms df : List UInt8) (hms : ms.length = 32) (da : Option Addr) (dn dc u : Nat) (hdf : df.length = 32 * dn) (la : Option Addr) (lc : Nat) (lx : List Value) (lg : Lg) (hu : u ≤ 500000) (hlg : lg.length ≤ 500000) (key pl : List UInt8) (hk : key.length = 32) (hpl : pl.length = 128) (pg : Nat) (ct : UInt64) (h : pg < 128) (hct : ¬ ct > 4294967296) (w : World) (h_0 : HP w00 w (Ent.blk ob .nw 118 [(1, [(.bool id)]), (32, ms.map vu8), (1, [(.slice da dn dc)]), (1, [(vi ((u : Nat) : Int))]), (1, [(.map (some mp))]), (1, [(.slice la lg.length lc)])] :: Ent.row la lg.length lc 96 67 lx :: Ent.obj mp .nw (.map (mArr lg) lg.length) :: Ent.pin (sblks lx) (fun w => Lgs w lx lg) :: Ent.view da (df.map vu8) :: L)) :
  Cs Tryz.prog 21 [(.pointer (some ⟨ob, 0, none⟩)), (.agg ⟨key.map vu8⟩), (vi ((pg : Nat) : Int)), (vu64 ct), (.agg ⟨pl.map vu8⟩)].toArray w (fun v w1 => ∃ la' lc' lx', v = (.tuple [(.agg ⟨(gx pl (gSt id df dn key 10 (pcB pg ct) u lg).2.2).map vu8⟩), (vi 0)].toArray) ∧ HP w00 w1 (Ent.blk ob .nw 118 [(1, [(.bool id)]), (32, ms.map vu8), (1, [(.slice da dn dc)]), (1, [(vi (((gSt id df dn key 10 (pcB pg ct) u lg).1 : Nat) : Int))]), (1, [(.map (some mp))]), (1, [(.slice la' ((gSt id df dn key 10 (pcB pg ct) u lg).2.1.length) lc')])] :: Ent.row la' ((gSt id df dn key 10 (pcB pg ct) u lg).2.1.length) lc' 96 67 lx' :: Ent.obj mp .nw (.map (mArr ((gSt id df dn key 10 (pcB pg ct) u lg).2.1)) ((gSt id df dn key 10 (pcB pg ct) u lg).2.1.length)) :: Ent.pin (sblks lx') (fun w => Lgs w lx' ((gSt id df dn key 10 (pcB pg ct) u lg).2.1)) :: Ent.view da (df.map vu8) :: L)) := by
 refine Cs.of (n := 20) (args := [(pO ob 0), (.agg ⟨key.map vu8⟩), (vn pg), (vu64 ct), (.agg ⟨pl.map vu8⟩)]) Tryz.func21 rfl rfl rfl ?_
 refine WP.seq (WP.reg ?_)
 refine WL.box (segs := [(32, key.map vu8)]) h_0 rfl rfl (sC (s8 hk) sN) rfl (fun b_1 w_2 h_3 => ?_)
 refine WL.box (segs := [(128, pl.map vu8)]) h_3 rfl rfl (sC (s8 hpl) sN) rfl (fun b_4 w_5 h_6 => ?_)
 refine WL.alloc (segs := [(128, (zB 128).map vu8)]) h_6 (zv typeInfo29 rfl) rfl (sC (s8 lr) sN) rfl (fun b_7 w_8 h_9 => ?_)
 refine qA (vi 0) rfl rfl ?_
 refine WL.nil (thn_n (WP.seq (WP.reg ?_)))
 refine qM (pO ob 0) rfl rfl (qV rfl (R.loadA [] [(32, key.map vu8)] [] (cs := key.map vu8) rfl isAgg23 sizeOf23 (h_9.ok _ M2) rfl rfl rfl rfl) (qM (vn pg) rfl rfl (qM (vu64 ct) rfl rfl (qV rfl (R.loadA [] [(128, pl.map vu8)] [] (cs := pl.map vu8) rfl isAgg29 sizeOf29 (h_9.ok _ M1) rfl rfl rfl rfl) ?_))))
 have h_14 := ((((h_9.up J7).up J7).up J7).up J7).up J7
 have h32_w_18 := Lgs.ok32 (h_14.ok _ M3).1
 refine WL.call Tryz.call20 rfl rfl (c_Seal id ob mp ms df hms da dn dc u hdf la lc lx lg (by omega) (by omega) key pl hk hpl pg ct (by omega) hct _ h_14) rfl ?_
 rintro _ w_18 ⟨la_15, lc_16, lx_17, rfl, h_19⟩
 refine qV rfl (R.extract rfl rfl) (qV rfl (R.extract rfl rfl) ?_)
 refine WL.storeA [] [(128, (zB 128).map vu8)] [(128, (gx pl (gSt id df dn key 10 (pcB pg ct) u lg).2.2).map vu8)] [] h_19 rfl rfl sizeOf29 Y5 (by decide) rfl rfl rfl rfl rfl rfl (sC (s8 (gx_len hpl (gSt_len hdf h32_w_18))) sN) (fun w_20 h_21 => ?_)
 refine qA (vi 0) rfl rfl ?_
 refine WL.nil (thn_n (WP.ret ?_))
 refine ret_of results21 (RV.cell rfl (h_21.loadA (cs := (gx pl (gSt id df dn key 10 (pcB pg ct) u lg).2.2).map vu8) isAgg29 sizeOf29 M5 rfl rfl) (RV.tmp (v := (vi 0)) rfl RV.nil)) ?_
 have h_32 := ((((((((((h_21.up J5).drop rfl).up J5).drop rfl).up J5).drop rfl).up J4).up J4).up J4).up J4).up J4
 exact ⟨_, _, _, rfl, h_32⟩

theorem c_OpenA {w00 : World} {L : List Ent} (id : Bool) (ob mp : Nat) (ms df : List UInt8) (hms : ms.length = 32) (da : Option Addr) (dn dc u : Nat) (hdf : df.length = 32 * dn) (la : Option Addr) (lc : Nat) (lx : List Value) (lg : Lg) (hu : u ≤ 400000) (hlg : lg.length ≤ 400000) (key pl : List UInt8) (hk : key.length = 32) (hpl : pl.length = 128) (pg : Nat) (ct : UInt64) (h : pg < 128) (hct : ¬ ct > 4294967296) (w : World) (h_0 : HP w00 w (Ent.blk ob .nw 118 [(1, [(.bool id)]), (32, ms.map vu8), (1, [(.slice da dn dc)]), (1, [(vi (((gSt id df dn key 10 (pcB pg ct) u lg).1 : Nat) : Int))]), (1, [(.map (some mp))]), (1, [(.slice la ((gSt id df dn key 10 (pcB pg ct) u lg).2.1.length) lc)])] :: Ent.row la ((gSt id df dn key 10 (pcB pg ct) u lg).2.1.length) lc 96 67 lx :: Ent.obj mp .nw (.map (mArr ((gSt id df dn key 10 (pcB pg ct) u lg).2.1)) ((gSt id df dn key 10 (pcB pg ct) u lg).2.1.length)) :: Ent.pin (sblks lx) (fun w => Lgs w lx ((gSt id df dn key 10 (pcB pg ct) u lg).2.1)) :: Ent.view da (df.map vu8) :: L)) :
  Cs Tryz.prog 21 [(.pointer (some ⟨ob, 0, none⟩)), (.agg ⟨key.map vu8⟩), (vi ((pg : Nat) : Int)), (vu64 ct), (.agg ⟨pl.map vu8⟩)].toArray w (fun v w1 => ∃ la' lc' lx', v = (.tuple [(.agg ⟨(gx pl (gSt id df dn key 10 (pcB pg ct) u lg).2.2).map vu8⟩), (vi 0)].toArray) ∧ HP w00 w1 (Ent.blk ob .nw 118 [(1, [(.bool id)]), (32, ms.map vu8), (1, [(.slice da dn dc)]), (1, [(vi (((gSt id df dn key 10 (pcB pg ct) u lg).1 : Nat) : Int))]), (1, [(.map (some mp))]), (1, [(.slice la' ((gSt id df dn key 10 (pcB pg ct) u lg).2.1.length) lc')])] :: Ent.row la' ((gSt id df dn key 10 (pcB pg ct) u lg).2.1.length) lc' 96 67 lx' :: Ent.obj mp .nw (.map (mArr ((gSt id df dn key 10 (pcB pg ct) u lg).2.1)) ((gSt id df dn key 10 (pcB pg ct) u lg).2.1.length)) :: Ent.pin (sblks lx') (fun w => Lgs w lx' ((gSt id df dn key 10 (pcB pg ct) u lg).2.1)) :: Ent.view da (df.map vu8) :: L)) := by
 have b1 := gSt_u (id := id) (df := df) (dn := dn) (key := key) (dm := 10) (data := pcB pg ct) (u := u) (lg := lg)
 have b2 := gSt_l (id := id) (df := df) (dn := dn) (key := key) (dm := 10) (data := pcB pg ct) (u := u) (lg := lg)
 refine (c_Open id ob mp ms df hms da dn dc _ hdf la lc lx _ (by omega) (by omega) key pl hk hpl pg ct h hct w h_0).mono fun v w1 hh => ?_
 obtain ⟨la', lc', lx', rfl, hh⟩ := hh
 rw [gSt_again] at hh
 rw [gSt_again]
 exact ⟨la', lc', lx', rfl, hh⟩
end Go.Proofs.YteclkcpdclimnaaGreat

namespace Go.Proofs.YteclkcpdclimnaaGreat
open Go.Proofs.Tryz
open Go.Vc Go.Orc Go.Sh Go.RowKit
set_option maxRecDepth 20000

theorem c_withG_no (id : Bool) (ob mp : Nat) (ms : List UInt8) (hms : ms.length = 32) (da : Option Addr) (dn dc u : Nat) (la : Option Addr) (ln lc : Nat) (pg : Int) (hpg : ¬ (0 ≤ pg ∧ pg < 128)) (ct : UInt64) (fv : Value) (w : World) (hcb : (Ent.blk ob .ro 118 [(1, [(.bool id)]), (32, ms.map vu8), (1, [(.slice da dn dc)]), (1, [(vi ((u : Nat) : Int))]), (1, [(.map (some mp))]), (1, [(.slice la ln lc)])]).ok w.heap.size w) :
  Cs Tryz.prog 66 [(.pointer (some ⟨ob, 0, none⟩)), (vi pg), (vu64 ct), fv].toArray w (fun v w1 => v = (.tuple [(.agg ⟨(List.replicate 128 (0 : UInt8)).map vu8⟩), (vi 2)].toArray) ∧ Chg w w1 []) := by
 refine Cs.of (n := 30) (args := [(pO ob 0), (vi pg), (vu64 ct), fv]) Tryz.func66 rfl rfl rfl ?_
 have h_0 := HP.init w
 have h_00 := h_0.old hcb (fun f hf => by cases hf)
 refine WP.seq (WP.reg ?_)
 refine WL.alloc (segs := [(128, (zB 128).map vu8)]) h_00 (zv typeInfo29 rfl) rfl (sC (s8 lr) sN) rfl (fun b_1 w_2 h_3 => ?_)
 refine qA (vi 0) rfl rfl ?_
 refine WL.nil (thn_n (WP.seq (WP.seq (WP.reg ?_))))
 refine qM (pO ob 0) rfl rfl (qM (vi pg) rfl rfl (qM (vu64 ct) rfl rfl ?_))
 refine WL.call Tryz.call94 rfl rfl (c_bask_no id ob mp ms hms da dn dc u la ln lc pg hpg ct _ (h_3.argR M1)) rfl ?_
 rintro _ w_5 ⟨rfl, hc_4⟩
 have h_6 := h_3.same hc_4
 refine qA (vi 2) rfl rfl ?_
 refine WL.nil (thn_n (WP.seq (WP.reg ?_)))
 refine qM (vi 2) rfl rfl (qV rfl (R.bin rfl rfl (bi_neq (r := true) (by decide))) ?_)
 refine WL.nil (thn_n ?_)
 refine WP.condT rfl ?_
 refine WP.seq (WP.reg ?_)
 refine qV rfl (R.loadA [] [(128, (zB 128).map vu8)] [] (cs := (zB 128).map vu8) rfl isAgg29 sizeOf29 (h_6.ok _ M0) rfl rfl rfl rfl) (qM (vi 2) rfl rfl ?_)
 refine WL.storeA [] [(128, (zB 128).map vu8)] [(128, (zB 128).map vu8)] [] h_6 rfl rfl sizeOf29 At.h (by decide) rfl rfl rfl rfl rfl rfl (sC (s8 lr) sN) (fun w_7 h_8 => ?_)
 refine qA (vi 2) rfl rfl ?_
 refine WL.nil (thn_n (WP.ret (thn_r ?_)))
 refine ret_of results66 (RV.cell rfl (h_8.loadA (cs := (zB 128).map vu8) isAgg29 sizeOf29 M0 rfl rfl) (RV.tmp (v := (vi 2)) rfl RV.nil)) ?_
 exact ⟨rfl, h_8.chgS⟩

theorem c_withG_ct (id : Bool) (ob mp : Nat) (ms : List UInt8) (hms : ms.length = 32) (da : Option Addr) (dn dc u : Nat) (la : Option Addr) (ln lc : Nat) (pg : Nat) (ct : UInt64) (fv : Value) (h : pg < 128) (hct : ct > 4294967296) (w : World) (hcb : (Ent.blk ob .ro 118 [(1, [(.bool id)]), (32, ms.map vu8), (1, [(.slice da dn dc)]), (1, [(vi ((u : Nat) : Int))]), (1, [(.map (some mp))]), (1, [(.slice la ln lc)])]).ok w.heap.size w) :
  Cs Tryz.prog 66 [(.pointer (some ⟨ob, 0, none⟩)), (vi ((pg : Nat) : Int)), (vu64 ct), fv].toArray w (fun v w1 => v = (.tuple [(.agg ⟨(List.replicate 128 (0 : UInt8)).map vu8⟩), (vi 2)].toArray) ∧ Chg w w1 []) := by
 refine Cs.of (n := 30) (args := [(pO ob 0), (vn pg), (vu64 ct), fv]) Tryz.func66 rfl rfl rfl ?_
 have h_0 := HP.init w
 have h_00 := h_0.old hcb (fun f hf => by cases hf)
 refine WP.seq (WP.reg ?_)
 refine WL.alloc (segs := [(128, (zB 128).map vu8)]) h_00 (zv typeInfo29 rfl) rfl (sC (s8 lr) sN) rfl (fun b_1 w_2 h_3 => ?_)
 refine qA (vi 0) rfl rfl ?_
 refine WL.nil (thn_n (WP.seq (WP.seq (WP.reg ?_))))
 refine qM (pO ob 0) rfl rfl (qM (vn pg) rfl rfl (qM (vu64 ct) rfl rfl ?_))
 refine WL.call Tryz.call94 rfl rfl (c_bask_ct id ob mp ms hms da dn dc u la ln lc pg ct (by omega) hct _ (h_3.argR M1)) rfl ?_
 rintro _ w_5 ⟨rfl, hc_4⟩
 have h_6 := h_3.same hc_4
 refine qA (vi 2) rfl rfl ?_
 refine WL.nil (thn_n (WP.seq (WP.reg ?_)))
 refine qM (vi 2) rfl rfl (qV rfl (R.bin rfl rfl (bi_neq (r := true) (by decide))) ?_)
 refine WL.nil (thn_n ?_)
 refine WP.condT rfl ?_
 refine WP.seq (WP.reg ?_)
 refine qV rfl (R.loadA [] [(128, (zB 128).map vu8)] [] (cs := (zB 128).map vu8) rfl isAgg29 sizeOf29 (h_6.ok _ M0) rfl rfl rfl rfl) (qM (vi 2) rfl rfl ?_)
 refine WL.storeA [] [(128, (zB 128).map vu8)] [(128, (zB 128).map vu8)] [] h_6 rfl rfl sizeOf29 At.h (by decide) rfl rfl rfl rfl rfl rfl (sC (s8 lr) sN) (fun w_7 h_8 => ?_)
 refine qA (vi 2) rfl rfl ?_
 refine WL.nil (thn_n (WP.ret (thn_r ?_)))
 refine ret_of results66 (RV.cell rfl (h_8.loadA (cs := (zB 128).map vu8) isAgg29 sizeOf29 M0 rfl rfl) (RV.tmp (v := (vi 2)) rfl RV.nil)) ?_
 exact ⟨rfl, h_8.chgS⟩

theorem c_Seal_no (id : Bool) (ob mp : Nat) (ms : List UInt8) (hms : ms.length = 32) (da : Option Addr) (dn dc u : Nat) (la : Option Addr) (ln lc : Nat) (key pl : List UInt8) (hk : key.length = 32) (hpl : pl.length = 128) (pg : Int) (hpg : ¬ (0 ≤ pg ∧ pg < 128)) (ct : UInt64) (w : World) (hcb : (Ent.blk ob .ro 118 [(1, [(.bool id)]), (32, ms.map vu8), (1, [(.slice da dn dc)]), (1, [(vi ((u : Nat) : Int))]), (1, [(.map (some mp))]), (1, [(.slice la ln lc)])]).ok w.heap.size w) :
  Cs Tryz.prog 20 [(.pointer (some ⟨ob, 0, none⟩)), (.agg ⟨key.map vu8⟩), (vi pg), (vu64 ct), (.agg ⟨pl.map vu8⟩)].toArray w (fun v w1 => v = (.tuple [(.agg ⟨(List.replicate 128 (0 : UInt8)).map vu8⟩), (vi 2)].toArray) ∧ Chg w w1 []) := by
 refine Cs.of (n := 19) (args := [(pO ob 0), (.agg ⟨key.map vu8⟩), (vi pg), (vu64 ct), (.agg ⟨pl.map vu8⟩)]) Tryz.func20 rfl rfl rfl ?_
 have h_0 := HP.init w
 have h_00 := h_0.old hcb (fun f hf => by cases hf)
 refine WP.seq (WP.reg ?_)
 refine WL.box (segs := [(1, [(pO ob 0)])]) h_00 rfl rfl (sC sV sN) rfl (fun b_1 w_2 h_3 => ?_)
 refine WL.box (segs := [(32, key.map vu8)]) h_3 rfl rfl (sC (s8 hk) sN) rfl (fun b_4 w_5 h_6 => ?_)
 refine WL.box (segs := [(128, pl.map vu8)]) h_6 rfl rfl (sC (s8 hpl) sN) rfl (fun b_7 w_8 h_9 => ?_)
 refine WL.alloc (segs := [(128, (zB 128).map vu8)]) h_9 (zv typeInfo29 rfl) rfl (sC (s8 lr) sN) rfl (fun b_10 w_11 h_12 => ?_)
 refine qA (vi 0) rfl rfl ?_
 refine WL.nil (thn_n (WP.seq (WP.reg ?_)))
 refine qV rfl (R.load1 rfl isAgg31 (h_12.ok _ M3) Sg.h) (qM (vi pg) rfl rfl (qM (vu64 ct) rfl rfl (qV rfl (R.makeFuncL (fi := []) (ca := [(pO b_1 0), (pO b_4 0), (pO b_7 0)]) rfl rfl) ?_)))
 refine WL.call Tryz.call66 rfl rfl (c_withG_no id ob mp ms hms da dn dc u la ln lc pg hpg ct (Value.func (Fn.func 67) [].toArray [(Value.pointer (some ⟨b_1, 0, none⟩)), (Value.pointer (some ⟨b_4, 0, none⟩)), (Value.pointer (some ⟨b_7, 0, none⟩))].toArray) _ (h_12.argR M4)) rfl ?_
 rintro _ w_14 ⟨rfl, hc_13⟩
 have h_15 := h_12.same hc_13
 refine qV rfl (R.extract rfl rfl) (qV rfl (R.extract rfl rfl) ?_)
 refine WL.storeA [] [(128, (zB 128).map vu8)] [(128, (zB 128).map vu8)] [] h_15 rfl rfl sizeOf29 At.h (by decide) rfl rfl rfl rfl rfl rfl (sC (s8 lr) sN) (fun w_16 h_17 => ?_)
 refine qA (vi 2) rfl rfl ?_
 refine WL.nil (thn_n (WP.ret ?_))
 refine ret_of results20 (RV.cell rfl (h_17.loadA (cs := (zB 128).map vu8) isAgg29 sizeOf29 M0 rfl rfl) (RV.tmp (v := (vi 2)) rfl RV.nil)) ?_
 exact ⟨rfl, h_17.chgS⟩

theorem c_Seal_ct (id : Bool) (ob mp : Nat) (ms : List UInt8) (hms : ms.length = 32) (da : Option Addr) (dn dc u : Nat) (la : Option Addr) (ln lc : Nat) (key pl : List UInt8) (hk : key.length = 32) (hpl : pl.length = 128) (pg : Nat) (ct : UInt64) (h : pg < 128) (hct : ct > 4294967296) (w : World) (hcb : (Ent.blk ob .ro 118 [(1, [(.bool id)]), (32, ms.map vu8), (1, [(.slice da dn dc)]), (1, [(vi ((u : Nat) : Int))]), (1, [(.map (some mp))]), (1, [(.slice la ln lc)])]).ok w.heap.size w) :
  Cs Tryz.prog 20 [(.pointer (some ⟨ob, 0, none⟩)), (.agg ⟨key.map vu8⟩), (vi ((pg : Nat) : Int)), (vu64 ct), (.agg ⟨pl.map vu8⟩)].toArray w (fun v w1 => v = (.tuple [(.agg ⟨(List.replicate 128 (0 : UInt8)).map vu8⟩), (vi 2)].toArray) ∧ Chg w w1 []) := by
 refine Cs.of (n := 19) (args := [(pO ob 0), (.agg ⟨key.map vu8⟩), (vn pg), (vu64 ct), (.agg ⟨pl.map vu8⟩)]) Tryz.func20 rfl rfl rfl ?_
 have h_0 := HP.init w
 have h_00 := h_0.old hcb (fun f hf => by cases hf)
 refine WP.seq (WP.reg ?_)
 refine WL.box (segs := [(1, [(pO ob 0)])]) h_00 rfl rfl (sC sV sN) rfl (fun b_1 w_2 h_3 => ?_)
 refine WL.box (segs := [(32, key.map vu8)]) h_3 rfl rfl (sC (s8 hk) sN) rfl (fun b_4 w_5 h_6 => ?_)
 refine WL.box (segs := [(128, pl.map vu8)]) h_6 rfl rfl (sC (s8 hpl) sN) rfl (fun b_7 w_8 h_9 => ?_)
 refine WL.alloc (segs := [(128, (zB 128).map vu8)]) h_9 (zv typeInfo29 rfl) rfl (sC (s8 lr) sN) rfl (fun b_10 w_11 h_12 => ?_)
 refine qA (vi 0) rfl rfl ?_
 refine WL.nil (thn_n (WP.seq (WP.reg ?_)))
 refine qV rfl (R.load1 rfl isAgg31 (h_12.ok _ M3) Sg.h) (qM (vn pg) rfl rfl (qM (vu64 ct) rfl rfl (qV rfl (R.makeFuncL (fi := []) (ca := [(pO b_1 0), (pO b_4 0), (pO b_7 0)]) rfl rfl) ?_)))
 refine WL.call Tryz.call66 rfl rfl (c_withG_ct id ob mp ms hms da dn dc u la ln lc pg ct (Value.func (Fn.func 67) [].toArray [(Value.pointer (some ⟨b_1, 0, none⟩)), (Value.pointer (some ⟨b_4, 0, none⟩)), (Value.pointer (some ⟨b_7, 0, none⟩))].toArray) (by omega) hct _ (h_12.argR M4)) rfl ?_
 rintro _ w_14 ⟨rfl, hc_13⟩
 have h_15 := h_12.same hc_13
 refine qV rfl (R.extract rfl rfl) (qV rfl (R.extract rfl rfl) ?_)
 refine WL.storeA [] [(128, (zB 128).map vu8)] [(128, (zB 128).map vu8)] [] h_15 rfl rfl sizeOf29 At.h (by decide) rfl rfl rfl rfl rfl rfl (sC (s8 lr) sN) (fun w_16 h_17 => ?_)
 refine qA (vi 2) rfl rfl ?_
 refine WL.nil (thn_n (WP.ret ?_))
 refine ret_of results20 (RV.cell rfl (h_17.loadA (cs := (zB 128).map vu8) isAgg29 sizeOf29 M0 rfl rfl) (RV.tmp (v := (vi 2)) rfl RV.nil)) ?_
 exact ⟨rfl, h_17.chgS⟩

theorem c_Open_no (id : Bool) (ob mp : Nat) (ms : List UInt8) (hms : ms.length = 32) (da : Option Addr) (dn dc u : Nat) (la : Option Addr) (ln lc : Nat) (key pl : List UInt8) (hk : key.length = 32) (hpl : pl.length = 128) (pg : Int) (hpg : ¬ (0 ≤ pg ∧ pg < 128)) (ct : UInt64) (w : World) (hcb : (Ent.blk ob .ro 118 [(1, [(.bool id)]), (32, ms.map vu8), (1, [(.slice da dn dc)]), (1, [(vi ((u : Nat) : Int))]), (1, [(.map (some mp))]), (1, [(.slice la ln lc)])]).ok w.heap.size w) :
  Cs Tryz.prog 21 [(.pointer (some ⟨ob, 0, none⟩)), (.agg ⟨key.map vu8⟩), (vi pg), (vu64 ct), (.agg ⟨pl.map vu8⟩)].toArray w (fun v w1 => v = (.tuple [(.agg ⟨(List.replicate 128 (0 : UInt8)).map vu8⟩), (vi 2)].toArray) ∧ Chg w w1 []) := by
 refine Cs.of (n := 20) (args := [(pO ob 0), (.agg ⟨key.map vu8⟩), (vi pg), (vu64 ct), (.agg ⟨pl.map vu8⟩)]) Tryz.func21 rfl rfl rfl ?_
 have h_0 := HP.init w
 have h_00 := h_0.old hcb (fun f hf => by cases hf)
 refine WP.seq (WP.reg ?_)
 refine WL.box (segs := [(32, key.map vu8)]) h_00 rfl rfl (sC (s8 hk) sN) rfl (fun b_1 w_2 h_3 => ?_)
 refine WL.box (segs := [(128, pl.map vu8)]) h_3 rfl rfl (sC (s8 hpl) sN) rfl (fun b_4 w_5 h_6 => ?_)
 refine WL.alloc (segs := [(128, (zB 128).map vu8)]) h_6 (zv typeInfo29 rfl) rfl (sC (s8 lr) sN) rfl (fun b_7 w_8 h_9 => ?_)
 refine qA (vi 0) rfl rfl ?_
 refine WL.nil (thn_n (WP.seq (WP.reg ?_)))
 refine qM (pO ob 0) rfl rfl (qV rfl (R.loadA [] [(32, key.map vu8)] [] (cs := key.map vu8) rfl isAgg23 sizeOf23 (h_9.ok _ M2) rfl rfl rfl rfl) (qM (vi pg) rfl rfl (qM (vu64 ct) rfl rfl (qV rfl (R.loadA [] [(128, pl.map vu8)] [] (cs := pl.map vu8) rfl isAgg29 sizeOf29 (h_9.ok _ M1) rfl rfl rfl rfl) ?_))))
 refine WL.call Tryz.call20 rfl rfl (c_Seal_no id ob mp ms hms da dn dc u la ln lc key pl hk hpl pg hpg ct _ (h_9.argR M3)) rfl ?_
 rintro _ w_11 ⟨rfl, hc_10⟩
 have h_12 := h_9.same hc_10
 refine qV rfl (R.extract rfl rfl) (qV rfl (R.extract rfl rfl) ?_)
 refine WL.storeA [] [(128, (zB 128).map vu8)] [(128, (zB 128).map vu8)] [] h_12 rfl rfl sizeOf29 At.h (by decide) rfl rfl rfl rfl rfl rfl (sC (s8 lr) sN) (fun w_13 h_14 => ?_)
 refine qA (vi 2) rfl rfl ?_
 refine WL.nil (thn_n (WP.ret ?_))
 refine ret_of results21 (RV.cell rfl (h_14.loadA (cs := (zB 128).map vu8) isAgg29 sizeOf29 M0 rfl rfl) (RV.tmp (v := (vi 2)) rfl RV.nil)) ?_
 exact ⟨rfl, h_14.chgS⟩

theorem c_Open_ct (id : Bool) (ob mp : Nat) (ms : List UInt8) (hms : ms.length = 32) (da : Option Addr) (dn dc u : Nat) (la : Option Addr) (ln lc : Nat) (key pl : List UInt8) (hk : key.length = 32) (hpl : pl.length = 128) (pg : Nat) (ct : UInt64) (h : pg < 128) (hct : ct > 4294967296) (w : World) (hcb : (Ent.blk ob .ro 118 [(1, [(.bool id)]), (32, ms.map vu8), (1, [(.slice da dn dc)]), (1, [(vi ((u : Nat) : Int))]), (1, [(.map (some mp))]), (1, [(.slice la ln lc)])]).ok w.heap.size w) :
  Cs Tryz.prog 21 [(.pointer (some ⟨ob, 0, none⟩)), (.agg ⟨key.map vu8⟩), (vi ((pg : Nat) : Int)), (vu64 ct), (.agg ⟨pl.map vu8⟩)].toArray w (fun v w1 => v = (.tuple [(.agg ⟨(List.replicate 128 (0 : UInt8)).map vu8⟩), (vi 2)].toArray) ∧ Chg w w1 []) := by
 refine Cs.of (n := 20) (args := [(pO ob 0), (.agg ⟨key.map vu8⟩), (vn pg), (vu64 ct), (.agg ⟨pl.map vu8⟩)]) Tryz.func21 rfl rfl rfl ?_
 have h_0 := HP.init w
 have h_00 := h_0.old hcb (fun f hf => by cases hf)
 refine WP.seq (WP.reg ?_)
 refine WL.box (segs := [(32, key.map vu8)]) h_00 rfl rfl (sC (s8 hk) sN) rfl (fun b_1 w_2 h_3 => ?_)
 refine WL.box (segs := [(128, pl.map vu8)]) h_3 rfl rfl (sC (s8 hpl) sN) rfl (fun b_4 w_5 h_6 => ?_)
 refine WL.alloc (segs := [(128, (zB 128).map vu8)]) h_6 (zv typeInfo29 rfl) rfl (sC (s8 lr) sN) rfl (fun b_7 w_8 h_9 => ?_)
 refine qA (vi 0) rfl rfl ?_
 refine WL.nil (thn_n (WP.seq (WP.reg ?_)))
 refine qM (pO ob 0) rfl rfl (qV rfl (R.loadA [] [(32, key.map vu8)] [] (cs := key.map vu8) rfl isAgg23 sizeOf23 (h_9.ok _ M2) rfl rfl rfl rfl) (qM (vn pg) rfl rfl (qM (vu64 ct) rfl rfl (qV rfl (R.loadA [] [(128, pl.map vu8)] [] (cs := pl.map vu8) rfl isAgg29 sizeOf29 (h_9.ok _ M1) rfl rfl rfl rfl) ?_))))
 refine WL.call Tryz.call20 rfl rfl (c_Seal_ct id ob mp ms hms da dn dc u la ln lc key pl hk hpl pg ct (by omega) hct _ (h_9.argR M3)) rfl ?_
 rintro _ w_11 ⟨rfl, hc_10⟩
 have h_12 := h_9.same hc_10
 refine qV rfl (R.extract rfl rfl) (qV rfl (R.extract rfl rfl) ?_)
 refine WL.storeA [] [(128, (zB 128).map vu8)] [(128, (zB 128).map vu8)] [] h_12 rfl rfl sizeOf29 At.h (by decide) rfl rfl rfl rfl rfl rfl (sC (s8 lr) sN) (fun w_13 h_14 => ?_)
 refine qA (vi 2) rfl rfl ?_
 refine WL.nil (thn_n (WP.ret ?_))
 refine ret_of results21 (RV.cell rfl (h_14.loadA (cs := (zB 128).map vu8) isAgg29 sizeOf29 M0 rfl rfl) (RV.tmp (v := (vi 2)) rfl RV.nil)) ?_
 exact ⟨rfl, h_14.chgS⟩

theorem c_rSeal {w00 : World} {L : List Ent} (id : Bool) (ob : Nat) (ms df : List UInt8) (hms : ms.length = 32) (da : Option Addr) (dn dc u : Nat) (hdf : df.length = 32 * dn) (la : Option Addr) (lc : Nat) (lx : List Value) (lg : Lg) (hu : u ≤ 500000) (hlg : lg.length ≤ 500000) (key pl : List UInt8) (hk : key.length = 32) (hpl : pl.length = 128) (pg : Nat) (ct : UInt64) (w : World) (h_0 : HP w00 w (Ent.blk ob .nw 47 [(1, [(.bool id)]), (32, ms.map vu8), (1, [(.slice da dn dc)]), (1, [(vi ((u : Nat) : Int))]), (1, [(.slice la lg.length lc)])] :: Ent.row la lg.length lc 96 67 lx :: Ent.pin (sblks lx) (fun w => Lgs w lx lg) :: Ent.view da (df.map vu8) :: L)) :
  Cs Tryz.prog 22 [(.pointer (some ⟨ob, 0, none⟩)), (.agg ⟨key.map vu8⟩), (vi ((pg : Nat) : Int)), (vu64 ct), (.agg ⟨pl.map vu8⟩)].toArray w (fun v w1 => ∃ la' lc' lx', v = (.agg ⟨(gx pl (gSt id df dn key 10 (pcB pg ct) u lg).2.2).map vu8⟩) ∧ HP w00 w1 (Ent.blk ob .nw 47 [(1, [(.bool id)]), (32, ms.map vu8), (1, [(.slice da dn dc)]), (1, [(vi (((gSt id df dn key 10 (pcB pg ct) u lg).1 : Nat) : Int))]), (1, [(.slice la' ((gSt id df dn key 10 (pcB pg ct) u lg).2.1.length) lc')])] :: Ent.row la' ((gSt id df dn key 10 (pcB pg ct) u lg).2.1.length) lc' 96 67 lx' :: Ent.pin (sblks lx') (fun w => Lgs w lx' ((gSt id df dn key 10 (pcB pg ct) u lg).2.1)) :: Ent.view da (df.map vu8) :: L)) := by
 refine Cs.of (n := 24) (args := [(pO ob 0), (.agg ⟨key.map vu8⟩), (vn pg), (vu64 ct), (.agg ⟨pl.map vu8⟩)]) Tryz.func22 rfl rfl rfl ?_
 refine WP.seq (WP.reg ?_)
 refine WL.box (segs := [(32, key.map vu8)]) h_0 rfl rfl (sC (s8 hk) sN) rfl (fun b_1 w_2 h_3 => ?_)
 refine WL.box (segs := [(128, pl.map vu8)]) h_3 rfl rfl (sC (s8 hpl) sN) rfl (fun b_4 w_5 h_6 => ?_)
 refine WL.alloc (segs := [(128, (zB 128).map vu8)]) h_6 (zv typeInfo29 rfl) rfl (sC (s8 lr) sN) rfl (fun b_7 w_8 h_9 => ?_)
 refine WL.nil (thn_n (WP.seq (WP.reg ?_)))
 refine WL.alloc (segs := [(128, (zB 128).map vu8)]) h_9 (zv typeInfo29 rfl) rfl (sC (s8 lr) sN) rfl (fun b_10 w_11 h_12 => ?_)
 refine WL.nil (thn_n (WP.seq ?_))
 refine WP.drawT (SL w00.heap.size [.blk b_7 .nw 29 [(128, (zB 128).map vu8)], .blk b_4 .nw 29 [(128, pl.map vu8)], .blk b_1 .nw 23 [(32, key.map vu8)]]) (.q 0 (.q 1 (.q 2 (.q 3 (.q 4 (.s 5 (.q 6 (.s 7 (.s 8 .nil))))))))) (by kernel_rfl) (by kernel_rfl) rfl (by kernel_rfl) (fun w_13 hc_15 => (SL.cons ((h_12.same hc_15).ok _ M1) (SL.cons ((h_12.same hc_15).ok _ M2) (SL.cons ((h_12.same hc_15).ok _ M3) (SL.nil _ _))))) (fun w_13 hc_15 => ?_)
 have h_14 := h_12.same hc_15
 refine qT rfl rfl (fun wq hS => R.sliceA (b := b_10) (off := 0) (off' := 0) (l := 0) (h := 128) rfl EvB.dflt EvB.dflt (by decide) (by decide) underlying29 sizeOf5 rfl) ?_
 refine qT rfl rfl (fun wq hS => R.move (v := (pO ob 0)) rfl) ?_
 refine qT rfl rfl (fun wq hS => R.loadA [] [(32, key.map vu8)] [] (cs := key.map vu8) rfl isAgg23 sizeOf23 (hS _ M2) rfl rfl rfl rfl) ?_
 refine qT rfl rfl (fun wq hS => R.move (v := (vn pg)) rfl) ?_
 refine qT rfl rfl (fun wq hS => R.move (v := (vu64 ct)) rfl) ?_
 refine WT.s (oN rfl ?_)
 refine WL.call Tryz.call60 rfl rfl (c_bothR pg ct _) rfl ?_
 rintro _ w_18 ⟨a_16, cap_17, rfl, hc_19, ho_20⟩
 have h_21 := h_14.gotRow hc_19 ho_20
 refine WL.nil ?_
 refine ⟨(N2_3_4 h_21.ok), ?_⟩
 refine qT rfl rfl (fun wq hS => R.buildS (pl := [(0, 1), (1, 32), (33, 1), (34, 1)]) (zs := [(1, [(vi 0)]), (32, (zB 32).map vu8), (1, [(vi 0)]), (1, [(.slice none 0 0)])]) (vs := [(0, (vi 4)), (1, (.agg ⟨key.map vu8⟩)), (2, (vi 10)), (3, (.slice a_16 16 cap_17))]) (out := [(1, [(vi 4)]), (32, key.map vu8), (1, [(vi 10)]), (1, [(.slice a_16 16 cap_17)])]) underlying90 (zv typeInfo90 rfl) rfl (sC sV (sC (s8 lr) (sC sV (sC sV sN)))) (pl90 _ underlying90) rfl (FillR.cons [] [(1, [(vi 0)])] [(1, [(vi 4)])] [(32, (zB 32).map vu8), (1, [(vi 0)]), (1, [(.slice none 0 0)])] rfl rfl rfl rfl (sC sV sN) rfl rfl rfl (FillR.cons [(1, [(vi 4)])] [(32, (zB 32).map vu8)] [(32, key.map vu8)] [(1, [(vi 0)]), (1, [(.slice none 0 0)])] rfl rfl rfl rfl (sC (s8 hk) sN) rfl rfl rfl (FillR.cons [(1, [(vi 4)]), (32, key.map vu8)] [(1, [(vi 0)])] [(1, [(vi 10)])] [(1, [(.slice none 0 0)])] rfl rfl rfl rfl (sC sV sN) rfl rfl rfl (FillR.cons [(1, [(vi 4)]), (32, key.map vu8), (1, [(vi 10)])] [(1, [(.slice none 0 0)])] [(1, [(.slice a_16 16 cap_17)])] [] rfl rfl rfl rfl (sC sV sN) rfl rfl rfl FillR.nil)))) rfl) ?_
 refine WT.s (oN rfl ?_)
 have h_23 := h_21.rowView
 have h_27 := (((h_23.up J8).up J8).up J8).up J8
 have h32_w_33 := (Lgs.ok32 (h_27.ok _ M2).1)
 refine WL.call Tryz.call69 rfl rfl (c_rgStream id ob ms df hms da dn dc u hdf la lc lx lg hu hlg 10 key (pcB pg ct) a_16 16 cap_17 hk (by omega) (pcB_len _ _) (by omega) _ h_27) rfl ?_
 rintro _ w_33 ⟨a_28, c_29, la_30, lc_31, lx_32, rfl, h_34⟩
 refine WL.nil ?_
 refine ⟨(N7_8_9 h_34.ok), ?_⟩
 refine WT.s (oN rfl ?_)
 refine WL.copy (q := 128) (i := 0) (ys := ((gSt id df dn key 10 (pcB pg ct) u lg).2.2).map vu8) (cs' := ((gSt id df dn key 10 (pcB pg ct) u lg).2.2).map vu8) h_34 rfl rfl underlying88 sizeOf5 (ownView (h_34.ok _ M0)) (len_map (gSt_len hdf h32_w_33)) (one_u8 _) Y6 (by decide) Sg.h rfl (by decide) (by rw [len_map lr]; decide) (cpAll (gSt_len hdf h32_w_33) lr) rfl (fun w_35 h_36 => ?_)
 refine WL.nil ?_
 refine ⟨(N7_8_9 h_36.ok), ?_⟩
 refine WT.nil (thn_n (WP.seq (WP.reg ?_)))
 refine qV rfl (R.loadA [] [(128, pl.map vu8)] [] (cs := pl.map vu8) rfl isAgg29 sizeOf29 (h_36.ok _ M8) rfl rfl rfl rfl) (qV rfl (R.loadA [] [(128, ((gSt id df dn key 10 (pcB pg ct) u lg).2.2).map vu8)] [] (cs := ((gSt id df dn key 10 (pcB pg ct) u lg).2.2).map vu8) rfl isAgg29 sizeOf29 (h_36.ok _ M6) rfl rfl rfl rfl) ?_)
 refine WL.call Tryz.call70 rfl rfl (c_MixR pl ((gSt id df dn key 10 (pcB pg ct) u lg).2.2) hpl (gSt_len hdf h32_w_33) _ ) rfl ?_
 rintro _ w_38 ⟨rfl, hc_37⟩
 have h_39 := h_36.same hc_37
 refine WL.storeA [] [(128, (zB 128).map vu8)] [(128, (gx pl ((gSt id df dn key 10 (pcB pg ct) u lg).2.2)).map vu8)] [] h_39 rfl rfl sizeOf29 Y7 (by decide) rfl rfl rfl rfl rfl rfl (sC (s8 (gx_len hpl (gSt_len hdf h32_w_33))) sN) (fun w_40 h_41 => ?_)
 refine WL.nil (thn_n (WP.ret ?_))
 refine ret_of results22 (RV.cell rfl (h_41.loadA (cs := (gx pl ((gSt id df dn key 10 (pcB pg ct) u lg).2.2)).map vu8) isAgg29 sizeOf29 M7 rfl rfl) RV.nil) ?_
 have h_56 := ((((((((((((((h_41.drop rfl).up J4).drop rfl).up J4).drop rfl).up J4).drop rfl).up J4).drop rfl).up J4).drop rfl).up J3).up J3).up J3).up J3
 exact ⟨_, _, _, rfl, h_56⟩
end Go.Proofs.YteclkcpdclimnaaGreat
