/- Rules for walks and contracts of the functions that the law reaches, one behind the other. Conditions: none beyond what each theorem states. -/
import Derived.Test.YteclkcpdclimnaaGreatZ5MeasureReplays
set_option linter.unusedVariables false
set_option linter.unusedSimpArgs false
set_option linter.unusedSectionVars false
namespace Go.Proofs.YteclkcpdclimnaaGreat
open Go.Proofs.Tryz
open Go.Vc Go.Orc Go.Sh Go.RowKit
set_option maxRecDepth 20000

def qN (md : List UInt8) (kd pg : Int) (gr : List UInt8) (pc : UInt64) (rg : List UInt64) (run : Bool) : Qn := if kd = 2 then (1, (List.replicate 32 (0 : UInt8)), 2, [md, leN 8 (UInt64.ofNat pg.toNat).toNat, gr].flatten) else (1, (List.replicate 32 (0 : UInt8)), 3, [md, recB pc rg run].flatten)
theorem mayB_to {kd pg : Int} {val gr : List UInt8} {pc : UInt64} {rg : List UInt64} {run : Bool} (h : mayB kd val pg gr pc rg run = true) : mayZ kd val pg gr pc rg run := of_decide_eq_true h

theorem c_add1 {w00 : World} {L : List Ent} (id : Bool) (ob mp : Nat) (ms df : List UInt8) (hms : ms.length = 32) (da : Option Addr) (dn dc u : Nat) (hdf : df.length = 32 * dn) (la : Option Addr) (lc : Nat) (lx : List Value) (lg : Lg) (hu : u ≤ 1000000) (hlg : lg.length ≤ 1000000) (md : List UInt8) (hmd : md.length = 32) (pg : Nat) (h : pg < 128) (gr : List UInt8) (hgr : gr.length = 128) (w : World) (h_0 : HP w00 w (Ent.blk ob .nw 118 [(1, [(.bool id)]), (32, ms.map vu8), (1, [(.slice da dn dc)]), (1, [(vi ((u : Nat) : Int))]), (1, [(.map (some mp))]), (1, [(.slice la lg.length lc)])] :: Ent.row la lg.length lc 96 67 lx :: Ent.obj mp .nw (.map (mArr lg) lg.length) :: Ent.pin (sblks lx) (fun w => Lgs w lx lg) :: Ent.view da (df.map vu8) :: L)) :
  Cs Tryz.prog 110 [(.pointer (some ⟨ob, 0, none⟩)), (.agg ⟨md.map vu8⟩), (.agg ⟨flat [(1, [(vi 2)]), (32, (List.replicate 32 (0 : UInt8)).map vu8), (1, [(vi ((pg : Nat) : Int))]), (128, gr.map vu8), (1, [(vu64 0)]), (8, (List.replicate 8 (0 : UInt64)).map vu64), (1, [(.bool false)])]⟩)].toArray w (fun v w1 => ∃ la' lc' lx', v = (.tuple [(.agg ⟨(anD id df dn u lg (1, (List.replicate 32 (0 : UInt8)), 2, [md, leN 8 (UInt64.ofNat pg).toNat, gr].flatten)).map vu8⟩), (vi 0)].toArray) ∧ HP w00 w1 (Ent.blk ob .nw 118 [(1, [(.bool id)]), (32, ms.map vu8), (1, [(.slice da dn dc)]), (1, [(vi (((anU id u lg (1, (List.replicate 32 (0 : UInt8)), 2, [md, leN 8 (UInt64.ofNat pg).toNat, gr].flatten)) : Nat) : Int))]), (1, [(.map (some mp))]), (1, [(.slice la' ((anL id df dn u lg (1, (List.replicate 32 (0 : UInt8)), 2, [md, leN 8 (UInt64.ofNat pg).toNat, gr].flatten)).length) lc')])] :: Ent.row la' ((anL id df dn u lg (1, (List.replicate 32 (0 : UInt8)), 2, [md, leN 8 (UInt64.ofNat pg).toNat, gr].flatten)).length) lc' 96 67 lx' :: Ent.obj mp .nw (.map (mArr (anL id df dn u lg (1, (List.replicate 32 (0 : UInt8)), 2, [md, leN 8 (UInt64.ofNat pg).toNat, gr].flatten))) ((anL id df dn u lg (1, (List.replicate 32 (0 : UInt8)), 2, [md, leN 8 (UInt64.ofNat pg).toNat, gr].flatten)).length)) :: Ent.pin (sblks lx') (fun w => Lgs w lx' (anL id df dn u lg (1, (List.replicate 32 (0 : UInt8)), 2, [md, leN 8 (UInt64.ofNat pg).toNat, gr].flatten))) :: Ent.view da (df.map vu8) :: L)) := by
 refine Cs.of (n := 17) (args := [(pO ob 0), (.agg ⟨md.map vu8⟩), (.agg ⟨flat [(1, [(vi 2)]), (32, (zB 32).map vu8), (1, [(vn pg)]), (128, gr.map vu8), (1, [(vu64 0)]), (8, (zW 8).map vu64), (1, [(.bool false)])]⟩)]) Tryz.func110 rfl rfl rfl ?_
 refine WP.seq (WP.reg ?_)
 refine WL.box (segs := [(32, md.map vu8)]) h_0 rfl rfl (sC (s8 hmd) sN) rfl (fun b_1 w_2 h_3 => ?_)
 refine WL.box (segs := [(1, [(vi 2)]), (32, (zB 32).map vu8), (1, [(vn pg)]), (128, gr.map vu8), (1, [(vu64 0)]), (8, (zW 8).map vu64), (1, [(.bool false)])]) h_3 rfl rfl (sC sV (sC (s8 lr) (sC sV (sC (s8 hgr) (sC sV (sC (SOk.u64 lr) (sC sV sN))))))) rfl (fun b_4 w_5 h_6 => ?_)
 refine WL.alloc (segs := [(32, (zB 32).map vu8)]) h_6 (zv typeInfo23 rfl) rfl (sC (s8 lr) sN) rfl (fun b_7 w_8 h_9 => ?_)
 refine qA (vi 0) rfl rfl ?_
 refine WL.nil (thn_n (WP.seq (WP.reg ?_)))
 refine qM (pO ob 0) rfl rfl (qV rfl (R.loadA [] [(32, md.map vu8)] [] (cs := md.map vu8) rfl isAgg23 sizeOf23 (h_9.ok _ M2) rfl rfl rfl rfl) (qV rfl (R.fieldAddr (off' := 33) rfl underlying70 rfl sizeOf3 rfl rfl) (qV rfl (R.load1 rfl isAgg3 (h_9.ok _ M1) (Sg.t rfl (Sg.t rfl Sg.h))) (qV rfl (R.fieldAddr (off' := 34) rfl underlying70 rfl sizeOf29 rfl rfl) (qV rfl (R.loadA [(1, [(vi 2)]), (32, (zB 32).map vu8), (1, [(vn pg)])] [(128, gr.map vu8)] [(1, [(vu64 0)]), (8, (zW 8).map vu64), (1, [(.bool false)])] (cs := gr.map vu8) rfl isAgg29 sizeOf29 (h_9.ok _ M1) rfl rfl rfl rfl) ?_)))))
 have h_14 := ((((h_9.up J7).up J7).up J7).up J7).up J7
 have h32_w_18 := Lgs.ok32 (h_14.ok _ M3).1
 refine WL.call Tryz.call28 rfl rfl (c_Data id ob mp ms df hms da dn dc u hdf la lc lx lg hu hlg md gr hmd hgr pg (by omega) _ h_14) rfl ?_
 rintro _ w_18 ⟨la_15, lc_16, lx_17, rfl, h_19⟩
 refine qV rfl (R.extract rfl rfl) (qV rfl (R.extract rfl rfl) ?_)
 refine WL.storeA [] [(32, (zB 32).map vu8)] [(32, (anD id df dn u lg (1, (zB 32), 2, [md, leN 8 (UInt64.ofNat pg).toNat, gr].flatten)).map vu8)] [] h_19 rfl rfl sizeOf23 Y5 (by decide) rfl rfl rfl rfl rfl rfl (sC (s8 (anD_len hdf h32_w_18)) sN) (fun w_20 h_21 => ?_)
 refine qA (vi 0) rfl rfl ?_
 refine WL.nil (thn_n (WP.ret ?_))
 refine ret_of results110 (RV.cell rfl (h_21.loadA (cs := (anD id df dn u lg (1, (zB 32), 2, [md, leN 8 (UInt64.ofNat pg).toNat, gr].flatten)).map vu8) isAgg23 sizeOf23 M5 rfl rfl) (RV.tmp (v := (vi 0)) rfl RV.nil)) ?_
 have h_32 := ((((((((((h_21.up J5).drop rfl).up J5).drop rfl).up J5).drop rfl).up J4).up J4).up J4).up J4).up J4
 exact ⟨_, _, _, rfl, h_32⟩

theorem c_add2 {w00 : World} {L : List Ent} (id : Bool) (ob mp : Nat) (ms df : List UInt8) (hms : ms.length = 32) (da : Option Addr) (dn dc u : Nat) (hdf : df.length = 32 * dn) (la : Option Addr) (lc : Nat) (lx : List Value) (lg : Lg) (hu : u ≤ 1000000) (hlg : lg.length ≤ 1000000) (md : List UInt8) (hmd : md.length = 32) (pc : UInt64) (rg : List UInt64) (hrg : rg.length = 8) (run : Bool) (h : decide (pc % 8 = 0) = true) (w : World) (h_0 : HP w00 w (Ent.blk ob .nw 118 [(1, [(.bool id)]), (32, ms.map vu8), (1, [(.slice da dn dc)]), (1, [(vi ((u : Nat) : Int))]), (1, [(.map (some mp))]), (1, [(.slice la lg.length lc)])] :: Ent.row la lg.length lc 96 67 lx :: Ent.obj mp .nw (.map (mArr lg) lg.length) :: Ent.pin (sblks lx) (fun w => Lgs w lx lg) :: Ent.view da (df.map vu8) :: L)) :
  Cs Tryz.prog 111 [(.pointer (some ⟨ob, 0, none⟩)), (.agg ⟨md.map vu8⟩), (.agg ⟨flat [(1, [(vi 3)]), (32, (List.replicate 32 (0 : UInt8)).map vu8), (1, [(vi 0)]), (128, (List.replicate 128 (0 : UInt8)).map vu8), (1, [(vu64 pc)]), (8, rg.map vu64), (1, [(.bool run)])]⟩)].toArray w (fun v w1 => ∃ la' lc' lx', v = (.tuple [(.agg ⟨(anD id df dn u lg (1, (List.replicate 32 (0 : UInt8)), 3, [md, recB pc rg run].flatten)).map vu8⟩), (vi 0)].toArray) ∧ HP w00 w1 (Ent.blk ob .nw 118 [(1, [(.bool id)]), (32, ms.map vu8), (1, [(.slice da dn dc)]), (1, [(vi (((anU id u lg (1, (List.replicate 32 (0 : UInt8)), 3, [md, recB pc rg run].flatten)) : Nat) : Int))]), (1, [(.map (some mp))]), (1, [(.slice la' ((anL id df dn u lg (1, (List.replicate 32 (0 : UInt8)), 3, [md, recB pc rg run].flatten)).length) lc')])] :: Ent.row la' ((anL id df dn u lg (1, (List.replicate 32 (0 : UInt8)), 3, [md, recB pc rg run].flatten)).length) lc' 96 67 lx' :: Ent.obj mp .nw (.map (mArr (anL id df dn u lg (1, (List.replicate 32 (0 : UInt8)), 3, [md, recB pc rg run].flatten))) ((anL id df dn u lg (1, (List.replicate 32 (0 : UInt8)), 3, [md, recB pc rg run].flatten)).length)) :: Ent.pin (sblks lx') (fun w => Lgs w lx' (anL id df dn u lg (1, (List.replicate 32 (0 : UInt8)), 3, [md, recB pc rg run].flatten))) :: Ent.view da (df.map vu8) :: L)) := by
 refine Cs.of (n := 15) (args := [(pO ob 0), (.agg ⟨md.map vu8⟩), (.agg ⟨flat [(1, [(vi 3)]), (32, (zB 32).map vu8), (1, [(vi 0)]), (128, (zB 128).map vu8), (1, [(vu64 pc)]), (8, rg.map vu64), (1, [(.bool run)])]⟩)]) Tryz.func111 rfl rfl rfl ?_
 refine WP.seq (WP.reg ?_)
 refine WL.box (segs := [(32, md.map vu8)]) h_0 rfl rfl (sC (s8 hmd) sN) rfl (fun b_1 w_2 h_3 => ?_)
 refine WL.box (segs := [(1, [(vi 3)]), (32, (zB 32).map vu8), (1, [(vi 0)]), (128, (zB 128).map vu8), (1, [(vu64 pc)]), (8, rg.map vu64), (1, [(.bool run)])]) h_3 rfl rfl (sC sV (sC (s8 lr) (sC sV (sC (s8 lr) (sC sV (sC (SOk.u64 hrg) (sC sV sN))))))) rfl (fun b_4 w_5 h_6 => ?_)
 refine WL.alloc (segs := [(32, (zB 32).map vu8)]) h_6 (zv typeInfo23 rfl) rfl (sC (s8 lr) sN) rfl (fun b_7 w_8 h_9 => ?_)
 refine qA (vi 0) rfl rfl ?_
 refine WL.nil (thn_n (WP.seq (WP.reg ?_)))
 refine qM (pO ob 0) rfl rfl (qV rfl (R.loadA [] [(32, md.map vu8)] [] (cs := md.map vu8) rfl isAgg23 sizeOf23 (h_9.ok _ M2) rfl rfl rfl rfl) (qV rfl (R.fieldAddr (off' := 162) rfl underlying70 rfl sizeOf57 rfl rfl) (qV rfl (R.loadA [(1, [(vi 3)]), (32, (zB 32).map vu8), (1, [(vi 0)]), (128, (zB 128).map vu8)] [(1, [(vu64 pc)]), (8, rg.map vu64), (1, [(.bool run)])] [] rfl isAgg57 sizeOf57 (h_9.ok _ M1) rfl rfl rfl rfl) ?_)))
 have h_14 := ((((h_9.up J7).up J7).up J7).up J7).up J7
 have h32_w_18 := Lgs.ok32 (h_14.ok _ M3).1
 refine WL.call Tryz.call31 rfl rfl (c_Rec id ob mp ms df hms da dn dc u hdf la lc lx lg hu hlg md hmd pc rg hrg run h _ h_14) rfl ?_
 rintro _ w_18 ⟨la_15, lc_16, lx_17, rfl, h_19⟩
 refine qV rfl (R.extract rfl rfl) (qV rfl (R.extract rfl rfl) ?_)
 refine WL.storeA [] [(32, (zB 32).map vu8)] [(32, (anD id df dn u lg (1, (zB 32), 3, [md, recB pc rg run].flatten)).map vu8)] [] h_19 rfl rfl sizeOf23 Y5 (by decide) rfl rfl rfl rfl rfl rfl (sC (s8 (anD_len hdf h32_w_18)) sN) (fun w_20 h_21 => ?_)
 refine qA (vi 0) rfl rfl ?_
 refine WL.nil (thn_n (WP.ret ?_))
 refine ret_of results111 (RV.cell rfl (h_21.loadA (cs := (anD id df dn u lg (1, (zB 32), 3, [md, recB pc rg run].flatten)).map vu8) isAgg23 sizeOf23 M5 rfl rfl) (RV.tmp (v := (vi 0)) rfl RV.nil)) ?_
 have h_32 := ((((((((((h_21.up J5).drop rfl).up J5).drop rfl).up J5).drop rfl).up J4).up J4).up J4).up J4).up J4
 exact ⟨_, _, _, rfl, h_32⟩

theorem c_Next_2 {w00 : World} {L : List Ent} (id : Bool) (ob mp : Nat) (ms df : List UInt8) (hms : ms.length = 32) (da : Option Addr) (dn dc u : Nat) (hdf : df.length = 32 * dn) (la : Option Addr) (lc : Nat) (lx : List Value) (lg : Lg) (hu : u ≤ 1000000) (hlg : lg.length ≤ 1000000) (md : List UInt8) (hmd : md.length = 32) (pg : Nat) (h : pg < 128) (gr : List UInt8) (hgr : gr.length = 128) (w : World) (h_0 : HP w00 w (Ent.blk ob .nw 118 [(1, [(.bool id)]), (32, ms.map vu8), (1, [(.slice da dn dc)]), (1, [(vi ((u : Nat) : Int))]), (1, [(.map (some mp))]), (1, [(.slice la lg.length lc)])] :: Ent.row la lg.length lc 96 67 lx :: Ent.obj mp .nw (.map (mArr lg) lg.length) :: Ent.pin (sblks lx) (fun w => Lgs w lx lg) :: Ent.view da (df.map vu8) :: L)) :
  Cs Tryz.prog 34 [(.pointer (some ⟨ob, 0, none⟩)), (.agg ⟨md.map vu8⟩), (.agg ⟨flat [(1, [(vi 2)]), (32, (List.replicate 32 (0 : UInt8)).map vu8), (1, [(vi ((pg : Nat) : Int))]), (128, gr.map vu8), (1, [(vu64 0)]), (8, (List.replicate 8 (0 : UInt64)).map vu64), (1, [(.bool false)])]⟩)].toArray w (fun v w1 => ∃ la' lc' lx', v = (.tuple [(.agg ⟨(anD id df dn u lg (1, (List.replicate 32 (0 : UInt8)), 2, [md, leN 8 (UInt64.ofNat pg).toNat, gr].flatten)).map vu8⟩), (vi 0)].toArray) ∧ HP w00 w1 (Ent.blk ob .nw 118 [(1, [(.bool id)]), (32, ms.map vu8), (1, [(.slice da dn dc)]), (1, [(vi (((anU id u lg (1, (List.replicate 32 (0 : UInt8)), 2, [md, leN 8 (UInt64.ofNat pg).toNat, gr].flatten)) : Nat) : Int))]), (1, [(.map (some mp))]), (1, [(.slice la' ((anL id df dn u lg (1, (List.replicate 32 (0 : UInt8)), 2, [md, leN 8 (UInt64.ofNat pg).toNat, gr].flatten)).length) lc')])] :: Ent.row la' ((anL id df dn u lg (1, (List.replicate 32 (0 : UInt8)), 2, [md, leN 8 (UInt64.ofNat pg).toNat, gr].flatten)).length) lc' 96 67 lx' :: Ent.obj mp .nw (.map (mArr (anL id df dn u lg (1, (List.replicate 32 (0 : UInt8)), 2, [md, leN 8 (UInt64.ofNat pg).toNat, gr].flatten))) ((anL id df dn u lg (1, (List.replicate 32 (0 : UInt8)), 2, [md, leN 8 (UInt64.ofNat pg).toNat, gr].flatten)).length)) :: Ent.pin (sblks lx') (fun w => Lgs w lx' (anL id df dn u lg (1, (List.replicate 32 (0 : UInt8)), 2, [md, leN 8 (UInt64.ofNat pg).toNat, gr].flatten))) :: Ent.view da (df.map vu8) :: L)) := by
 refine Cs.of (n := 34) (args := [(pO ob 0), (.agg ⟨md.map vu8⟩), (.agg ⟨flat [(1, [(vi 2)]), (32, (zB 32).map vu8), (1, [(vn pg)]), (128, gr.map vu8), (1, [(vu64 0)]), (8, (zW 8).map vu64), (1, [(.bool false)])]⟩)]) Tryz.func34 rfl rfl rfl ?_
 refine WP.seq (WP.reg ?_)
 refine WL.box (segs := [(32, md.map vu8)]) h_0 rfl rfl (sC (s8 hmd) sN) rfl (fun b_1 w_2 h_3 => ?_)
 refine WL.box (segs := [(1, [(vi 2)]), (32, (zB 32).map vu8), (1, [(vn pg)]), (128, gr.map vu8), (1, [(vu64 0)]), (8, (zW 8).map vu64), (1, [(.bool false)])]) h_3 rfl rfl (sC sV (sC (s8 lr) (sC sV (sC (s8 hgr) (sC sV (sC (SOk.u64 lr) (sC sV sN))))))) rfl (fun b_4 w_5 h_6 => ?_)
 refine WL.alloc (segs := [(32, (zB 32).map vu8)]) h_6 (zv typeInfo23 rfl) rfl (sC (s8 lr) sN) rfl (fun b_7 w_8 h_9 => ?_)
 refine qA (vi 0) rfl rfl ?_
 refine WL.nil (thn_n (WP.seq ?_))
 refine WP.drawT (SL w00.heap.size [.blk b_7 .nw 23 [(32, (zB 32).map vu8)], .blk b_4 .nw 70 [(1, [(vi 2)]), (32, (zB 32).map vu8), (1, [(vn pg)]), (128, gr.map vu8), (1, [(vu64 0)]), (8, (zW 8).map vu64), (1, [(.bool false)])], .blk b_1 .nw 23 [(32, md.map vu8)], .blk ob .nw 118 [(1, [(.bool id)]), (32, ms.map vu8), (1, [(.slice da dn dc)]), (1, [(vn u)]), (1, [(.map (some mp))]), (1, [(.slice la lg.length lc)])], .row la lg.length lc 96 67 lx, .obj mp .nw (.map (mArr lg) lg.length), .pin (sblks lx) (fun w => Lgs w lx lg), .view da (df.map vu8)]) (.q 1 (.q 2 (.s 0 (.s 3 (.q 4 .nil))))) (by kernel_rfl) (by kernel_rfl) rfl (by kernel_rfl) (fun w_10 hc_12 => (SL.cons ((h_9.same hc_12).ok _ M0) (SL.cons ((h_9.same hc_12).ok _ M1) (SL.cons ((h_9.same hc_12).ok _ M2) (SL.cons ((h_9.same hc_12).ok _ M3) (SL.cons ((h_9.same hc_12).ok _ M4) (SL.cons ((h_9.same hc_12).ok _ M5) (SL.cons ((h_9.same hc_12).ok _ M6) (SL.cons ((h_9.same hc_12).ok _ M7) (SL.nil _ _)))))))))) (fun w_10 hc_12 => ?_)
 have h_11 := h_9.same hc_12
 refine qT rfl rfl (fun wq hS => R.fieldAddr (off' := 0) rfl underlying70 rfl sizeOf68 rfl rfl) ?_
 refine qT rfl rfl (fun wq hS => R.load1 rfl isAgg68 (hS _ M1) Sg.h) ?_
 refine WT.s (oN rfl ?_)
 refine WL.call Tryz.call77 rfl rfl (c_addings _) rfl ?_
 rintro _ w_14 ⟨b_13, rfl, hc_15, hm_16, hb_17⟩
 have h_18 := h_11.pushObj hc_15 hm_16 hb_17
 refine WL.nil ?_
 refine ⟨(N1_2_3_4_5_6_7_8 h_18.ok), ?_⟩
 refine WT.s (oN rfl ?_)
 refine qV rfl (R.lookup1 (r := (some (0, (Value.func (Fn.func 110) [].toArray [].toArray)))) (z := .nilFunc) (v := (Value.func (Fn.func 110) [].toArray [].toArray)) rfl rfl underlying132 (h_18.ok _ M0) (Ck.int underlying68) (Fk.int underlying68 rfl) (zv typeInfo131 rfl) rfl) ?_
 refine WL.nil ?_
 refine ⟨(N1_2_3_4_5_6_7_8 h_18.ok), ?_⟩
 refine qT rfl rfl (fun wq hS => R.assign (v := (Value.func (Fn.func 110) [].toArray [].toArray)) rfl) ?_
 refine WT.nil (thn_n (WP.seq (WP.block (WP.seq (WP.reg ?_)))))
 refine qM (pO ob 0) rfl rfl ?_
 refine WL.call Tryz.call72 rfl rfl (c_mth id ob mp ms hms da dn dc u la lg.length lc _ (h_18.argR M4)) rfl ?_
 rintro _ w_20 ⟨rfl, hc_19⟩
 have h_21 := h_18.same hc_19
 refine qV rfl (R.not (b := true) rfl) (qA (.bool false) rfl rfl ?_)
 refine WL.nil (thn_n ?_)
 refine WP.condF rfl ?_
 refine WP.seq (WP.reg ?_)
 refine qM (Value.func (Fn.func 110) [].toArray [].toArray) rfl rfl (qV rfl (R.eqNilF rfl rfl underlying131) (qM (.bool false) rfl rfl ?_))
 refine WL.want rfl rfl ?_
 refine qV rfl (R.loadA [] [(1, [(vi 2)]), (32, (zB 32).map vu8), (1, [(vn pg)]), (128, gr.map vu8), (1, [(vu64 0)]), (8, (zW 8).map vu64), (1, [(.bool false)])] [] rfl isAgg70 sizeOf70 (h_21.ok _ M2) rfl rfl rfl rfl) ?_
 refine WL.want rfl rfl ?_
 refine WL.call Tryz.call35 rfl rfl (c_MayA 2 (by decide) (zB 32) lr ((pg : Nat) : Int) (by omega) gr hgr (0 : UInt64) (zW 8) lr false _ ) rfl ?_
 rintro _ w_23 ⟨rfl, hc_22⟩
 have h_24 := h_21.same hc_22
 refine WL.want rfl rfl ?_
 refine qV rfl (R.not (b := true) (congrArg Value.bool (decide_eq_true (Or.inr (Or.inl ⟨rfl, rfl, ⟨by omega, by omega⟩, rfl, rfl, rfl⟩))))) (qV rfl (R.pickF (v := (.bool false)) rfl rfl) (qA (.bool false) rfl rfl ?_))
 refine WL.nil (thn_n ?_)
 refine WP.condF rfl ?_
 refine WP.skip (inb_n (thn_n (WP.seq (WP.reg ?_))))
 refine qM (Value.func (Fn.func 110) [].toArray [].toArray) rfl rfl (qM (pO ob 0) rfl rfl (qV rfl (R.loadA [] [(32, md.map vu8)] [] (cs := md.map vu8) rfl isAgg23 sizeOf23 (h_24.ok _ M3) rfl rfl rfl rfl) (qV rfl (R.loadA [] [(1, [(vi 2)]), (32, (zB 32).map vu8), (1, [(vn pg)]), (128, gr.map vu8), (1, [(vu64 0)]), (8, (zW 8).map vu64), (1, [(.bool false)])] [] rfl isAgg70 sizeOf70 (h_24.ok _ M2) rfl rfl rfl rfl) ?_)))
 have h_29 := ((((h_24.up J8).up J8).up J8).up J8).up J8
 have h32_w_33 := Lgs.ok32 (h_29.ok _ M3).1
 refine WL.call Tryz.call110 rfl rfl (c_add1 id ob mp ms df hms da dn dc u hdf la lc lx lg hu hlg md hmd pg (by omega) gr hgr _ h_29) rfl ?_
 rintro _ w_33 ⟨la_30, lc_31, lx_32, rfl, h_34⟩
 refine qV rfl (R.extract rfl rfl) (qV rfl (R.extract rfl rfl) ?_)
 refine WL.storeA [] [(32, (zB 32).map vu8)] [(32, (anD id df dn u lg (1, (zB 32), 2, [md, leN 8 (UInt64.ofNat pg).toNat, gr].flatten)).map vu8)] [] h_34 rfl rfl sizeOf23 Y6 (by decide) rfl rfl rfl rfl rfl rfl (sC (s8 (anD_len hdf h32_w_33)) sN) (fun w_35 h_36 => ?_)
 refine qA (vi 0) rfl rfl ?_
 refine WL.nil (thn_n (WP.ret ?_))
 refine ret_of results34 (RV.cell rfl (h_36.loadA (cs := (anD id df dn u lg (1, (zB 32), 2, [md, leN 8 (UInt64.ofNat pg).toNat, gr].flatten)).map vu8) isAgg23 sizeOf23 M6 rfl rfl) (RV.tmp (v := (vi 0)) rfl RV.nil)) ?_
 have h_49 := ((((((((((((h_36.up J5).drop rfl).up J5).drop rfl).up J5).drop rfl).up J5).drop rfl).up J4).up J4).up J4).up J4).up J4
 exact ⟨_, _, _, rfl, h_49⟩

theorem c_Next_3 {w00 : World} {L : List Ent} (id : Bool) (ob mp : Nat) (ms df : List UInt8) (hms : ms.length = 32) (da : Option Addr) (dn dc u : Nat) (hdf : df.length = 32 * dn) (la : Option Addr) (lc : Nat) (lx : List Value) (lg : Lg) (hu : u ≤ 1000000) (hlg : lg.length ≤ 1000000) (md : List UInt8) (hmd : md.length = 32) (pc : UInt64) (rg : List UInt64) (hrg : rg.length = 8) (run : Bool) (h : decide (pc % 8 = 0) = true) (w : World) (h_0 : HP w00 w (Ent.blk ob .nw 118 [(1, [(.bool id)]), (32, ms.map vu8), (1, [(.slice da dn dc)]), (1, [(vi ((u : Nat) : Int))]), (1, [(.map (some mp))]), (1, [(.slice la lg.length lc)])] :: Ent.row la lg.length lc 96 67 lx :: Ent.obj mp .nw (.map (mArr lg) lg.length) :: Ent.pin (sblks lx) (fun w => Lgs w lx lg) :: Ent.view da (df.map vu8) :: L)) :
  Cs Tryz.prog 34 [(.pointer (some ⟨ob, 0, none⟩)), (.agg ⟨md.map vu8⟩), (.agg ⟨flat [(1, [(vi 3)]), (32, (List.replicate 32 (0 : UInt8)).map vu8), (1, [(vi 0)]), (128, (List.replicate 128 (0 : UInt8)).map vu8), (1, [(vu64 pc)]), (8, rg.map vu64), (1, [(.bool run)])]⟩)].toArray w (fun v w1 => ∃ la' lc' lx', v = (.tuple [(.agg ⟨(anD id df dn u lg (1, (List.replicate 32 (0 : UInt8)), 3, [md, recB pc rg run].flatten)).map vu8⟩), (vi 0)].toArray) ∧ HP w00 w1 (Ent.blk ob .nw 118 [(1, [(.bool id)]), (32, ms.map vu8), (1, [(.slice da dn dc)]), (1, [(vi (((anU id u lg (1, (List.replicate 32 (0 : UInt8)), 3, [md, recB pc rg run].flatten)) : Nat) : Int))]), (1, [(.map (some mp))]), (1, [(.slice la' ((anL id df dn u lg (1, (List.replicate 32 (0 : UInt8)), 3, [md, recB pc rg run].flatten)).length) lc')])] :: Ent.row la' ((anL id df dn u lg (1, (List.replicate 32 (0 : UInt8)), 3, [md, recB pc rg run].flatten)).length) lc' 96 67 lx' :: Ent.obj mp .nw (.map (mArr (anL id df dn u lg (1, (List.replicate 32 (0 : UInt8)), 3, [md, recB pc rg run].flatten))) ((anL id df dn u lg (1, (List.replicate 32 (0 : UInt8)), 3, [md, recB pc rg run].flatten)).length)) :: Ent.pin (sblks lx') (fun w => Lgs w lx' (anL id df dn u lg (1, (List.replicate 32 (0 : UInt8)), 3, [md, recB pc rg run].flatten))) :: Ent.view da (df.map vu8) :: L)) := by
 refine Cs.of (n := 34) (args := [(pO ob 0), (.agg ⟨md.map vu8⟩), (.agg ⟨flat [(1, [(vi 3)]), (32, (zB 32).map vu8), (1, [(vi 0)]), (128, (zB 128).map vu8), (1, [(vu64 pc)]), (8, rg.map vu64), (1, [(.bool run)])]⟩)]) Tryz.func34 rfl rfl rfl ?_
 refine WP.seq (WP.reg ?_)
 refine WL.box (segs := [(32, md.map vu8)]) h_0 rfl rfl (sC (s8 hmd) sN) rfl (fun b_1 w_2 h_3 => ?_)
 refine WL.box (segs := [(1, [(vi 3)]), (32, (zB 32).map vu8), (1, [(vi 0)]), (128, (zB 128).map vu8), (1, [(vu64 pc)]), (8, rg.map vu64), (1, [(.bool run)])]) h_3 rfl rfl (sC sV (sC (s8 lr) (sC sV (sC (s8 lr) (sC sV (sC (SOk.u64 hrg) (sC sV sN))))))) rfl (fun b_4 w_5 h_6 => ?_)
 refine WL.alloc (segs := [(32, (zB 32).map vu8)]) h_6 (zv typeInfo23 rfl) rfl (sC (s8 lr) sN) rfl (fun b_7 w_8 h_9 => ?_)
 refine qA (vi 0) rfl rfl ?_
 refine WL.nil (thn_n (WP.seq ?_))
 refine WP.drawT (SL w00.heap.size [.blk b_7 .nw 23 [(32, (zB 32).map vu8)], .blk b_4 .nw 70 [(1, [(vi 3)]), (32, (zB 32).map vu8), (1, [(vi 0)]), (128, (zB 128).map vu8), (1, [(vu64 pc)]), (8, rg.map vu64), (1, [(.bool run)])], .blk b_1 .nw 23 [(32, md.map vu8)], .blk ob .nw 118 [(1, [(.bool id)]), (32, ms.map vu8), (1, [(.slice da dn dc)]), (1, [(vn u)]), (1, [(.map (some mp))]), (1, [(.slice la lg.length lc)])], .row la lg.length lc 96 67 lx, .obj mp .nw (.map (mArr lg) lg.length), .pin (sblks lx) (fun w => Lgs w lx lg), .view da (df.map vu8)]) (.q 1 (.q 2 (.s 0 (.s 3 (.q 4 .nil))))) (by kernel_rfl) (by kernel_rfl) rfl (by kernel_rfl) (fun w_10 hc_12 => (SL.cons ((h_9.same hc_12).ok _ M0) (SL.cons ((h_9.same hc_12).ok _ M1) (SL.cons ((h_9.same hc_12).ok _ M2) (SL.cons ((h_9.same hc_12).ok _ M3) (SL.cons ((h_9.same hc_12).ok _ M4) (SL.cons ((h_9.same hc_12).ok _ M5) (SL.cons ((h_9.same hc_12).ok _ M6) (SL.cons ((h_9.same hc_12).ok _ M7) (SL.nil _ _)))))))))) (fun w_10 hc_12 => ?_)
 have h_11 := h_9.same hc_12
 refine qT rfl rfl (fun wq hS => R.fieldAddr (off' := 0) rfl underlying70 rfl sizeOf68 rfl rfl) ?_
 refine qT rfl rfl (fun wq hS => R.load1 rfl isAgg68 (hS _ M1) Sg.h) ?_
 refine WT.s (oN rfl ?_)
 refine WL.call Tryz.call77 rfl rfl (c_addings _) rfl ?_
 rintro _ w_14 ⟨b_13, rfl, hc_15, hm_16, hb_17⟩
 have h_18 := h_11.pushObj hc_15 hm_16 hb_17
 refine WL.nil ?_
 refine ⟨(N1_2_3_4_5_6_7_8 h_18.ok), ?_⟩
 refine WT.s (oN rfl ?_)
 refine qV rfl (R.lookup1 (r := (some (1, (Value.func (Fn.func 111) [].toArray [].toArray)))) (z := .nilFunc) (v := (Value.func (Fn.func 111) [].toArray [].toArray)) rfl rfl underlying132 (h_18.ok _ M0) (Ck.int underlying68) (Fk.int underlying68 rfl) (zv typeInfo131 rfl) rfl) ?_
 refine WL.nil ?_
 refine ⟨(N1_2_3_4_5_6_7_8 h_18.ok), ?_⟩
 refine qT rfl rfl (fun wq hS => R.assign (v := (Value.func (Fn.func 111) [].toArray [].toArray)) rfl) ?_
 refine WT.nil (thn_n (WP.seq (WP.block (WP.seq (WP.reg ?_)))))
 refine qM (pO ob 0) rfl rfl ?_
 refine WL.call Tryz.call72 rfl rfl (c_mth id ob mp ms hms da dn dc u la lg.length lc _ (h_18.argR M4)) rfl ?_
 rintro _ w_20 ⟨rfl, hc_19⟩
 have h_21 := h_18.same hc_19
 refine qV rfl (R.not (b := true) rfl) (qA (.bool false) rfl rfl ?_)
 refine WL.nil (thn_n ?_)
 refine WP.condF rfl ?_
 refine WP.seq (WP.reg ?_)
 refine qM (Value.func (Fn.func 111) [].toArray [].toArray) rfl rfl (qV rfl (R.eqNilF rfl rfl underlying131) (qM (.bool false) rfl rfl ?_))
 refine WL.want rfl rfl ?_
 refine qV rfl (R.loadA [] [(1, [(vi 3)]), (32, (zB 32).map vu8), (1, [(vi 0)]), (128, (zB 128).map vu8), (1, [(vu64 pc)]), (8, rg.map vu64), (1, [(.bool run)])] [] rfl isAgg70 sizeOf70 (h_21.ok _ M2) rfl rfl rfl rfl) ?_
 refine WL.want rfl rfl ?_
 refine WL.call Tryz.call35 rfl rfl (c_MayA 3 (by decide) (zB 32) lr 0 (by decide) (zB 128) lr pc rg hrg run _ ) rfl ?_
 rintro _ w_23 ⟨rfl, hc_22⟩
 have h_24 := h_21.same hc_22
 refine WL.want rfl rfl ?_
 refine qV rfl (R.not (b := true) (congrArg Value.bool (decide_eq_true (Or.inr (Or.inr ⟨rfl, rfl, rfl, rfl, h⟩))))) (qV rfl (R.pickF (v := (.bool false)) rfl rfl) (qA (.bool false) rfl rfl ?_))
 refine WL.nil (thn_n ?_)
 refine WP.condF rfl ?_
 refine WP.skip (inb_n (thn_n (WP.seq (WP.reg ?_))))
 refine qM (Value.func (Fn.func 111) [].toArray [].toArray) rfl rfl (qM (pO ob 0) rfl rfl (qV rfl (R.loadA [] [(32, md.map vu8)] [] (cs := md.map vu8) rfl isAgg23 sizeOf23 (h_24.ok _ M3) rfl rfl rfl rfl) (qV rfl (R.loadA [] [(1, [(vi 3)]), (32, (zB 32).map vu8), (1, [(vi 0)]), (128, (zB 128).map vu8), (1, [(vu64 pc)]), (8, rg.map vu64), (1, [(.bool run)])] [] rfl isAgg70 sizeOf70 (h_24.ok _ M2) rfl rfl rfl rfl) ?_)))
 have h_29 := ((((h_24.up J8).up J8).up J8).up J8).up J8
 have h32_w_33 := Lgs.ok32 (h_29.ok _ M3).1
 refine WL.call Tryz.call111 rfl rfl (c_add2 id ob mp ms df hms da dn dc u hdf la lc lx lg hu hlg md hmd pc rg hrg run h _ h_29) rfl ?_
 rintro _ w_33 ⟨la_30, lc_31, lx_32, rfl, h_34⟩
 refine qV rfl (R.extract rfl rfl) (qV rfl (R.extract rfl rfl) ?_)
 refine WL.storeA [] [(32, (zB 32).map vu8)] [(32, (anD id df dn u lg (1, (zB 32), 3, [md, recB pc rg run].flatten)).map vu8)] [] h_34 rfl rfl sizeOf23 Y6 (by decide) rfl rfl rfl rfl rfl rfl (sC (s8 (anD_len hdf h32_w_33)) sN) (fun w_35 h_36 => ?_)
 refine qA (vi 0) rfl rfl ?_
 refine WL.nil (thn_n (WP.ret ?_))
 refine ret_of results34 (RV.cell rfl (h_36.loadA (cs := (anD id df dn u lg (1, (zB 32), 3, [md, recB pc rg run].flatten)).map vu8) isAgg23 sizeOf23 M6 rfl rfl) (RV.tmp (v := (vi 0)) rfl RV.nil)) ?_
 have h_49 := ((((((((((((h_36.up J5).drop rfl).up J5).drop rfl).up J5).drop rfl).up J5).drop rfl).up J4).up J4).up J4).up J4).up J4
 exact ⟨_, _, _, rfl, h_49⟩

theorem c_NextA {w00 : World} {L : List Ent} (id : Bool) (ob mp : Nat) (ms df : List UInt8) (hms : ms.length = 32) (da : Option Addr) (dn dc u : Nat) (hdf : df.length = 32 * dn) (la : Option Addr) (lc : Nat) (lx : List Value) (lg : Lg) (hu : u ≤ 1000000) (hlg : lg.length ≤ 1000000) (md : List UInt8) (hmd : md.length = 32) (kd : Int) (hbk : -9223372036854775808 ≤ kd ∧ kd < 9223372036854775808) (val : List UInt8) (hvl : val.length = 32) (pg : Int) (hbp : -9223372036854775808 ≤ pg ∧ pg < 9223372036854775808) (gr : List UInt8) (hgr : gr.length = 128) (pc : UInt64) (rg : List UInt64) (hrg : rg.length = 8) (run : Bool) (hm : mayB kd val pg gr pc rg run = true) (hk : kd ≠ 1) (w : World) (h_0 : HP w00 w (Ent.blk ob .nw 118 [(1, [(.bool id)]), (32, ms.map vu8), (1, [(.slice da dn dc)]), (1, [(vi ((u : Nat) : Int))]), (1, [(.map (some mp))]), (1, [(.slice la lg.length lc)])] :: Ent.row la lg.length lc 96 67 lx :: Ent.obj mp .nw (.map (mArr lg) lg.length) :: Ent.pin (sblks lx) (fun w => Lgs w lx lg) :: Ent.view da (df.map vu8) :: L)) :
  Cs Tryz.prog 34 [(.pointer (some ⟨ob, 0, none⟩)), (.agg ⟨md.map vu8⟩), (.agg ⟨flat [(1, [(vi kd)]), (32, val.map vu8), (1, [(vi pg)]), (128, gr.map vu8), (1, [(vu64 pc)]), (8, rg.map vu64), (1, [(.bool run)])]⟩)].toArray w (fun v w1 => ∃ la' lc' lx', v = (.tuple [(.agg ⟨(anD id df dn u lg (qN md kd pg gr pc rg run)).map vu8⟩), (vi 0)].toArray) ∧ HP w00 w1 (Ent.blk ob .nw 118 [(1, [(.bool id)]), (32, ms.map vu8), (1, [(.slice da dn dc)]), (1, [(vi (((anU id u lg (qN md kd pg gr pc rg run)) : Nat) : Int))]), (1, [(.map (some mp))]), (1, [(.slice la' ((anL id df dn u lg (qN md kd pg gr pc rg run)).length) lc')])] :: Ent.row la' ((anL id df dn u lg (qN md kd pg gr pc rg run)).length) lc' 96 67 lx' :: Ent.obj mp .nw (.map (mArr (anL id df dn u lg (qN md kd pg gr pc rg run))) ((anL id df dn u lg (qN md kd pg gr pc rg run)).length)) :: Ent.pin (sblks lx') (fun w => Lgs w lx' (anL id df dn u lg (qN md kd pg gr pc rg run))) :: Ent.view da (df.map vu8) :: L)) := by
 rcases mayB_to hm with h | h | h
 ·exact absurd h.1 hk
 ·obtain ⟨rfl, rfl, hp, rfl, rfl, rfl⟩ := h
  obtain ⟨p, rfl⟩ := Int.eq_ofNat_of_zero_le hp.1
  rw [show qN md 2 (p : Int) gr 0 (List.replicate 8 (0 : UInt64)) false = (1, (List.replicate 32 (0 : UInt8)), 2, [md, leN 8 (UInt64.ofNat p).toNat, gr].flatten) from if_pos rfl]
  exact c_Next_2 id ob mp ms df hms da dn dc u hdf la lc lx lg hu hlg md hmd p (by omega) gr hgr w h_0
 ·obtain ⟨rfl, rfl, rfl, rfl, h⟩ := h
  rw [show qN md 3 0 (List.replicate 128 (0 : UInt8)) pc rg run = (1, (List.replicate 32 (0 : UInt8)), 3, [md, recB pc rg run].flatten) from if_neg (by decide)]
  exact c_Next_3 id ob mp ms df hms da dn dc u hdf la lc lx lg hu hlg md hmd pc rg hrg run h w h_0

theorem c_rNext_2 {w00 : World} {L : List Ent} (id : Bool) (ob : Nat) (ms df : List UInt8) (hms : ms.length = 32) (da : Option Addr) (dn dc u : Nat) (hdf : df.length = 32 * dn) (la : Option Addr) (lc : Nat) (lx : List Value) (lg : Lg) (hu : u ≤ 1000000) (hlg : lg.length ≤ 1000000) (md : List UInt8) (hmd : md.length = 32) (pg : Nat) (h : pg < 128) (gr : List UInt8) (hgr : gr.length = 128) (w : World) (h_0 : HP w00 w (Ent.blk ob .nw 47 [(1, [(.bool id)]), (32, ms.map vu8), (1, [(.slice da dn dc)]), (1, [(vi ((u : Nat) : Int))]), (1, [(.slice la lg.length lc)])] :: Ent.row la lg.length lc 96 67 lx :: Ent.pin (sblks lx) (fun w => Lgs w lx lg) :: Ent.view da (df.map vu8) :: L)) :
  Cs Tryz.prog 37 [(.pointer (some ⟨ob, 0, none⟩)), (.agg ⟨md.map vu8⟩), (.agg ⟨flat [(1, [(vi 2)]), (32, (List.replicate 32 (0 : UInt8)).map vu8), (1, [(vi ((pg : Nat) : Int))]), (128, gr.map vu8), (1, [(vu64 0)]), (8, (List.replicate 8 (0 : UInt64)).map vu64), (1, [(.bool false)])]⟩)].toArray w (fun v w1 => ∃ la' lc' lx', v = (.agg ⟨(anD id df dn u lg (1, (List.replicate 32 (0 : UInt8)), 2, [md, leN 8 (UInt64.ofNat pg).toNat, gr].flatten)).map vu8⟩) ∧ HP w00 w1 (Ent.blk ob .nw 47 [(1, [(.bool id)]), (32, ms.map vu8), (1, [(.slice da dn dc)]), (1, [(vi (((anU id u lg (1, (List.replicate 32 (0 : UInt8)), 2, [md, leN 8 (UInt64.ofNat pg).toNat, gr].flatten)) : Nat) : Int))]), (1, [(.slice la' ((anL id df dn u lg (1, (List.replicate 32 (0 : UInt8)), 2, [md, leN 8 (UInt64.ofNat pg).toNat, gr].flatten)).length) lc')])] :: Ent.row la' ((anL id df dn u lg (1, (List.replicate 32 (0 : UInt8)), 2, [md, leN 8 (UInt64.ofNat pg).toNat, gr].flatten)).length) lc' 96 67 lx' :: Ent.pin (sblks lx') (fun w => Lgs w lx' (anL id df dn u lg (1, (List.replicate 32 (0 : UInt8)), 2, [md, leN 8 (UInt64.ofNat pg).toNat, gr].flatten))) :: Ent.view da (df.map vu8) :: L)) := by
 refine Cs.of (n := 22) (args := [(pO ob 0), (.agg ⟨md.map vu8⟩), (.agg ⟨flat [(1, [(vi 2)]), (32, (zB 32).map vu8), (1, [(vn pg)]), (128, gr.map vu8), (1, [(vu64 0)]), (8, (zW 8).map vu64), (1, [(.bool false)])]⟩)]) Tryz.func37 rfl rfl rfl ?_
 refine WP.seq (WP.reg ?_)
 refine WL.box (segs := [(32, md.map vu8)]) h_0 rfl rfl (sC (s8 hmd) sN) rfl (fun b_1 w_2 h_3 => ?_)
 refine WL.box (segs := [(1, [(vi 2)]), (32, (zB 32).map vu8), (1, [(vn pg)]), (128, gr.map vu8), (1, [(vu64 0)]), (8, (zW 8).map vu64), (1, [(.bool false)])]) h_3 rfl rfl (sC sV (sC (s8 lr) (sC sV (sC (s8 hgr) (sC sV (sC (SOk.u64 lr) (sC sV sN))))))) rfl (fun b_4 w_5 h_6 => ?_)
 refine WL.alloc (segs := [(32, (zB 32).map vu8)]) h_6 (zv typeInfo23 rfl) rfl (sC (s8 lr) sN) rfl (fun b_7 w_8 h_9 => ?_)
 refine WL.nil (thn_n (WP.seq (WP.seq (WP.reg ?_))))
 refine qV rfl (R.fieldAddr (off' := 0) rfl underlying70 rfl sizeOf68 rfl rfl) (qV rfl (R.load1 rfl isAgg68 (h_9.ok _ M1) Sg.h) (qV rfl (R.bin rfl rfl (bi_eql (r := true) (by decide))) ?_))
 refine WL.nil (thn_n ?_)
 refine WP.condT rfl ?_
 refine WP.seq (WP.reg ?_)
 refine qM (pO ob 0) rfl rfl (qV rfl (R.loadA [] [(32, md.map vu8)] [] (cs := md.map vu8) rfl isAgg23 sizeOf23 (h_9.ok _ M2) rfl rfl rfl rfl) (qV rfl (R.fieldAddr (off' := 33) rfl underlying70 rfl sizeOf3 rfl rfl) (qV rfl (R.load1 rfl isAgg3 (h_9.ok _ M1) (Sg.t rfl (Sg.t rfl Sg.h))) (qV rfl (R.fieldAddr (off' := 34) rfl underlying70 rfl sizeOf29 rfl rfl) (qV rfl (R.loadA [(1, [(vi 2)]), (32, (zB 32).map vu8), (1, [(vn pg)])] [(128, gr.map vu8)] [(1, [(vu64 0)]), (8, (zW 8).map vu64), (1, [(.bool false)])] (cs := gr.map vu8) rfl isAgg29 sizeOf29 (h_9.ok _ M1) rfl rfl rfl rfl) ?_)))))
 have h_13 := (((h_9.up J6).up J6).up J6).up J6
 have h32_w_17 := (Lgs.ok32 (h_13.ok _ M2).1)
 refine WL.call Tryz.call30 rfl rfl (c_rData id ob ms df hms da dn dc u hdf la lc lx lg hu hlg md gr hmd hgr pg (by omega) _ h_13) rfl ?_
 rintro _ w_17 ⟨la_14, lc_15, lx_16, rfl, h_18⟩
 refine WL.storeA [] [(32, (zB 32).map vu8)] [(32, (anD id df dn u lg (1, (zB 32), 2, [md, leN 8 (UInt64.ofNat pg).toNat, gr].flatten)).map vu8)] [] h_18 rfl rfl sizeOf23 Y4 (by decide) rfl rfl rfl rfl rfl rfl (sC (s8 (anD_len hdf h32_w_17)) sN) (fun w_19 h_20 => ?_)
 refine WL.nil (thn_n (WP.ret (thn_r ?_)))
 refine ret_of results37 (RV.cell rfl (h_20.loadA (cs := (anD id df dn u lg (1, (zB 32), 2, [md, leN 8 (UInt64.ofNat pg).toNat, gr].flatten)).map vu8) isAgg23 sizeOf23 M4 rfl rfl) RV.nil) ?_
 have h_30 := (((((((((h_20.up J4).drop rfl).up J4).drop rfl).up J4).drop rfl).up J3).up J3).up J3).up J3
 exact ⟨_, _, _, rfl, h_30⟩

theorem c_rNext_3 {w00 : World} {L : List Ent} (id : Bool) (ob : Nat) (ms df : List UInt8) (hms : ms.length = 32) (da : Option Addr) (dn dc u : Nat) (hdf : df.length = 32 * dn) (la : Option Addr) (lc : Nat) (lx : List Value) (lg : Lg) (hu : u ≤ 1000000) (hlg : lg.length ≤ 1000000) (md : List UInt8) (hmd : md.length = 32) (pc : UInt64) (rg : List UInt64) (hrg : rg.length = 8) (run : Bool) (h : decide (pc % 8 = 0) = true) (w : World) (h_0 : HP w00 w (Ent.blk ob .nw 47 [(1, [(.bool id)]), (32, ms.map vu8), (1, [(.slice da dn dc)]), (1, [(vi ((u : Nat) : Int))]), (1, [(.slice la lg.length lc)])] :: Ent.row la lg.length lc 96 67 lx :: Ent.pin (sblks lx) (fun w => Lgs w lx lg) :: Ent.view da (df.map vu8) :: L)) :
  Cs Tryz.prog 37 [(.pointer (some ⟨ob, 0, none⟩)), (.agg ⟨md.map vu8⟩), (.agg ⟨flat [(1, [(vi 3)]), (32, (List.replicate 32 (0 : UInt8)).map vu8), (1, [(vi 0)]), (128, (List.replicate 128 (0 : UInt8)).map vu8), (1, [(vu64 pc)]), (8, rg.map vu64), (1, [(.bool run)])]⟩)].toArray w (fun v w1 => ∃ la' lc' lx', v = (.agg ⟨(anD id df dn u lg (1, (List.replicate 32 (0 : UInt8)), 3, [md, recB pc rg run].flatten)).map vu8⟩) ∧ HP w00 w1 (Ent.blk ob .nw 47 [(1, [(.bool id)]), (32, ms.map vu8), (1, [(.slice da dn dc)]), (1, [(vi (((anU id u lg (1, (List.replicate 32 (0 : UInt8)), 3, [md, recB pc rg run].flatten)) : Nat) : Int))]), (1, [(.slice la' ((anL id df dn u lg (1, (List.replicate 32 (0 : UInt8)), 3, [md, recB pc rg run].flatten)).length) lc')])] :: Ent.row la' ((anL id df dn u lg (1, (List.replicate 32 (0 : UInt8)), 3, [md, recB pc rg run].flatten)).length) lc' 96 67 lx' :: Ent.pin (sblks lx') (fun w => Lgs w lx' (anL id df dn u lg (1, (List.replicate 32 (0 : UInt8)), 3, [md, recB pc rg run].flatten))) :: Ent.view da (df.map vu8) :: L)) := by
 refine Cs.of (n := 22) (args := [(pO ob 0), (.agg ⟨md.map vu8⟩), (.agg ⟨flat [(1, [(vi 3)]), (32, (zB 32).map vu8), (1, [(vi 0)]), (128, (zB 128).map vu8), (1, [(vu64 pc)]), (8, rg.map vu64), (1, [(.bool run)])]⟩)]) Tryz.func37 rfl rfl rfl ?_
 refine WP.seq (WP.reg ?_)
 refine WL.box (segs := [(32, md.map vu8)]) h_0 rfl rfl (sC (s8 hmd) sN) rfl (fun b_1 w_2 h_3 => ?_)
 refine WL.box (segs := [(1, [(vi 3)]), (32, (zB 32).map vu8), (1, [(vi 0)]), (128, (zB 128).map vu8), (1, [(vu64 pc)]), (8, rg.map vu64), (1, [(.bool run)])]) h_3 rfl rfl (sC sV (sC (s8 lr) (sC sV (sC (s8 lr) (sC sV (sC (SOk.u64 hrg) (sC sV sN))))))) rfl (fun b_4 w_5 h_6 => ?_)
 refine WL.alloc (segs := [(32, (zB 32).map vu8)]) h_6 (zv typeInfo23 rfl) rfl (sC (s8 lr) sN) rfl (fun b_7 w_8 h_9 => ?_)
 refine WL.nil (thn_n (WP.seq (WP.seq (WP.reg ?_))))
 refine qV rfl (R.fieldAddr (off' := 0) rfl underlying70 rfl sizeOf68 rfl rfl) (qV rfl (R.load1 rfl isAgg68 (h_9.ok _ M1) Sg.h) (qV rfl (R.bin rfl rfl (bi_eql (r := false) (by decide))) ?_))
 refine WL.nil (thn_n ?_)
 refine WP.condF rfl ?_
 refine WP.skip (thn_n (WP.seq (WP.reg ?_)))
 refine qM (pO ob 0) rfl rfl (qV rfl (R.loadA [] [(32, md.map vu8)] [] (cs := md.map vu8) rfl isAgg23 sizeOf23 (h_9.ok _ M2) rfl rfl rfl rfl) (qV rfl (R.fieldAddr (off' := 162) rfl underlying70 rfl sizeOf57 rfl rfl) (qV rfl (R.loadA [(1, [(vi 3)]), (32, (zB 32).map vu8), (1, [(vi 0)]), (128, (zB 128).map vu8)] [(1, [(vu64 pc)]), (8, rg.map vu64), (1, [(.bool run)])] [] rfl isAgg57 sizeOf57 (h_9.ok _ M1) rfl rfl rfl rfl) ?_)))
 have h_13 := (((h_9.up J6).up J6).up J6).up J6
 have h32_w_17 := (Lgs.ok32 (h_13.ok _ M2).1)
 refine WL.call Tryz.call33 rfl rfl (c_rRec id ob ms df hms da dn dc u hdf la lc lx lg hu hlg md hmd pc rg hrg run _ h_13) rfl ?_
 rintro _ w_17 ⟨la_14, lc_15, lx_16, rfl, h_18⟩
 refine WL.storeA [] [(32, (zB 32).map vu8)] [(32, (anD id df dn u lg (1, (zB 32), 3, [md, recB pc rg run].flatten)).map vu8)] [] h_18 rfl rfl sizeOf23 Y4 (by decide) rfl rfl rfl rfl rfl rfl (sC (s8 (anD_len hdf h32_w_17)) sN) (fun w_19 h_20 => ?_)
 refine WL.nil (thn_n (WP.ret ?_))
 refine ret_of results37 (RV.cell rfl (h_20.loadA (cs := (anD id df dn u lg (1, (zB 32), 3, [md, recB pc rg run].flatten)).map vu8) isAgg23 sizeOf23 M4 rfl rfl) RV.nil) ?_
 have h_30 := (((((((((h_20.up J4).drop rfl).up J4).drop rfl).up J4).drop rfl).up J3).up J3).up J3).up J3
 exact ⟨_, _, _, rfl, h_30⟩

theorem c_rNextA {w00 : World} {L : List Ent} (id : Bool) (ob : Nat) (ms df : List UInt8) (hms : ms.length = 32) (da : Option Addr) (dn dc u : Nat) (hdf : df.length = 32 * dn) (la : Option Addr) (lc : Nat) (lx : List Value) (lg : Lg) (hu : u ≤ 1000000) (hlg : lg.length ≤ 1000000) (md : List UInt8) (hmd : md.length = 32) (kd : Int) (hbk : -9223372036854775808 ≤ kd ∧ kd < 9223372036854775808) (val : List UInt8) (hvl : val.length = 32) (pg : Int) (hbp : -9223372036854775808 ≤ pg ∧ pg < 9223372036854775808) (gr : List UInt8) (hgr : gr.length = 128) (pc : UInt64) (rg : List UInt64) (hrg : rg.length = 8) (run : Bool) (hm : mayB kd val pg gr pc rg run = true) (hk : kd ≠ 1) (w : World) (h_0 : HP w00 w (Ent.blk ob .nw 47 [(1, [(.bool id)]), (32, ms.map vu8), (1, [(.slice da dn dc)]), (1, [(vi ((u : Nat) : Int))]), (1, [(.slice la lg.length lc)])] :: Ent.row la lg.length lc 96 67 lx :: Ent.pin (sblks lx) (fun w => Lgs w lx lg) :: Ent.view da (df.map vu8) :: L)) :
  Cs Tryz.prog 37 [(.pointer (some ⟨ob, 0, none⟩)), (.agg ⟨md.map vu8⟩), (.agg ⟨flat [(1, [(vi kd)]), (32, val.map vu8), (1, [(vi pg)]), (128, gr.map vu8), (1, [(vu64 pc)]), (8, rg.map vu64), (1, [(.bool run)])]⟩)].toArray w (fun v w1 => ∃ la' lc' lx', v = (.agg ⟨(anD id df dn u lg (qN md kd pg gr pc rg run)).map vu8⟩) ∧ HP w00 w1 (Ent.blk ob .nw 47 [(1, [(.bool id)]), (32, ms.map vu8), (1, [(.slice da dn dc)]), (1, [(vi (((anU id u lg (qN md kd pg gr pc rg run)) : Nat) : Int))]), (1, [(.slice la' ((anL id df dn u lg (qN md kd pg gr pc rg run)).length) lc')])] :: Ent.row la' ((anL id df dn u lg (qN md kd pg gr pc rg run)).length) lc' 96 67 lx' :: Ent.pin (sblks lx') (fun w => Lgs w lx' (anL id df dn u lg (qN md kd pg gr pc rg run))) :: Ent.view da (df.map vu8) :: L)) := by
 rcases mayB_to hm with h | h | h
 ·exact absurd h.1 hk
 ·obtain ⟨rfl, rfl, hp, rfl, rfl, rfl⟩ := h
  obtain ⟨p, rfl⟩ := Int.eq_ofNat_of_zero_le hp.1
  rw [show qN md 2 (p : Int) gr 0 (List.replicate 8 (0 : UInt64)) false = (1, (List.replicate 32 (0 : UInt8)), 2, [md, leN 8 (UInt64.ofNat p).toNat, gr].flatten) from if_pos rfl]
  exact c_rNext_2 id ob ms df hms da dn dc u hdf la lc lx lg hu hlg md hmd p (by omega) gr hgr w h_0
 ·obtain ⟨rfl, rfl, rfl, rfl, h⟩ := h
  rw [show qN md 3 0 (List.replicate 128 (0 : UInt8)) pc rg run = (1, (List.replicate 32 (0 : UInt8)), 3, [md, recB pc rg run].flatten) from if_neg (by decide)]
  exact c_rNext_3 id ob ms df hms da dn dc u hdf la lc lx lg hu hlg md hmd pc rg hrg run h w h_0

theorem c_MayAll_2g (bc : Nat) (w : World) (hcr : (Ent.blk bc .ro 70 [(1, [(vi 2)]), (32, (List.replicate 32 (0 : UInt8)).map vu8), (1, [(vi 0)]), (128, (List.replicate 128 (0 : UInt8)).map vu8), (1, [(vu64 0)]), (8, (List.replicate 8 (0 : UInt64)).map vu64), (1, [(.bool false)])]).ok w.heap.size w) :
  Cs Tryz.prog 39 [(.slice (some ⟨bc, 0, none⟩) 1 1)].toArray w (fun v w1 => v = (.bool false) ∧ Chg w w1 []) := by
 refine Cs.of (n := 30) (args := [(.slice (some ⟨bc, 0, none⟩) 1 1)]) Tryz.func39 rfl rfl rfl ?_
 have h_0 := HP.init w
 have h_00 := h_0.old hcr (fun f hf => by cases hf)
 refine WP.seq (WP.reg ?_)
 refine qA (.bool false) rfl rfl ?_
 refine WL.nil (thn_n (WP.scope (WP.seq (WP.reg ?_))))
 refine qM (.slice (some ⟨bc, 0, none⟩) 1 1) rfl rfl (qV rfl (R.lenS (a := some ⟨bc, 0, none⟩) (m := 1) rfl rfl underlying75) (qV rfl (R.bin rfl rfl (bi_gtr (r := true) (by decide))) (qA (.bool true) rfl rfl ?_)))
 refine WL.nil (thn_n (WP.seq (WP.label (thn_n (WP.seq (WP.seq (WP.reg ?_)))))))
 refine qM (.slice (some ⟨bc, 0, none⟩) 1 1) rfl rfl (qV rfl (R.lenS (a := some ⟨bc, 0, none⟩) (m := 1) rfl rfl underlying75) (qM (vi 0) rfl rfl ?_))
 refine WL.nil (thn_n (WP.block ?_))
 refine WP.loopU (WI.round ?_)
 refine WP.seq (WP.reg ?_)
 refine qV rfl (R.bin rfl rfl (bi_lss (r := true) (by decide))) ?_
 refine WL.nil (thn_n (WP.seq ?_))
 refine WP.condT rfl ?_
 refine WP.skip (thn_n (WP.seq (WP.block (WP.seq (WP.reg ?_)))))
 refine qM (vi 0) rfl rfl (qV rfl (R.indexP (b := bc) (off := 0) (off' := 0) (i := 0) rfl rfl rfl (by decide) underlying75 sizeOf70 rfl) (qV rfl (R.loadA [] [(1, [(vi 2)]), (32, (zB 32).map vu8), (1, [(vi 0)]), (128, (zB 128).map vu8), (1, [(vu64 0)]), (8, (zW 8).map vu64), (1, [(.bool false)])] [] rfl isAgg70 sizeOf70 (h_00.ok _ M0) rfl rfl rfl rfl) ?_))
 refine WL.alloc (segs := [(1, [(vi 0)]), (32, (zB 32).map vu8), (1, [(vi 0)]), (128, (zB 128).map vu8), (1, [(vu64 0)]), (8, (zW 8).map vu64), (1, [(.bool false)])]) h_00 (zv typeInfo70 rfl) rfl (sC sV (sC (s8 lr) (sC sV (sC (s8 lr) (sC sV (sC (SOk.u64 lr) (sC sV sN))))))) rfl (fun b_1 w_2 h_3 => ?_)
 refine qA (vi 0) rfl rfl ?_
 refine WL.storeA [] [(1, [(vi 0)]), (32, (zB 32).map vu8), (1, [(vi 0)]), (128, (zB 128).map vu8), (1, [(vu64 0)]), (8, (zW 8).map vu64), (1, [(.bool false)])] [(1, [(vi 2)]), (32, (zB 32).map vu8), (1, [(vi 0)]), (128, (zB 128).map vu8), (1, [(vu64 0)]), (8, (zW 8).map vu64), (1, [(.bool false)])] [] h_3 rfl rfl sizeOf70 At.h (by decide) rfl rfl rfl rfl rfl rfl (sC sV (sC (s8 lr) (sC sV (sC (s8 lr) (sC sV (sC (SOk.u64 lr) (sC sV sN))))))) (fun w_4 h_5 => ?_)
 refine WL.nil (thn_n (WP.seq (WP.reg ?_)))
 refine qV rfl (R.loadA [] [(1, [(vi 2)]), (32, (zB 32).map vu8), (1, [(vi 0)]), (128, (zB 128).map vu8), (1, [(vu64 0)]), (8, (zW 8).map vu64), (1, [(.bool false)])] [] rfl isAgg70 sizeOf70 (h_5.ok _ M0) rfl rfl rfl rfl) ?_
 refine WL.call Tryz.call35 rfl rfl (c_MayA 2 (by decide) (zB 32) lr 0 (by decide) (zB 128) lr (0 : UInt64) (zW 8) lr false _ ) rfl ?_
 rintro _ w_7 ⟨rfl, hc_6⟩
 have h_8 := h_5.same hc_6
 refine qM (.bool (mayB 2 (zB 32) 0 (zB 128) (0 : UInt64) (zW 8) false)) rfl rfl ?_
 refine WL.want rfl (congrArg Value.bool (by decide +kernel)) ?_
 refine qV rfl (R.fieldAddr (off' := 0) rfl underlying70 rfl sizeOf68 rfl rfl) ?_
 refine WL.want rfl (congrArg Value.bool (by decide +kernel)) ?_
 refine qV rfl (R.load1 rfl isAgg68 (h_8.ok _ M0) Sg.h) ?_
 refine WL.want rfl (congrArg Value.bool (by decide +kernel)) ?_
 refine qV rfl (R.bin rfl rfl (bi_eql (r := false) (by decide))) ?_
 refine WL.want rfl (congrArg Value.bool (by decide +kernel)) ?_
 refine qM (vi 0) rfl rfl ?_
 refine WL.want rfl (congrArg Value.bool (by decide +kernel)) ?_
 refine qV rfl (R.bin rfl rfl (bi_eql (r := true) (by decide))) ?_
 refine WL.want rfl (congrArg Value.bool (by decide +kernel)) ?_
 refine qV rfl (R.eqB (a := false) (b := true) (c := false) rfl rfl underlying4 rfl) (qV rfl (R.pickT (v := (.bool false)) (congrArg Value.bool (by decide +kernel)) rfl) (qA (.bool false) rfl rfl ?_))
 refine WL.nil (thn_n (WP.seq (WP.reg ?_)))
 refine qM (.bool false) rfl rfl (qV rfl (R.not (b := false) rfl) ?_)
 refine WL.nil (thn_n ?_)
 refine WP.condT rfl ?_
 refine WP.exit (inb_miss rfl (thn_x (thn_x (inb_hit (thn_n (WP.seq (WP.reg ?_)))))))
 refine qM (.bool false) rfl rfl (qA (.bool false) rfl rfl ?_)
 refine WL.nil (thn_n (WP.ret (ng_r ?_)))
 refine ret_of results39 (RV.tmp (v := (.bool false)) rfl RV.nil) ?_
 exact ⟨rfl, h_8.chgS⟩

theorem c_Replay_2g (id : Bool) (ob mp : Nat) (ms : List UInt8) (hms : ms.length = 32) (da : Option Addr) (dn dc u : Nat) (la : Option Addr) (ln lc : Nat) (bc : Nat) (w : World) (hcb : (Ent.blk ob .ro 118 [(1, [(.bool id)]), (32, ms.map vu8), (1, [(.slice da dn dc)]), (1, [(vi ((u : Nat) : Int))]), (1, [(.map (some mp))]), (1, [(.slice la ln lc)])]).ok w.heap.size w) (hcr : (Ent.blk bc .ro 70 [(1, [(vi 2)]), (32, (List.replicate 32 (0 : UInt8)).map vu8), (1, [(vi 0)]), (128, (List.replicate 128 (0 : UInt8)).map vu8), (1, [(vu64 0)]), (8, (List.replicate 8 (0 : UInt64)).map vu64), (1, [(.bool false)])]).ok w.heap.size w) :
  Cs Tryz.prog 38 [(.pointer (some ⟨ob, 0, none⟩)), (.slice (some ⟨bc, 0, none⟩) 1 1)].toArray w (fun v w1 => v = (.tuple [(.agg ⟨(List.replicate 32 (0 : UInt8)).map vu8⟩), (vi 2)].toArray) ∧ Chg w w1 []) := by
 refine Cs.of (n := 51) (args := [(pO ob 0), (.slice (some ⟨bc, 0, none⟩) 1 1)]) Tryz.func38 rfl rfl rfl ?_
 have h_0 := HP.init w
 have h_01 := h_0.oldV hcb rfl (by simp [Ent.mut])
 have h_00 := h_01.oldV hcr rfl (by simp [Ent.mut])
 refine WP.seq (WP.reg ?_)
 refine WL.alloc (segs := [(32, (zB 32).map vu8)]) h_00 (zv typeInfo23 rfl) rfl (sC (s8 lr) sN) rfl (fun b_1 w_2 h_3 => ?_)
 refine qA (vi 0) rfl rfl ?_
 refine WL.nil (thn_n (WP.seq (WP.block (WP.seq (WP.reg ?_)))))
 refine qM (pO ob 0) rfl rfl ?_
 refine WL.call Tryz.call72 rfl rfl (c_mth id ob mp ms hms da dn dc u la ln lc _ (h_3.argR M2)) rfl ?_
 rintro _ w_5 ⟨rfl, hc_4⟩
 have h_6 := h_3.same hc_4
 refine qV rfl (R.not (b := true) rfl) (qA (.bool false) rfl rfl ?_)
 refine WL.nil (thn_n ?_)
 refine WP.condF rfl ?_
 refine WP.seq (WP.reg ?_)
 refine qM (.slice (some ⟨bc, 0, none⟩) 1 1) rfl rfl ?_
 refine WL.call Tryz.call39 rfl rfl (c_MayAll_2g bc _ (h_6.argR M1)) rfl ?_
 rintro _ w_8 ⟨rfl, hc_7⟩
 have h_9 := h_6.same hc_7
 refine qV rfl (R.not (b := false) rfl) (qA (.bool true) rfl rfl ?_)
 refine WL.nil (thn_n ?_)
 refine WP.condT rfl ?_
 refine WP.seq (WP.reg ?_)
 refine qV rfl (R.buildA (vs := []) (cs := (zB 32).map vu8) underlying23 sizeOf5 (zv typeInfo23 rfl) rfl rfl) ?_
 refine WL.storeA [] [(32, (zB 32).map vu8)] [(32, (zB 32).map vu8)] [] h_9 rfl rfl sizeOf23 At.h (by decide) rfl rfl rfl rfl rfl rfl (sC (s8 lr) sN) (fun w_10 h_11 => ?_)
 refine qA (vi 2) rfl rfl ?_
 refine WL.nil (thn_n (WP.ret (inb_r (thn_r ?_))))
 refine ret_of results38 (RV.cell rfl (h_11.loadA (cs := (zB 32).map vu8) isAgg23 sizeOf23 M0 rfl rfl) (RV.tmp (v := (vi 2)) rfl RV.nil)) ?_
 exact ⟨rfl, h_11.chgS⟩

theorem c_known12g  (w : World) :
  Cs Tryz.prog 23 [].toArray w (fun v w1 => v = (.bool true) ∧ Chg w w1 []) := by
 refine Cs.of (n := 80) (args := []) Tryz.func23 rfl rfl rfl ?_
 have h_0 := HP.init w
 refine WP.seq (WP.reg ?_)
 refine qA (.bool false) rfl rfl ?_
 refine WL.nil (thn_n (WP.seq (WP.reg ?_)))
 refine qV rfl (R.buildA (vs := []) (cs := (zB 32).map vu8) underlying23 sizeOf5 (zv typeInfo23 rfl) rfl rfl) ?_
 refine WL.call Tryz.call71 rfl rfl (c_dr1  _ ) rfl ?_
 rintro _ w_2 ⟨rfl, hc_1⟩
 have h_3 := h_0.same hc_1
 refine WL.call Tryz.call71 rfl rfl (c_dr2  _ ) rfl ?_
 rintro _ w_5 ⟨rfl, hc_4⟩
 have h_6 := h_3.same hc_4
 refine WL.buildSl (vs := [(0, (.agg ⟨([1, 0, 0, 0, 0, 0, 0, 0, 0, 0, 0, 0, 0, 0, 0, 0, 0, 0, 0, 0, 0, 0, 0, 0, 0, 0, 0, 0, 0, 0, 0, 2] : List UInt8).map vu8⟩)), (1, (.agg ⟨([2, 0, 0, 0, 0, 0, 0, 0, 0, 0, 0, 0, 0, 0, 0, 0, 0, 0, 0, 0, 0, 0, 0, 0, 0, 0, 0, 0, 0, 0, 0, 2] : List UInt8).map vu8⟩))]) (cs := (([1, 0, 0, 0, 0, 0, 0, 0, 0, 0, 0, 0, 0, 0, 0, 0, 0, 0, 0, 0, 0, 0, 0, 0, 0, 0, 0, 0, 0, 0, 0, 2] : List UInt8) ++ ([2, 0, 0, 0, 0, 0, 0, 0, 0, 0, 0, 0, 0, 0, 0, 0, 0, 0, 0, 0, 0, 0, 0, 0, 0, 0, 0, 0, 0, 0, 0, 2] : List UInt8)).map vu8) h_6 underlying24 sizeOf23 (zv typeInfo23 rfl) rfl rfl (fill_2 (by kernel_rfl) (rfl : List.length ([1, 0, 0, 0, 0, 0, 0, 0, 0, 0, 0, 0, 0, 0, 0, 0, 0, 0, 0, 0, 0, 0, 0, 0, 0, 0, 0, 0, 0, 0, 0, 2] : List UInt8) = 32) (rfl : List.length ([2, 0, 0, 0, 0, 0, 0, 0, 0, 0, 0, 0, 0, 0, 0, 0, 0, 0, 0, 0, 0, 0, 0, 0, 0, 0, 0, 0, 0, 0, 0, 2] : List UInt8) = 32)) (len_map (show List.length (([1, 0, 0, 0, 0, 0, 0, 0, 0, 0, 0, 0, 0, 0, 0, 0, 0, 0, 0, 0, 0, 0, 0, 0, 0, 0, 0, 0, 0, 0, 0, 2] : List UInt8) ++ ([2, 0, 0, 0, 0, 0, 0, 0, 0, 0, 0, 0, 0, 0, 0, 0, 0, 0, 0, 0, 0, 0, 0, 0, 0, 0, 0, 0, 0, 0, 0, 2] : List UInt8)) = 2 * 32 from rfl)) (one_u8 _) rfl rfl (fun b_7 w_8 h_9 => ?_)
 have h_10 := HP.blkRow (m := 2) (s := 32) h_9 At.h rfl (by simp only [maxLen]; decide)
 have h_11 := h_10.rowView
 refine WL.call Tryz.call46 rfl rfl (c_ONew true (zB 32) (([1, 0, 0, 0, 0, 0, 0, 0, 0, 0, 0, 0, 0, 0, 0, 0, 0, 0, 0, 0, 0, 0, 0, 0, 0, 0, 0, 0, 0, 0, 0, 2] : List UInt8) ++ ([2, 0, 0, 0, 0, 0, 0, 0, 0, 0, 0, 0, 0, 0, 0, 0, 0, 0, 0, 0, 0, 0, 0, 0, 0, 0, 0, 0, 0, 0, 0, 2] : List UInt8)) lr (some ⟨b_7, 0, none⟩) 2 2 (rfl : List.length (([1, 0, 0, 0, 0, 0, 0, 0, 0, 0, 0, 0, 0, 0, 0, 0, 0, 0, 0, 0, 0, 0, 0, 0, 0, 0, 0, 0, 0, 0, 0, 2] : List UInt8) ++ ([2, 0, 0, 0, 0, 0, 0, 0, 0, 0, 0, 0, 0, 0, 0, 0, 0, 0, 0, 0, 0, 0, 0, 0, 0, 0, 0, 0, 0, 0, 0, 2] : List UInt8)) = 64) (by decide) _ h_11) rfl ?_
 rintro _ w_16 ⟨b_12, b_13, a_14, c_15, rfl, h_17⟩
 refine qA (pO b_12 0) rfl rfl ?_
 refine WL.nil (thn_n (WP.seq (WP.reg ?_)))
 refine qM (pO b_12 0) rfl rfl (qV rfl (R.buildS (pl := [(0, 32), (32, 1)]) (zs := [(32, (zB 32).map vu8), (1, [(vu64 0)])]) (vs := []) (out := [(32, (zB 32).map vu8), (1, [(vu64 0)])]) underlying54 (zv typeInfo54 rfl) rfl (sC (s8 lr) (sC sV sN)) (pl54 _ underlying54) rfl FillR.nil rfl) ?_)
 have h_23 := ((((h_17.up J4).up J4).up J4).up J4).up J4
 have h32_w_27 := Lgs.ok32 (h_23.ok _ M3).1
 refine WL.call Tryz.call25 rfl rfl (c_Begin true b_12 b_13 (zB 32) (([1, 0, 0, 0, 0, 0, 0, 0, 0, 0, 0, 0, 0, 0, 0, 0, 0, 0, 0, 0, 0, 0, 0, 0, 0, 0, 0, 0, 0, 0, 0, 2] : List UInt8) ++ ([2, 0, 0, 0, 0, 0, 0, 0, 0, 0, 0, 0, 0, 0, 0, 0, 0, 0, 0, 0, 0, 0, 0, 0, 0, 0, 0, 0, 0, 0, 0, 2] : List UInt8)) lr a_14 2 c_15 0 (rfl : List.length (([1, 0, 0, 0, 0, 0, 0, 0, 0, 0, 0, 0, 0, 0, 0, 0, 0, 0, 0, 0, 0, 0, 0, 0, 0, 0, 0, 0, 0, 0, 0, 2] : List UInt8) ++ ([2, 0, 0, 0, 0, 0, 0, 0, 0, 0, 0, 0, 0, 0, 0, 0, 0, 0, 0, 0, 0, 0, 0, 0, 0, 0, 0, 0, 0, 0, 0, 2] : List UInt8)) = 64) none 0 [] ([] : Lg) (by decide) (by decide) (zB 32) lr (0 : UInt64) _ h_23) rfl ?_
 rintro _ w_27 ⟨la_24, lc_25, lx_26, rfl, h_28⟩
 refine qM (.tuple [(.agg ⟨(anD true (([1, 0, 0, 0, 0, 0, 0, 0, 0, 0, 0, 0, 0, 0, 0, 0, 0, 0, 0, 0, 0, 0, 0, 0, 0, 0, 0, 0, 0, 0, 0, 2] : List UInt8) ++ ([2, 0, 0, 0, 0, 0, 0, 0, 0, 0, 0, 0, 0, 0, 0, 0, 0, 0, 0, 0, 0, 0, 0, 0, 0, 0, 0, 0, 0, 0, 0, 2] : List UInt8)) 2 0 ([] : Lg) (1, (zB 32), 1, [List.replicate 32 (0 : UInt8)].flatten)).map vu8⟩), (vi 0)].toArray) rfl rfl (qV rfl (R.extract rfl rfl) (qV rfl (R.extract rfl rfl) ?_))
 refine WL.alloc (segs := [(32, (zB 32).map vu8)]) h_28 (zv typeInfo23 rfl) rfl (sC (s8 lr) sN) rfl (fun b_29 w_30 h_31 => ?_)
 refine WL.storeA [] [(32, (zB 32).map vu8)] [(32, (anD true (([1, 0, 0, 0, 0, 0, 0, 0, 0, 0, 0, 0, 0, 0, 0, 0, 0, 0, 0, 0, 0, 0, 0, 0, 0, 0, 0, 0, 0, 0, 0, 2] : List UInt8) ++ ([2, 0, 0, 0, 0, 0, 0, 0, 0, 0, 0, 0, 0, 0, 0, 0, 0, 0, 0, 0, 0, 0, 0, 0, 0, 0, 0, 0, 0, 0, 0, 2] : List UInt8)) 2 0 ([] : Lg) (1, (zB 32), 1, [List.replicate 32 (0 : UInt8)].flatten)).map vu8)] [] h_31 rfl rfl sizeOf23 At.h (by decide) rfl rfl rfl rfl rfl rfl (sC (s8 (anD_len (rfl : List.length (([1, 0, 0, 0, 0, 0, 0, 0, 0, 0, 0, 0, 0, 0, 0, 0, 0, 0, 0, 0, 0, 0, 0, 0, 0, 0, 0, 0, 0, 0, 0, 2] : List UInt8) ++ ([2, 0, 0, 0, 0, 0, 0, 0, 0, 0, 0, 0, 0, 0, 0, 0, 0, 0, 0, 0, 0, 0, 0, 0, 0, 0, 0, 0, 0, 0, 0, 2] : List UInt8)) = 64) h32_w_27)) sN) (fun w_32 h_33 => ?_)
 refine qA (vi 0) rfl rfl ?_
 refine WL.nil (thn_n (WP.seq (WP.reg ?_)))
 refine qM (pO b_12 0) rfl rfl (qV rfl (R.loadA [] [(32, (anD true (([1, 0, 0, 0, 0, 0, 0, 0, 0, 0, 0, 0, 0, 0, 0, 0, 0, 0, 0, 0, 0, 0, 0, 0, 0, 0, 0, 0, 0, 0, 0, 2] : List UInt8) ++ ([2, 0, 0, 0, 0, 0, 0, 0, 0, 0, 0, 0, 0, 0, 0, 0, 0, 0, 0, 0, 0, 0, 0, 0, 0, 0, 0, 0, 0, 0, 0, 2] : List UInt8)) 2 0 ([] : Lg) (1, (zB 32), 1, [List.replicate 32 (0 : UInt8)].flatten)).map vu8)] [] (cs := (anD true (([1, 0, 0, 0, 0, 0, 0, 0, 0, 0, 0, 0, 0, 0, 0, 0, 0, 0, 0, 0, 0, 0, 0, 0, 0, 0, 0, 0, 0, 0, 0, 2] : List UInt8) ++ ([2, 0, 0, 0, 0, 0, 0, 0, 0, 0, 0, 0, 0, 0, 0, 0, 0, 0, 0, 0, 0, 0, 0, 0, 0, 0, 0, 0, 0, 0, 0, 2] : List UInt8)) 2 0 ([] : Lg) (1, (zB 32), 1, [List.replicate 32 (0 : UInt8)].flatten)).map vu8) rfl isAgg23 sizeOf23 (h_33.ok _ M0) rfl rfl rfl rfl) (qV rfl (R.buildA (vs := []) (cs := (zB 128).map vu8) underlying29 sizeOf5 (zv typeInfo29 rfl) rfl rfl) ?_))
 have h_38 := ((((h_33.up J5).up J5).up J5).up J5).up J5
 have h32_w_42 := Lgs.ok32 (h_38.ok _ M3).1
 refine WL.call Tryz.call28 rfl rfl (c_Data true b_12 b_13 (zB 32) (([1, 0, 0, 0, 0, 0, 0, 0, 0, 0, 0, 0, 0, 0, 0, 0, 0, 0, 0, 0, 0, 0, 0, 0, 0, 0, 0, 0, 0, 0, 0, 2] : List UInt8) ++ ([2, 0, 0, 0, 0, 0, 0, 0, 0, 0, 0, 0, 0, 0, 0, 0, 0, 0, 0, 0, 0, 0, 0, 0, 0, 0, 0, 0, 0, 0, 0, 2] : List UInt8)) lr a_14 2 c_15 (anU true 0 ([] : Lg) (1, (zB 32), 1, [List.replicate 32 (0 : UInt8)].flatten)) (rfl : List.length (([1, 0, 0, 0, 0, 0, 0, 0, 0, 0, 0, 0, 0, 0, 0, 0, 0, 0, 0, 0, 0, 0, 0, 0, 0, 0, 0, 0, 0, 0, 0, 2] : List UInt8) ++ ([2, 0, 0, 0, 0, 0, 0, 0, 0, 0, 0, 0, 0, 0, 0, 0, 0, 0, 0, 0, 0, 0, 0, 0, 0, 0, 0, 0, 0, 0, 0, 2] : List UInt8)) = 64) la_24 lc_25 lx_26 (anL true (([1, 0, 0, 0, 0, 0, 0, 0, 0, 0, 0, 0, 0, 0, 0, 0, 0, 0, 0, 0, 0, 0, 0, 0, 0, 0, 0, 0, 0, 0, 0, 2] : List UInt8) ++ ([2, 0, 0, 0, 0, 0, 0, 0, 0, 0, 0, 0, 0, 0, 0, 0, 0, 0, 0, 0, 0, 0, 0, 0, 0, 0, 0, 0, 0, 0, 0, 2] : List UInt8)) 2 0 ([] : Lg) (1, (zB 32), 1, [List.replicate 32 (0 : UInt8)].flatten)) (by decide) (by decide) (anD true (([1, 0, 0, 0, 0, 0, 0, 0, 0, 0, 0, 0, 0, 0, 0, 0, 0, 0, 0, 0, 0, 0, 0, 0, 0, 0, 0, 0, 0, 0, 0, 2] : List UInt8) ++ ([2, 0, 0, 0, 0, 0, 0, 0, 0, 0, 0, 0, 0, 0, 0, 0, 0, 0, 0, 0, 0, 0, 0, 0, 0, 0, 0, 0, 0, 0, 0, 2] : List UInt8)) 2 0 ([] : Lg) (1, (zB 32), 1, [List.replicate 32 (0 : UInt8)].flatten)) (zB 128) (anD_len (rfl : List.length (([1, 0, 0, 0, 0, 0, 0, 0, 0, 0, 0, 0, 0, 0, 0, 0, 0, 0, 0, 0, 0, 0, 0, 0, 0, 0, 0, 0, 0, 0, 0, 2] : List UInt8) ++ ([2, 0, 0, 0, 0, 0, 0, 0, 0, 0, 0, 0, 0, 0, 0, 0, 0, 0, 0, 0, 0, 0, 0, 0, 0, 0, 0, 0, 0, 0, 0, 2] : List UInt8)) = 64) h32_w_27) lr 3 (by omega) _ h_38) rfl ?_
 rintro _ w_42 ⟨la_39, lc_40, lx_41, rfl, h_43⟩
 refine qM (.tuple [(.agg ⟨(anD true (([1, 0, 0, 0, 0, 0, 0, 0, 0, 0, 0, 0, 0, 0, 0, 0, 0, 0, 0, 0, 0, 0, 0, 0, 0, 0, 0, 0, 0, 0, 0, 2] : List UInt8) ++ ([2, 0, 0, 0, 0, 0, 0, 0, 0, 0, 0, 0, 0, 0, 0, 0, 0, 0, 0, 0, 0, 0, 0, 0, 0, 0, 0, 0, 0, 0, 0, 2] : List UInt8)) 2 (anU true 0 ([] : Lg) (1, (zB 32), 1, [List.replicate 32 (0 : UInt8)].flatten)) (anL true (([1, 0, 0, 0, 0, 0, 0, 0, 0, 0, 0, 0, 0, 0, 0, 0, 0, 0, 0, 0, 0, 0, 0, 0, 0, 0, 0, 0, 0, 0, 0, 2] : List UInt8) ++ ([2, 0, 0, 0, 0, 0, 0, 0, 0, 0, 0, 0, 0, 0, 0, 0, 0, 0, 0, 0, 0, 0, 0, 0, 0, 0, 0, 0, 0, 0, 0, 2] : List UInt8)) 2 0 ([] : Lg) (1, (zB 32), 1, [List.replicate 32 (0 : UInt8)].flatten)) (1, (zB 32), 2, [anD true (([1, 0, 0, 0, 0, 0, 0, 0, 0, 0, 0, 0, 0, 0, 0, 0, 0, 0, 0, 0, 0, 0, 0, 0, 0, 0, 0, 0, 0, 0, 0, 2] : List UInt8) ++ ([2, 0, 0, 0, 0, 0, 0, 0, 0, 0, 0, 0, 0, 0, 0, 0, 0, 0, 0, 0, 0, 0, 0, 0, 0, 0, 0, 0, 0, 0, 0, 2] : List UInt8)) 2 0 ([] : Lg) (1, (zB 32), 1, [List.replicate 32 (0 : UInt8)].flatten), leN 8 (UInt64.ofNat 3).toNat, List.replicate 128 (0 : UInt8)].flatten)).map vu8⟩), (vi 0)].toArray) rfl rfl (qV rfl (R.extract rfl rfl) (qV rfl (R.extract rfl rfl) ?_))
 refine WL.alloc (segs := [(32, (zB 32).map vu8)]) h_43 (zv typeInfo23 rfl) rfl (sC (s8 lr) sN) rfl (fun b_44 w_45 h_46 => ?_)
 refine WL.storeA [] [(32, (zB 32).map vu8)] [(32, (anD true (([1, 0, 0, 0, 0, 0, 0, 0, 0, 0, 0, 0, 0, 0, 0, 0, 0, 0, 0, 0, 0, 0, 0, 0, 0, 0, 0, 0, 0, 0, 0, 2] : List UInt8) ++ ([2, 0, 0, 0, 0, 0, 0, 0, 0, 0, 0, 0, 0, 0, 0, 0, 0, 0, 0, 0, 0, 0, 0, 0, 0, 0, 0, 0, 0, 0, 0, 2] : List UInt8)) 2 (anU true 0 ([] : Lg) (1, (zB 32), 1, [List.replicate 32 (0 : UInt8)].flatten)) (anL true (([1, 0, 0, 0, 0, 0, 0, 0, 0, 0, 0, 0, 0, 0, 0, 0, 0, 0, 0, 0, 0, 0, 0, 0, 0, 0, 0, 0, 0, 0, 0, 2] : List UInt8) ++ ([2, 0, 0, 0, 0, 0, 0, 0, 0, 0, 0, 0, 0, 0, 0, 0, 0, 0, 0, 0, 0, 0, 0, 0, 0, 0, 0, 0, 0, 0, 0, 2] : List UInt8)) 2 0 ([] : Lg) (1, (zB 32), 1, [List.replicate 32 (0 : UInt8)].flatten)) (1, (zB 32), 2, [anD true (([1, 0, 0, 0, 0, 0, 0, 0, 0, 0, 0, 0, 0, 0, 0, 0, 0, 0, 0, 0, 0, 0, 0, 0, 0, 0, 0, 0, 0, 0, 0, 2] : List UInt8) ++ ([2, 0, 0, 0, 0, 0, 0, 0, 0, 0, 0, 0, 0, 0, 0, 0, 0, 0, 0, 0, 0, 0, 0, 0, 0, 0, 0, 0, 0, 0, 0, 2] : List UInt8)) 2 0 ([] : Lg) (1, (zB 32), 1, [List.replicate 32 (0 : UInt8)].flatten), leN 8 (UInt64.ofNat 3).toNat, List.replicate 128 (0 : UInt8)].flatten)).map vu8)] [] h_46 rfl rfl sizeOf23 At.h (by decide) rfl rfl rfl rfl rfl rfl (sC (s8 (anD_len (rfl : List.length (([1, 0, 0, 0, 0, 0, 0, 0, 0, 0, 0, 0, 0, 0, 0, 0, 0, 0, 0, 0, 0, 0, 0, 0, 0, 0, 0, 0, 0, 0, 0, 2] : List UInt8) ++ ([2, 0, 0, 0, 0, 0, 0, 0, 0, 0, 0, 0, 0, 0, 0, 0, 0, 0, 0, 0, 0, 0, 0, 0, 0, 0, 0, 0, 0, 0, 0, 2] : List UInt8)) = 64) h32_w_42)) sN) (fun w_47 h_48 => ?_)
 refine qA (vi 0) rfl rfl ?_
 refine WL.nil (thn_n (WP.seq (WP.reg ?_)))
 refine qM (pO b_12 0) rfl rfl (qV rfl (R.loadA [] [(32, (anD true (([1, 0, 0, 0, 0, 0, 0, 0, 0, 0, 0, 0, 0, 0, 0, 0, 0, 0, 0, 0, 0, 0, 0, 0, 0, 0, 0, 0, 0, 0, 0, 2] : List UInt8) ++ ([2, 0, 0, 0, 0, 0, 0, 0, 0, 0, 0, 0, 0, 0, 0, 0, 0, 0, 0, 0, 0, 0, 0, 0, 0, 0, 0, 0, 0, 0, 0, 2] : List UInt8)) 2 0 ([] : Lg) (1, (zB 32), 1, [List.replicate 32 (0 : UInt8)].flatten)).map vu8)] [] (cs := (anD true (([1, 0, 0, 0, 0, 0, 0, 0, 0, 0, 0, 0, 0, 0, 0, 0, 0, 0, 0, 0, 0, 0, 0, 0, 0, 0, 0, 0, 0, 0, 0, 2] : List UInt8) ++ ([2, 0, 0, 0, 0, 0, 0, 0, 0, 0, 0, 0, 0, 0, 0, 0, 0, 0, 0, 0, 0, 0, 0, 0, 0, 0, 0, 0, 0, 0, 0, 2] : List UInt8)) 2 0 ([] : Lg) (1, (zB 32), 1, [List.replicate 32 (0 : UInt8)].flatten)).map vu8) rfl isAgg23 sizeOf23 (h_48.ok _ M6) rfl rfl rfl rfl) (qV rfl (R.buildA (vs := []) (cs := (zB 128).map vu8) underlying29 sizeOf5 (zv typeInfo29 rfl) rfl rfl) ?_))
 refine WL.call Tryz.call28 rfl rfl (c_Data_big true b_12 b_13 (zB 32) lr a_14 2 c_15 (anU true (anU true 0 ([] : Lg) (1, (zB 32), 1, [List.replicate 32 (0 : UInt8)].flatten)) (anL true (([1, 0, 0, 0, 0, 0, 0, 0, 0, 0, 0, 0, 0, 0, 0, 0, 0, 0, 0, 0, 0, 0, 0, 0, 0, 0, 0, 0, 0, 0, 0, 2] : List UInt8) ++ ([2, 0, 0, 0, 0, 0, 0, 0, 0, 0, 0, 0, 0, 0, 0, 0, 0, 0, 0, 0, 0, 0, 0, 0, 0, 0, 0, 0, 0, 0, 0, 2] : List UInt8)) 2 0 ([] : Lg) (1, (zB 32), 1, [List.replicate 32 (0 : UInt8)].flatten)) (1, (zB 32), 2, [anD true (([1, 0, 0, 0, 0, 0, 0, 0, 0, 0, 0, 0, 0, 0, 0, 0, 0, 0, 0, 0, 0, 0, 0, 0, 0, 0, 0, 0, 0, 0, 0, 2] : List UInt8) ++ ([2, 0, 0, 0, 0, 0, 0, 0, 0, 0, 0, 0, 0, 0, 0, 0, 0, 0, 0, 0, 0, 0, 0, 0, 0, 0, 0, 0, 0, 0, 0, 2] : List UInt8)) 2 0 ([] : Lg) (1, (zB 32), 1, [List.replicate 32 (0 : UInt8)].flatten), leN 8 (UInt64.ofNat 3).toNat, List.replicate 128 (0 : UInt8)].flatten)) la_39 ((anL true (([1, 0, 0, 0, 0, 0, 0, 0, 0, 0, 0, 0, 0, 0, 0, 0, 0, 0, 0, 0, 0, 0, 0, 0, 0, 0, 0, 0, 0, 0, 0, 2] : List UInt8) ++ ([2, 0, 0, 0, 0, 0, 0, 0, 0, 0, 0, 0, 0, 0, 0, 0, 0, 0, 0, 0, 0, 0, 0, 0, 0, 0, 0, 0, 0, 0, 0, 2] : List UInt8)) 2 (anU true 0 ([] : Lg) (1, (zB 32), 1, [List.replicate 32 (0 : UInt8)].flatten)) (anL true (([1, 0, 0, 0, 0, 0, 0, 0, 0, 0, 0, 0, 0, 0, 0, 0, 0, 0, 0, 0, 0, 0, 0, 0, 0, 0, 0, 0, 0, 0, 0, 2] : List UInt8) ++ ([2, 0, 0, 0, 0, 0, 0, 0, 0, 0, 0, 0, 0, 0, 0, 0, 0, 0, 0, 0, 0, 0, 0, 0, 0, 0, 0, 0, 0, 0, 0, 2] : List UInt8)) 2 0 ([] : Lg) (1, (zB 32), 1, [List.replicate 32 (0 : UInt8)].flatten)) (1, (zB 32), 2, [anD true (([1, 0, 0, 0, 0, 0, 0, 0, 0, 0, 0, 0, 0, 0, 0, 0, 0, 0, 0, 0, 0, 0, 0, 0, 0, 0, 0, 0, 0, 0, 0, 2] : List UInt8) ++ ([2, 0, 0, 0, 0, 0, 0, 0, 0, 0, 0, 0, 0, 0, 0, 0, 0, 0, 0, 0, 0, 0, 0, 0, 0, 0, 0, 0, 0, 0, 0, 2] : List UInt8)) 2 0 ([] : Lg) (1, (zB 32), 1, [List.replicate 32 (0 : UInt8)].flatten), leN 8 (UInt64.ofNat 3).toNat, List.replicate 128 (0 : UInt8)].flatten)).length) lc_40 (anD true (([1, 0, 0, 0, 0, 0, 0, 0, 0, 0, 0, 0, 0, 0, 0, 0, 0, 0, 0, 0, 0, 0, 0, 0, 0, 0, 0, 0, 0, 0, 0, 2] : List UInt8) ++ ([2, 0, 0, 0, 0, 0, 0, 0, 0, 0, 0, 0, 0, 0, 0, 0, 0, 0, 0, 0, 0, 0, 0, 0, 0, 0, 0, 0, 0, 0, 0, 2] : List UInt8)) 2 0 ([] : Lg) (1, (zB 32), 1, [List.replicate 32 (0 : UInt8)].flatten)) (zB 128) (anD_len (rfl : List.length (([1, 0, 0, 0, 0, 0, 0, 0, 0, 0, 0, 0, 0, 0, 0, 0, 0, 0, 0, 0, 0, 0, 0, 0, 0, 0, 0, 0, 0, 0, 0, 2] : List UInt8) ++ ([2, 0, 0, 0, 0, 0, 0, 0, 0, 0, 0, 0, 0, 0, 0, 0, 0, 0, 0, 0, 0, 0, 0, 0, 0, 0, 0, 0, 0, 0, 0, 2] : List UInt8)) = 64) h32_w_27) lr 128 (by omega) _ (h_48.argR M1)) rfl ?_
 rintro _ w_50 ⟨rfl, hc_49⟩
 have h_51 := h_48.same hc_49
 refine qM (.tuple [(.agg ⟨(zB 32).map vu8⟩), (vi 2)].toArray) rfl rfl (qV rfl (R.extract rfl rfl) (qV rfl (R.extract rfl rfl) ?_))
 refine WL.alloc (segs := [(32, (zB 32).map vu8)]) h_51 (zv typeInfo23 rfl) rfl (sC (s8 lr) sN) rfl (fun b_52 w_53 h_54 => ?_)
 refine WL.storeA [] [(32, (zB 32).map vu8)] [(32, (zB 32).map vu8)] [] h_54 rfl rfl sizeOf23 At.h (by decide) rfl rfl rfl rfl rfl rfl (sC (s8 lr) sN) (fun w_55 h_56 => ?_)
 refine qA (vi 2) rfl rfl ?_
 refine WL.nil (thn_n (WP.seq (WP.reg ?_)))
 refine qM (pO b_12 0) rfl rfl ?_
 refine WL.call Tryz.call38 rfl rfl (c_Replay_0 true b_12 b_13 (zB 32) lr a_14 2 c_15 (anU true (anU true 0 ([] : Lg) (1, (zB 32), 1, [List.replicate 32 (0 : UInt8)].flatten)) (anL true (([1, 0, 0, 0, 0, 0, 0, 0, 0, 0, 0, 0, 0, 0, 0, 0, 0, 0, 0, 0, 0, 0, 0, 0, 0, 0, 0, 0, 0, 0, 0, 2] : List UInt8) ++ ([2, 0, 0, 0, 0, 0, 0, 0, 0, 0, 0, 0, 0, 0, 0, 0, 0, 0, 0, 0, 0, 0, 0, 0, 0, 0, 0, 0, 0, 0, 0, 2] : List UInt8)) 2 0 ([] : Lg) (1, (zB 32), 1, [List.replicate 32 (0 : UInt8)].flatten)) (1, (zB 32), 2, [anD true (([1, 0, 0, 0, 0, 0, 0, 0, 0, 0, 0, 0, 0, 0, 0, 0, 0, 0, 0, 0, 0, 0, 0, 0, 0, 0, 0, 0, 0, 0, 0, 2] : List UInt8) ++ ([2, 0, 0, 0, 0, 0, 0, 0, 0, 0, 0, 0, 0, 0, 0, 0, 0, 0, 0, 0, 0, 0, 0, 0, 0, 0, 0, 0, 0, 0, 0, 2] : List UInt8)) 2 0 ([] : Lg) (1, (zB 32), 1, [List.replicate 32 (0 : UInt8)].flatten), leN 8 (UInt64.ofNat 3).toNat, List.replicate 128 (0 : UInt8)].flatten)) la_39 ((anL true (([1, 0, 0, 0, 0, 0, 0, 0, 0, 0, 0, 0, 0, 0, 0, 0, 0, 0, 0, 0, 0, 0, 0, 0, 0, 0, 0, 0, 0, 0, 0, 2] : List UInt8) ++ ([2, 0, 0, 0, 0, 0, 0, 0, 0, 0, 0, 0, 0, 0, 0, 0, 0, 0, 0, 0, 0, 0, 0, 0, 0, 0, 0, 0, 0, 0, 0, 2] : List UInt8)) 2 (anU true 0 ([] : Lg) (1, (zB 32), 1, [List.replicate 32 (0 : UInt8)].flatten)) (anL true (([1, 0, 0, 0, 0, 0, 0, 0, 0, 0, 0, 0, 0, 0, 0, 0, 0, 0, 0, 0, 0, 0, 0, 0, 0, 0, 0, 0, 0, 0, 0, 2] : List UInt8) ++ ([2, 0, 0, 0, 0, 0, 0, 0, 0, 0, 0, 0, 0, 0, 0, 0, 0, 0, 0, 0, 0, 0, 0, 0, 0, 0, 0, 0, 0, 0, 0, 2] : List UInt8)) 2 0 ([] : Lg) (1, (zB 32), 1, [List.replicate 32 (0 : UInt8)].flatten)) (1, (zB 32), 2, [anD true (([1, 0, 0, 0, 0, 0, 0, 0, 0, 0, 0, 0, 0, 0, 0, 0, 0, 0, 0, 0, 0, 0, 0, 0, 0, 0, 0, 0, 0, 0, 0, 2] : List UInt8) ++ ([2, 0, 0, 0, 0, 0, 0, 0, 0, 0, 0, 0, 0, 0, 0, 0, 0, 0, 0, 0, 0, 0, 0, 0, 0, 0, 0, 0, 0, 0, 0, 2] : List UInt8)) 2 0 ([] : Lg) (1, (zB 32), 1, [List.replicate 32 (0 : UInt8)].flatten), leN 8 (UInt64.ofNat 3).toNat, List.replicate 128 (0 : UInt8)].flatten)).length) lc_40 _ (h_56.argR M2)) rfl ?_
 rintro _ w_58 ⟨rfl, hc_57⟩
 have h_59 := h_56.same hc_57
 refine qM (.tuple [(.agg ⟨(zB 32).map vu8⟩), (vi 2)].toArray) rfl rfl (qV rfl (R.extract rfl rfl) (qV rfl (R.extract rfl rfl) ?_))
 refine WL.alloc (segs := [(32, (zB 32).map vu8)]) h_59 (zv typeInfo23 rfl) rfl (sC (s8 lr) sN) rfl (fun b_60 w_61 h_62 => ?_)
 refine WL.storeA [] [(32, (zB 32).map vu8)] [(32, (zB 32).map vu8)] [] h_62 rfl rfl sizeOf23 At.h (by decide) rfl rfl rfl rfl rfl rfl (sC (s8 lr) sN) (fun w_63 h_64 => ?_)
 refine qA (vi 2) rfl rfl ?_
 refine WL.nil (thn_n (WP.seq (WP.reg ?_)))
 refine qM (pO b_12 0) rfl rfl (qV rfl (R.buildS (pl := [(0, 1), (1, 32), (33, 1), (34, 128), (162, 10)]) (zs := [(1, [(vi 0)]), (32, (zB 32).map vu8), (1, [(vi 0)]), (128, (zB 128).map vu8), (1, [(vu64 0)]), (8, (zW 8).map vu64), (1, [(.bool false)])]) (vs := [(0, (vi 2))]) (out := [(1, [(vi 2)]), (32, (zB 32).map vu8), (1, [(vi 0)]), (128, (zB 128).map vu8), (1, [(vu64 0)]), (8, (zW 8).map vu64), (1, [(.bool false)])]) underlying70 (zv typeInfo70 rfl) rfl (sC sV (sC (s8 lr) (sC sV (sC (s8 lr) (sC sV (sC (SOk.u64 lr) (sC sV sN))))))) (pl70 _ underlying70) rfl (FillR.cons [] [(1, [(vi 0)])] [(1, [(vi 2)])] [(32, (zB 32).map vu8), (1, [(vi 0)]), (128, (zB 128).map vu8), (1, [(vu64 0)]), (8, (zW 8).map vu64), (1, [(.bool false)])] rfl rfl rfl rfl (sC sV sN) rfl rfl rfl FillR.nil) rfl) ?_)
 refine WL.buildSl (vs := [(0, (.agg ⟨flat [(1, [(vi 2)]), (32, (zB 32).map vu8), (1, [(vi 0)]), (128, (zB 128).map vu8), (1, [(vu64 0)]), (8, (zW 8).map vu64), (1, [(.bool false)])]⟩))]) (cs := flat [(1, [(vi 2)]), (32, (zB 32).map vu8), (1, [(vi 0)]), (128, (zB 128).map vu8), (1, [(vu64 0)]), (8, (zW 8).map vu64), (1, [(.bool false)])]) h_64 underlying75 sizeOf70 (zv typeInfo70 rfl) rfl rfl (fill_1 (zc := flat [(1, [(vi 0)]), (32, (zB 32).map vu8), (1, [(vi 0)]), (128, (zB 128).map vu8), (1, [(vu64 0)]), (8, (zW 8).map vu64), (1, [(.bool false)])]) (by kernel_rfl) (show SsOk [(172, flat [(1, [(vi 0)]), (32, (zB 32).map vu8), (1, [(vi 0)]), (128, (zB 128).map vu8), (1, [(vu64 0)]), (8, (zW 8).map vu64), (1, [(.bool false)])])] from SsOk.cons ⟨((sC sV (sC (s8 lr) (sC sV (sC (s8 lr) (sC sV (sC (SOk.u64 lr) (sC sV sN)))))))).len, ((sC sV (sC (s8 lr) (sC sV (sC (s8 lr) (sC sV (sC (SOk.u64 lr) (sC sV sN)))))))).one⟩ sN) (show SsOk [(172, flat [(1, [(vi 2)]), (32, (zB 32).map vu8), (1, [(vi 0)]), (128, (zB 128).map vu8), (1, [(vu64 0)]), (8, (zW 8).map vu64), (1, [(.bool false)])])] from SsOk.cons ⟨((sC sV (sC (s8 lr) (sC sV (sC (s8 lr) (sC sV (sC (SOk.u64 lr) (sC sV sN)))))))).len, ((sC sV (sC (s8 lr) (sC sV (sC (s8 lr) (sC sV (sC (SOk.u64 lr) (sC sV sN)))))))).one⟩ sN)) ((show SsOk [(172, flat [(1, [(vi 2)]), (32, (zB 32).map vu8), (1, [(vi 0)]), (128, (zB 128).map vu8), (1, [(vu64 0)]), (8, (zW 8).map vu64), (1, [(.bool false)])])] from SsOk.cons ⟨((sC sV (sC (s8 lr) (sC sV (sC (s8 lr) (sC sV (sC (SOk.u64 lr) (sC sV sN)))))))).len, ((sC sV (sC (s8 lr) (sC sV (sC (s8 lr) (sC sV (sC (SOk.u64 lr) (sC sV sN)))))))).one⟩ sN)).head.len ((show SsOk [(172, flat [(1, [(vi 2)]), (32, (zB 32).map vu8), (1, [(vi 0)]), (128, (zB 128).map vu8), (1, [(vu64 0)]), (8, (zW 8).map vu64), (1, [(.bool false)])])] from SsOk.cons ⟨((sC sV (sC (s8 lr) (sC sV (sC (s8 lr) (sC sV (sC (SOk.u64 lr) (sC sV sN)))))))).len, ((sC sV (sC (s8 lr) (sC sV (sC (s8 lr) (sC sV (sC (SOk.u64 lr) (sC sV sN)))))))).one⟩ sN)).head.one rfl rfl (fun b_66 w_67 h_68 => ?_)
 have h_69 := HP_reseg (segs' := [(1, [(vi 2)]), (32, (List.replicate 32 (0 : UInt8)).map vu8), (1, [(vi 0)]), (128, (List.replicate 128 (0 : UInt8)).map vu8), (1, [(vu64 0)]), (8, (List.replicate 8 (0 : UInt64)).map vu64), (1, [(.bool false)])]) h_68 .h (by decide) rfl (sC sV (sC (s8 lr) (sC sV (sC (s8 lr) (sC sV (sC (SOk.u64 lr) (sC sV sN)))))))
 refine WL.call Tryz.call38 rfl rfl (c_Replay_2g true b_12 b_13 (zB 32) lr a_14 2 c_15 (anU true (anU true 0 ([] : Lg) (1, (zB 32), 1, [List.replicate 32 (0 : UInt8)].flatten)) (anL true (([1, 0, 0, 0, 0, 0, 0, 0, 0, 0, 0, 0, 0, 0, 0, 0, 0, 0, 0, 0, 0, 0, 0, 0, 0, 0, 0, 0, 0, 0, 0, 2] : List UInt8) ++ ([2, 0, 0, 0, 0, 0, 0, 0, 0, 0, 0, 0, 0, 0, 0, 0, 0, 0, 0, 0, 0, 0, 0, 0, 0, 0, 0, 0, 0, 0, 0, 2] : List UInt8)) 2 0 ([] : Lg) (1, (zB 32), 1, [List.replicate 32 (0 : UInt8)].flatten)) (1, (zB 32), 2, [anD true (([1, 0, 0, 0, 0, 0, 0, 0, 0, 0, 0, 0, 0, 0, 0, 0, 0, 0, 0, 0, 0, 0, 0, 0, 0, 0, 0, 0, 0, 0, 0, 2] : List UInt8) ++ ([2, 0, 0, 0, 0, 0, 0, 0, 0, 0, 0, 0, 0, 0, 0, 0, 0, 0, 0, 0, 0, 0, 0, 0, 0, 0, 0, 0, 0, 0, 0, 2] : List UInt8)) 2 0 ([] : Lg) (1, (zB 32), 1, [List.replicate 32 (0 : UInt8)].flatten), leN 8 (UInt64.ofNat 3).toNat, List.replicate 128 (0 : UInt8)].flatten)) la_39 ((anL true (([1, 0, 0, 0, 0, 0, 0, 0, 0, 0, 0, 0, 0, 0, 0, 0, 0, 0, 0, 0, 0, 0, 0, 0, 0, 0, 0, 0, 0, 0, 0, 2] : List UInt8) ++ ([2, 0, 0, 0, 0, 0, 0, 0, 0, 0, 0, 0, 0, 0, 0, 0, 0, 0, 0, 0, 0, 0, 0, 0, 0, 0, 0, 0, 0, 0, 0, 2] : List UInt8)) 2 (anU true 0 ([] : Lg) (1, (zB 32), 1, [List.replicate 32 (0 : UInt8)].flatten)) (anL true (([1, 0, 0, 0, 0, 0, 0, 0, 0, 0, 0, 0, 0, 0, 0, 0, 0, 0, 0, 0, 0, 0, 0, 0, 0, 0, 0, 0, 0, 0, 0, 2] : List UInt8) ++ ([2, 0, 0, 0, 0, 0, 0, 0, 0, 0, 0, 0, 0, 0, 0, 0, 0, 0, 0, 0, 0, 0, 0, 0, 0, 0, 0, 0, 0, 0, 0, 2] : List UInt8)) 2 0 ([] : Lg) (1, (zB 32), 1, [List.replicate 32 (0 : UInt8)].flatten)) (1, (zB 32), 2, [anD true (([1, 0, 0, 0, 0, 0, 0, 0, 0, 0, 0, 0, 0, 0, 0, 0, 0, 0, 0, 0, 0, 0, 0, 0, 0, 0, 0, 0, 0, 0, 0, 2] : List UInt8) ++ ([2, 0, 0, 0, 0, 0, 0, 0, 0, 0, 0, 0, 0, 0, 0, 0, 0, 0, 0, 0, 0, 0, 0, 0, 0, 0, 0, 0, 0, 0, 0, 2] : List UInt8)) 2 0 ([] : Lg) (1, (zB 32), 1, [List.replicate 32 (0 : UInt8)].flatten), leN 8 (UInt64.ofNat 3).toNat, List.replicate 128 (0 : UInt8)].flatten)).length) lc_40 b_66 _ (h_69.argR M4) (h_69.argR M0)) rfl ?_
 rintro _ w_71 ⟨rfl, hc_70⟩
 have h_72 := h_69.same hc_70
 refine qM (.tuple [(.agg ⟨(zB 32).map vu8⟩), (vi 2)].toArray) rfl rfl (qV rfl (R.extract rfl rfl) (qV rfl (R.extract rfl rfl) ?_))
 refine WL.alloc (segs := [(32, (zB 32).map vu8)]) h_72 (zv typeInfo23 rfl) rfl (sC (s8 lr) sN) rfl (fun b_73 w_74 h_75 => ?_)
 refine WL.storeA [] [(32, (zB 32).map vu8)] [(32, (zB 32).map vu8)] [] h_75 rfl rfl sizeOf23 At.h (by decide) rfl rfl rfl rfl rfl rfl (sC (s8 lr) sN) (fun w_76 h_77 => ?_)
 refine qA (vi 2) rfl rfl ?_
 refine WL.nil (thn_n (WP.seq ?_))
 refine WP.drawT (SL w.heap.size [.blk b_73 .nw 23 [(32, (zB 32).map vu8)], .blk b_66 .nw 70 [(1, [(vi 2)]), (32, (zB 32).map vu8), (1, [(vi 0)]), (128, (zB 128).map vu8), (1, [(vu64 0)]), (8, (zW 8).map vu64), (1, [(.bool false)])], .blk b_60 .nw 23 [(32, (zB 32).map vu8)], .blk b_52 .nw 23 [(32, (zB 32).map vu8)], .blk b_44 .nw 23 [(32, (anD true (([1, 0, 0, 0, 0, 0, 0, 0, 0, 0, 0, 0, 0, 0, 0, 0, 0, 0, 0, 0, 0, 0, 0, 0, 0, 0, 0, 0, 0, 0, 0, 2] : List UInt8) ++ ([2, 0, 0, 0, 0, 0, 0, 0, 0, 0, 0, 0, 0, 0, 0, 0, 0, 0, 0, 0, 0, 0, 0, 0, 0, 0, 0, 0, 0, 0, 0, 2] : List UInt8)) 2 (anU true 0 ([] : Lg) (1, (zB 32), 1, [List.replicate 32 (0 : UInt8)].flatten)) (anL true (([1, 0, 0, 0, 0, 0, 0, 0, 0, 0, 0, 0, 0, 0, 0, 0, 0, 0, 0, 0, 0, 0, 0, 0, 0, 0, 0, 0, 0, 0, 0, 2] : List UInt8) ++ ([2, 0, 0, 0, 0, 0, 0, 0, 0, 0, 0, 0, 0, 0, 0, 0, 0, 0, 0, 0, 0, 0, 0, 0, 0, 0, 0, 0, 0, 0, 0, 2] : List UInt8)) 2 0 ([] : Lg) (1, (zB 32), 1, [List.replicate 32 (0 : UInt8)].flatten)) (1, (zB 32), 2, [anD true (([1, 0, 0, 0, 0, 0, 0, 0, 0, 0, 0, 0, 0, 0, 0, 0, 0, 0, 0, 0, 0, 0, 0, 0, 0, 0, 0, 0, 0, 0, 0, 2] : List UInt8) ++ ([2, 0, 0, 0, 0, 0, 0, 0, 0, 0, 0, 0, 0, 0, 0, 0, 0, 0, 0, 0, 0, 0, 0, 0, 0, 0, 0, 0, 0, 0, 0, 2] : List UInt8)) 2 0 ([] : Lg) (1, (zB 32), 1, [List.replicate 32 (0 : UInt8)].flatten), leN 8 (UInt64.ofNat 3).toNat, List.replicate 128 (0 : UInt8)].flatten)).map vu8)], .blk b_12 .nw 118 [(1, [(.bool true)]), (32, (zB 32).map vu8), (1, [(.slice a_14 2 c_15)]), (1, [(vn (anU true (anU true 0 ([] : Lg) (1, (zB 32), 1, [List.replicate 32 (0 : UInt8)].flatten)) (anL true (([1, 0, 0, 0, 0, 0, 0, 0, 0, 0, 0, 0, 0, 0, 0, 0, 0, 0, 0, 0, 0, 0, 0, 0, 0, 0, 0, 0, 0, 0, 0, 2] : List UInt8) ++ ([2, 0, 0, 0, 0, 0, 0, 0, 0, 0, 0, 0, 0, 0, 0, 0, 0, 0, 0, 0, 0, 0, 0, 0, 0, 0, 0, 0, 0, 0, 0, 2] : List UInt8)) 2 0 ([] : Lg) (1, (zB 32), 1, [List.replicate 32 (0 : UInt8)].flatten)) (1, (zB 32), 2, [anD true (([1, 0, 0, 0, 0, 0, 0, 0, 0, 0, 0, 0, 0, 0, 0, 0, 0, 0, 0, 0, 0, 0, 0, 0, 0, 0, 0, 0, 0, 0, 0, 2] : List UInt8) ++ ([2, 0, 0, 0, 0, 0, 0, 0, 0, 0, 0, 0, 0, 0, 0, 0, 0, 0, 0, 0, 0, 0, 0, 0, 0, 0, 0, 0, 0, 0, 0, 2] : List UInt8)) 2 0 ([] : Lg) (1, (zB 32), 1, [List.replicate 32 (0 : UInt8)].flatten), leN 8 (UInt64.ofNat 3).toNat, List.replicate 128 (0 : UInt8)].flatten)))]), (1, [(.map (some b_13))]), (1, [(.slice la_39 ((anL true (([1, 0, 0, 0, 0, 0, 0, 0, 0, 0, 0, 0, 0, 0, 0, 0, 0, 0, 0, 0, 0, 0, 0, 0, 0, 0, 0, 0, 0, 0, 0, 2] : List UInt8) ++ ([2, 0, 0, 0, 0, 0, 0, 0, 0, 0, 0, 0, 0, 0, 0, 0, 0, 0, 0, 0, 0, 0, 0, 0, 0, 0, 0, 0, 0, 0, 0, 2] : List UInt8)) 2 (anU true 0 ([] : Lg) (1, (zB 32), 1, [List.replicate 32 (0 : UInt8)].flatten)) (anL true (([1, 0, 0, 0, 0, 0, 0, 0, 0, 0, 0, 0, 0, 0, 0, 0, 0, 0, 0, 0, 0, 0, 0, 0, 0, 0, 0, 0, 0, 0, 0, 2] : List UInt8) ++ ([2, 0, 0, 0, 0, 0, 0, 0, 0, 0, 0, 0, 0, 0, 0, 0, 0, 0, 0, 0, 0, 0, 0, 0, 0, 0, 0, 0, 0, 0, 0, 2] : List UInt8)) 2 0 ([] : Lg) (1, (zB 32), 1, [List.replicate 32 (0 : UInt8)].flatten)) (1, (zB 32), 2, [anD true (([1, 0, 0, 0, 0, 0, 0, 0, 0, 0, 0, 0, 0, 0, 0, 0, 0, 0, 0, 0, 0, 0, 0, 0, 0, 0, 0, 0, 0, 0, 0, 2] : List UInt8) ++ ([2, 0, 0, 0, 0, 0, 0, 0, 0, 0, 0, 0, 0, 0, 0, 0, 0, 0, 0, 0, 0, 0, 0, 0, 0, 0, 0, 0, 0, 0, 0, 2] : List UInt8)) 2 0 ([] : Lg) (1, (zB 32), 1, [List.replicate 32 (0 : UInt8)].flatten), leN 8 (UInt64.ofNat 3).toNat, List.replicate 128 (0 : UInt8)].flatten)).length) lc_40)])], .row la_39 ((anL true (([1, 0, 0, 0, 0, 0, 0, 0, 0, 0, 0, 0, 0, 0, 0, 0, 0, 0, 0, 0, 0, 0, 0, 0, 0, 0, 0, 0, 0, 0, 0, 2] : List UInt8) ++ ([2, 0, 0, 0, 0, 0, 0, 0, 0, 0, 0, 0, 0, 0, 0, 0, 0, 0, 0, 0, 0, 0, 0, 0, 0, 0, 0, 0, 0, 0, 0, 2] : List UInt8)) 2 (anU true 0 ([] : Lg) (1, (zB 32), 1, [List.replicate 32 (0 : UInt8)].flatten)) (anL true (([1, 0, 0, 0, 0, 0, 0, 0, 0, 0, 0, 0, 0, 0, 0, 0, 0, 0, 0, 0, 0, 0, 0, 0, 0, 0, 0, 0, 0, 0, 0, 2] : List UInt8) ++ ([2, 0, 0, 0, 0, 0, 0, 0, 0, 0, 0, 0, 0, 0, 0, 0, 0, 0, 0, 0, 0, 0, 0, 0, 0, 0, 0, 0, 0, 0, 0, 2] : List UInt8)) 2 0 ([] : Lg) (1, (zB 32), 1, [List.replicate 32 (0 : UInt8)].flatten)) (1, (zB 32), 2, [anD true (([1, 0, 0, 0, 0, 0, 0, 0, 0, 0, 0, 0, 0, 0, 0, 0, 0, 0, 0, 0, 0, 0, 0, 0, 0, 0, 0, 0, 0, 0, 0, 2] : List UInt8) ++ ([2, 0, 0, 0, 0, 0, 0, 0, 0, 0, 0, 0, 0, 0, 0, 0, 0, 0, 0, 0, 0, 0, 0, 0, 0, 0, 0, 0, 0, 0, 0, 2] : List UInt8)) 2 0 ([] : Lg) (1, (zB 32), 1, [List.replicate 32 (0 : UInt8)].flatten), leN 8 (UInt64.ofNat 3).toNat, List.replicate 128 (0 : UInt8)].flatten)).length) lc_40 96 67 lx_41, .obj b_13 .nw (.map (mArr (anL true (([1, 0, 0, 0, 0, 0, 0, 0, 0, 0, 0, 0, 0, 0, 0, 0, 0, 0, 0, 0, 0, 0, 0, 0, 0, 0, 0, 0, 0, 0, 0, 2] : List UInt8) ++ ([2, 0, 0, 0, 0, 0, 0, 0, 0, 0, 0, 0, 0, 0, 0, 0, 0, 0, 0, 0, 0, 0, 0, 0, 0, 0, 0, 0, 0, 0, 0, 2] : List UInt8)) 2 (anU true 0 ([] : Lg) (1, (zB 32), 1, [List.replicate 32 (0 : UInt8)].flatten)) (anL true (([1, 0, 0, 0, 0, 0, 0, 0, 0, 0, 0, 0, 0, 0, 0, 0, 0, 0, 0, 0, 0, 0, 0, 0, 0, 0, 0, 0, 0, 0, 0, 2] : List UInt8) ++ ([2, 0, 0, 0, 0, 0, 0, 0, 0, 0, 0, 0, 0, 0, 0, 0, 0, 0, 0, 0, 0, 0, 0, 0, 0, 0, 0, 0, 0, 0, 0, 2] : List UInt8)) 2 0 ([] : Lg) (1, (zB 32), 1, [List.replicate 32 (0 : UInt8)].flatten)) (1, (zB 32), 2, [anD true (([1, 0, 0, 0, 0, 0, 0, 0, 0, 0, 0, 0, 0, 0, 0, 0, 0, 0, 0, 0, 0, 0, 0, 0, 0, 0, 0, 0, 0, 0, 0, 2] : List UInt8) ++ ([2, 0, 0, 0, 0, 0, 0, 0, 0, 0, 0, 0, 0, 0, 0, 0, 0, 0, 0, 0, 0, 0, 0, 0, 0, 0, 0, 0, 0, 0, 0, 2] : List UInt8)) 2 0 ([] : Lg) (1, (zB 32), 1, [List.replicate 32 (0 : UInt8)].flatten), leN 8 (UInt64.ofNat 3).toNat, List.replicate 128 (0 : UInt8)].flatten))) ((anL true (([1, 0, 0, 0, 0, 0, 0, 0, 0, 0, 0, 0, 0, 0, 0, 0, 0, 0, 0, 0, 0, 0, 0, 0, 0, 0, 0, 0, 0, 0, 0, 2] : List UInt8) ++ ([2, 0, 0, 0, 0, 0, 0, 0, 0, 0, 0, 0, 0, 0, 0, 0, 0, 0, 0, 0, 0, 0, 0, 0, 0, 0, 0, 0, 0, 0, 0, 2] : List UInt8)) 2 (anU true 0 ([] : Lg) (1, (zB 32), 1, [List.replicate 32 (0 : UInt8)].flatten)) (anL true (([1, 0, 0, 0, 0, 0, 0, 0, 0, 0, 0, 0, 0, 0, 0, 0, 0, 0, 0, 0, 0, 0, 0, 0, 0, 0, 0, 0, 0, 0, 0, 2] : List UInt8) ++ ([2, 0, 0, 0, 0, 0, 0, 0, 0, 0, 0, 0, 0, 0, 0, 0, 0, 0, 0, 0, 0, 0, 0, 0, 0, 0, 0, 0, 0, 0, 0, 2] : List UInt8)) 2 0 ([] : Lg) (1, (zB 32), 1, [List.replicate 32 (0 : UInt8)].flatten)) (1, (zB 32), 2, [anD true (([1, 0, 0, 0, 0, 0, 0, 0, 0, 0, 0, 0, 0, 0, 0, 0, 0, 0, 0, 0, 0, 0, 0, 0, 0, 0, 0, 0, 0, 0, 0, 2] : List UInt8) ++ ([2, 0, 0, 0, 0, 0, 0, 0, 0, 0, 0, 0, 0, 0, 0, 0, 0, 0, 0, 0, 0, 0, 0, 0, 0, 0, 0, 0, 0, 0, 0, 2] : List UInt8)) 2 0 ([] : Lg) (1, (zB 32), 1, [List.replicate 32 (0 : UInt8)].flatten), leN 8 (UInt64.ofNat 3).toNat, List.replicate 128 (0 : UInt8)].flatten)).length)), .pin (sblks lx_41) (fun w => Lgs w lx_41 (anL true (([1, 0, 0, 0, 0, 0, 0, 0, 0, 0, 0, 0, 0, 0, 0, 0, 0, 0, 0, 0, 0, 0, 0, 0, 0, 0, 0, 0, 0, 0, 0, 2] : List UInt8) ++ ([2, 0, 0, 0, 0, 0, 0, 0, 0, 0, 0, 0, 0, 0, 0, 0, 0, 0, 0, 0, 0, 0, 0, 0, 0, 0, 0, 0, 0, 0, 0, 2] : List UInt8)) 2 (anU true 0 ([] : Lg) (1, (zB 32), 1, [List.replicate 32 (0 : UInt8)].flatten)) (anL true (([1, 0, 0, 0, 0, 0, 0, 0, 0, 0, 0, 0, 0, 0, 0, 0, 0, 0, 0, 0, 0, 0, 0, 0, 0, 0, 0, 0, 0, 0, 0, 2] : List UInt8) ++ ([2, 0, 0, 0, 0, 0, 0, 0, 0, 0, 0, 0, 0, 0, 0, 0, 0, 0, 0, 0, 0, 0, 0, 0, 0, 0, 0, 0, 0, 0, 0, 2] : List UInt8)) 2 0 ([] : Lg) (1, (zB 32), 1, [List.replicate 32 (0 : UInt8)].flatten)) (1, (zB 32), 2, [anD true (([1, 0, 0, 0, 0, 0, 0, 0, 0, 0, 0, 0, 0, 0, 0, 0, 0, 0, 0, 0, 0, 0, 0, 0, 0, 0, 0, 0, 0, 0, 0, 2] : List UInt8) ++ ([2, 0, 0, 0, 0, 0, 0, 0, 0, 0, 0, 0, 0, 0, 0, 0, 0, 0, 0, 0, 0, 0, 0, 0, 0, 0, 0, 0, 0, 0, 0, 2] : List UInt8)) 2 0 ([] : Lg) (1, (zB 32), 1, [List.replicate 32 (0 : UInt8)].flatten), leN 8 (UInt64.ofNat 3).toNat, List.replicate 128 (0 : UInt8)].flatten))), .view a_14 ((([1, 0, 0, 0, 0, 0, 0, 0, 0, 0, 0, 0, 0, 0, 0, 0, 0, 0, 0, 0, 0, 0, 0, 0, 0, 0, 0, 0, 0, 0, 0, 2] : List UInt8) ++ ([2, 0, 0, 0, 0, 0, 0, 0, 0, 0, 0, 0, 0, 0, 0, 0, 0, 0, 0, 0, 0, 0, 0, 0, 0, 0, 0, 0, 0, 0, 0, 2] : List UInt8)).map vu8), .blk b_29 .nw 23 [(32, (anD true (([1, 0, 0, 0, 0, 0, 0, 0, 0, 0, 0, 0, 0, 0, 0, 0, 0, 0, 0, 0, 0, 0, 0, 0, 0, 0, 0, 0, 0, 0, 0, 2] : List UInt8) ++ ([2, 0, 0, 0, 0, 0, 0, 0, 0, 0, 0, 0, 0, 0, 0, 0, 0, 0, 0, 0, 0, 0, 0, 0, 0, 0, 0, 0, 0, 0, 0, 2] : List UInt8)) 2 0 ([] : Lg) (1, (zB 32), 1, [List.replicate 32 (0 : UInt8)].flatten)).map vu8)], .view (some ⟨b_7, 0, none⟩) ((([1, 0, 0, 0, 0, 0, 0, 0, 0, 0, 0, 0, 0, 0, 0, 0, 0, 0, 0, 0, 0, 0, 0, 0, 0, 0, 0, 0, 0, 0, 0, 2] : List UInt8) ++ ([2, 0, 0, 0, 0, 0, 0, 0, 0, 0, 0, 0, 0, 0, 0, 0, 0, 0, 0, 0, 0, 0, 0, 0, 0, 0, 0, 0, 0, 0, 0, 2] : List UInt8)).map vu8)]) (.q 0 (.s 1 (.q 2 (.q 3 (.q 4 (.s 5 (.q 6 (.q 7 (.q 8 (.q 9 (.q 11 (.s 10 (.s 12 (.q 13 (.q 14 (.q 15 (.q 16 (.q 17 (.s 18 (.q 19 (.q 20 (.q 21 (.q 22 (.s 23 (.q 24 (.q 25 (.q 26 (.q 27 (.s 28 (.q 29 (.q 30 (.q 31 .nil)))))))))))))))))))))))))))))))) (by kernel_rfl) (by kernel_rfl) rfl (by kernel_rfl) (fun w_78 hc_80 => (SL.cons ((h_77.same hc_80).ok _ M0) (SL.cons ((h_77.same hc_80).ok _ M1) (SL.cons ((h_77.same hc_80).ok _ M2) (SL.cons ((h_77.same hc_80).ok _ M3) (SL.cons ((h_77.same hc_80).ok _ M4) (SL.cons ((h_77.same hc_80).ok _ M5) (SL.cons ((h_77.same hc_80).ok _ M6) (SL.cons ((h_77.same hc_80).ok _ M7) (SL.cons ((h_77.same hc_80).ok _ M8) (SL.cons ((h_77.same hc_80).ok _ M9) (SL.cons ((h_77.same hc_80).ok _ M10) (SL.cons ((h_77.same hc_80).ok _ M11) (SL.nil _ _)))))))))))))) (fun w_78 hc_80 => ?_)
 have h_79 := h_77.same hc_80
 refine qT rfl rfl (fun wq hS => R.loadA [] [(32, (anD true (([1, 0, 0, 0, 0, 0, 0, 0, 0, 0, 0, 0, 0, 0, 0, 0, 0, 0, 0, 0, 0, 0, 0, 0, 0, 0, 0, 0, 0, 0, 0, 2] : List UInt8) ++ ([2, 0, 0, 0, 0, 0, 0, 0, 0, 0, 0, 0, 0, 0, 0, 0, 0, 0, 0, 0, 0, 0, 0, 0, 0, 0, 0, 0, 0, 0, 0, 2] : List UInt8)) 2 0 ([] : Lg) (1, (zB 32), 1, [List.replicate 32 (0 : UInt8)].flatten)).map vu8)] [] (cs := (anD true (([1, 0, 0, 0, 0, 0, 0, 0, 0, 0, 0, 0, 0, 0, 0, 0, 0, 0, 0, 0, 0, 0, 0, 0, 0, 0, 0, 0, 0, 0, 0, 2] : List UInt8) ++ ([2, 0, 0, 0, 0, 0, 0, 0, 0, 0, 0, 0, 0, 0, 0, 0, 0, 0, 0, 0, 0, 0, 0, 0, 0, 0, 0, 0, 0, 0, 0, 2] : List UInt8)) 2 0 ([] : Lg) (1, (zB 32), 1, [List.replicate 32 (0 : UInt8)].flatten)).map vu8) rfl isAgg23 sizeOf23 (hS _ M10) rfl rfl rfl rfl) ?_
 refine WT.s (oN rfl ?_)
 refine WL.call Tryz.call71 rfl rfl (c_dr1  _ ) rfl ?_
 rintro _ w_82 ⟨rfl, hc_81⟩
 have h_83 := h_79.same hc_81
 refine WL.nil ?_
 refine ⟨(N0_1_2_3_4_5_6_7_8_9_10_11 h_83.ok), ?_⟩
 refine qT rfl rfl (fun wq hS => R.eqA (xs := (anD true (([1, 0, 0, 0, 0, 0, 0, 0, 0, 0, 0, 0, 0, 0, 0, 0, 0, 0, 0, 0, 0, 0, 0, 0, 0, 0, 0, 0, 0, 0, 0, 2] : List UInt8) ++ ([2, 0, 0, 0, 0, 0, 0, 0, 0, 0, 0, 0, 0, 0, 0, 0, 0, 0, 0, 0, 0, 0, 0, 0, 0, 0, 0, 0, 0, 0, 0, 2] : List UInt8)) 2 0 ([] : Lg) (1, (zB 32), 1, [List.replicate 32 (0 : UInt8)].flatten)).map vu8) (ys := ([1, 0, 0, 0, 0, 0, 0, 0, 0, 0, 0, 0, 0, 0, 0, 0, 0, 0, 0, 0, 0, 0, 0, 0, 0, 0, 0, 0, 0, 0, 0, 2] : List UInt8).map vu8) (r := true) rfl rfl eqGuardType23 kt23 (by decide) ag23 (Typ.u8s underlying23 ce23 underlying5 ce5 (anD_len (rfl : List.length (([1, 0, 0, 0, 0, 0, 0, 0, 0, 0, 0, 0, 0, 0, 0, 0, 0, 0, 0, 0, 0, 0, 0, 0, 0, 0, 0, 0, 0, 0, 0, 2] : List UInt8) ++ ([2, 0, 0, 0, 0, 0, 0, 0, 0, 0, 0, 0, 0, 0, 0, 0, 0, 0, 0, 0, 0, 0, 0, 0, 0, 0, 0, 0, 0, 0, 0, 2] : List UInt8)) = 64) h32_w_27)) (Typ.u8s underlying23 ce23 underlying5 ce5 (rfl : List.length ([1, 0, 0, 0, 0, 0, 0, 0, 0, 0, 0, 0, 0, 0, 0, 0, 0, 0, 0, 0, 0, 0, 0, 0, 0, 0, 0, 0, 0, 0, 0, 2] : List UInt8) = 32)) (eqT (congrArg (List.map vu8) (by decide +kernel)))) ?_
 refine qT rfl rfl (fun wq hS => R.move (v := (.bool true)) rfl) ?_
 refine WT.q rfl (Wn.yes rfl rfl rfl) rfl rfl (fun wq hS => R.loadA [] [(32, (anD true (([1, 0, 0, 0, 0, 0, 0, 0, 0, 0, 0, 0, 0, 0, 0, 0, 0, 0, 0, 0, 0, 0, 0, 0, 0, 0, 0, 0, 0, 0, 0, 2] : List UInt8) ++ ([2, 0, 0, 0, 0, 0, 0, 0, 0, 0, 0, 0, 0, 0, 0, 0, 0, 0, 0, 0, 0, 0, 0, 0, 0, 0, 0, 0, 0, 0, 0, 2] : List UInt8)) 2 (anU true 0 ([] : Lg) (1, (zB 32), 1, [List.replicate 32 (0 : UInt8)].flatten)) (anL true (([1, 0, 0, 0, 0, 0, 0, 0, 0, 0, 0, 0, 0, 0, 0, 0, 0, 0, 0, 0, 0, 0, 0, 0, 0, 0, 0, 0, 0, 0, 0, 2] : List UInt8) ++ ([2, 0, 0, 0, 0, 0, 0, 0, 0, 0, 0, 0, 0, 0, 0, 0, 0, 0, 0, 0, 0, 0, 0, 0, 0, 0, 0, 0, 0, 0, 0, 2] : List UInt8)) 2 0 ([] : Lg) (1, (zB 32), 1, [List.replicate 32 (0 : UInt8)].flatten)) (1, (zB 32), 2, [anD true (([1, 0, 0, 0, 0, 0, 0, 0, 0, 0, 0, 0, 0, 0, 0, 0, 0, 0, 0, 0, 0, 0, 0, 0, 0, 0, 0, 0, 0, 0, 0, 2] : List UInt8) ++ ([2, 0, 0, 0, 0, 0, 0, 0, 0, 0, 0, 0, 0, 0, 0, 0, 0, 0, 0, 0, 0, 0, 0, 0, 0, 0, 0, 0, 0, 0, 0, 2] : List UInt8)) 2 0 ([] : Lg) (1, (zB 32), 1, [List.replicate 32 (0 : UInt8)].flatten), leN 8 (UInt64.ofNat 3).toNat, List.replicate 128 (0 : UInt8)].flatten)).map vu8)] [] (cs := (anD true (([1, 0, 0, 0, 0, 0, 0, 0, 0, 0, 0, 0, 0, 0, 0, 0, 0, 0, 0, 0, 0, 0, 0, 0, 0, 0, 0, 0, 0, 0, 0, 2] : List UInt8) ++ ([2, 0, 0, 0, 0, 0, 0, 0, 0, 0, 0, 0, 0, 0, 0, 0, 0, 0, 0, 0, 0, 0, 0, 0, 0, 0, 0, 0, 0, 0, 0, 2] : List UInt8)) 2 (anU true 0 ([] : Lg) (1, (zB 32), 1, [List.replicate 32 (0 : UInt8)].flatten)) (anL true (([1, 0, 0, 0, 0, 0, 0, 0, 0, 0, 0, 0, 0, 0, 0, 0, 0, 0, 0, 0, 0, 0, 0, 0, 0, 0, 0, 0, 0, 0, 0, 2] : List UInt8) ++ ([2, 0, 0, 0, 0, 0, 0, 0, 0, 0, 0, 0, 0, 0, 0, 0, 0, 0, 0, 0, 0, 0, 0, 0, 0, 0, 0, 0, 0, 0, 0, 2] : List UInt8)) 2 0 ([] : Lg) (1, (zB 32), 1, [List.replicate 32 (0 : UInt8)].flatten)) (1, (zB 32), 2, [anD true (([1, 0, 0, 0, 0, 0, 0, 0, 0, 0, 0, 0, 0, 0, 0, 0, 0, 0, 0, 0, 0, 0, 0, 0, 0, 0, 0, 0, 0, 0, 0, 2] : List UInt8) ++ ([2, 0, 0, 0, 0, 0, 0, 0, 0, 0, 0, 0, 0, 0, 0, 0, 0, 0, 0, 0, 0, 0, 0, 0, 0, 0, 0, 0, 0, 0, 0, 2] : List UInt8)) 2 0 ([] : Lg) (1, (zB 32), 1, [List.replicate 32 (0 : UInt8)].flatten), leN 8 (UInt64.ofNat 3).toNat, List.replicate 128 (0 : UInt8)].flatten)).map vu8) rfl isAgg23 sizeOf23 (hS _ M4) rfl rfl rfl rfl) ?_
 refine WT.s ?_
 refine Op1.one rfl (Wn.yes rfl rfl rfl) ?_
 refine WL.call Tryz.call71 rfl rfl (c_dr2  _ ) rfl ?_
 rintro _ w_85 ⟨rfl, hc_84⟩
 have h_86 := h_83.same hc_84
 refine WL.nil ?_
 refine ⟨(N0_1_2_3_4_5_6_7_8_9_10_11 h_86.ok), ?_⟩
 refine WT.q rfl (Wn.yes rfl rfl rfl) rfl rfl (fun wq hS => R.eqA (xs := (anD true (([1, 0, 0, 0, 0, 0, 0, 0, 0, 0, 0, 0, 0, 0, 0, 0, 0, 0, 0, 0, 0, 0, 0, 0, 0, 0, 0, 0, 0, 0, 0, 2] : List UInt8) ++ ([2, 0, 0, 0, 0, 0, 0, 0, 0, 0, 0, 0, 0, 0, 0, 0, 0, 0, 0, 0, 0, 0, 0, 0, 0, 0, 0, 0, 0, 0, 0, 2] : List UInt8)) 2 (anU true 0 ([] : Lg) (1, (zB 32), 1, [List.replicate 32 (0 : UInt8)].flatten)) (anL true (([1, 0, 0, 0, 0, 0, 0, 0, 0, 0, 0, 0, 0, 0, 0, 0, 0, 0, 0, 0, 0, 0, 0, 0, 0, 0, 0, 0, 0, 0, 0, 2] : List UInt8) ++ ([2, 0, 0, 0, 0, 0, 0, 0, 0, 0, 0, 0, 0, 0, 0, 0, 0, 0, 0, 0, 0, 0, 0, 0, 0, 0, 0, 0, 0, 0, 0, 2] : List UInt8)) 2 0 ([] : Lg) (1, (zB 32), 1, [List.replicate 32 (0 : UInt8)].flatten)) (1, (zB 32), 2, [anD true (([1, 0, 0, 0, 0, 0, 0, 0, 0, 0, 0, 0, 0, 0, 0, 0, 0, 0, 0, 0, 0, 0, 0, 0, 0, 0, 0, 0, 0, 0, 0, 2] : List UInt8) ++ ([2, 0, 0, 0, 0, 0, 0, 0, 0, 0, 0, 0, 0, 0, 0, 0, 0, 0, 0, 0, 0, 0, 0, 0, 0, 0, 0, 0, 0, 0, 0, 2] : List UInt8)) 2 0 ([] : Lg) (1, (zB 32), 1, [List.replicate 32 (0 : UInt8)].flatten), leN 8 (UInt64.ofNat 3).toNat, List.replicate 128 (0 : UInt8)].flatten)).map vu8) (ys := ([2, 0, 0, 0, 0, 0, 0, 0, 0, 0, 0, 0, 0, 0, 0, 0, 0, 0, 0, 0, 0, 0, 0, 0, 0, 0, 0, 0, 0, 0, 0, 2] : List UInt8).map vu8) (r := true) rfl rfl eqGuardType23 kt23 (by decide) ag23 (Typ.u8s underlying23 ce23 underlying5 ce5 (anD_len (rfl : List.length (([1, 0, 0, 0, 0, 0, 0, 0, 0, 0, 0, 0, 0, 0, 0, 0, 0, 0, 0, 0, 0, 0, 0, 0, 0, 0, 0, 0, 0, 0, 0, 2] : List UInt8) ++ ([2, 0, 0, 0, 0, 0, 0, 0, 0, 0, 0, 0, 0, 0, 0, 0, 0, 0, 0, 0, 0, 0, 0, 0, 0, 0, 0, 0, 0, 0, 0, 2] : List UInt8)) = 64) h32_w_42)) (Typ.u8s underlying23 ce23 underlying5 ce5 (rfl : List.length ([2, 0, 0, 0, 0, 0, 0, 0, 0, 0, 0, 0, 0, 0, 0, 0, 0, 0, 0, 0, 0, 0, 0, 0, 0, 0, 0, 0, 0, 0, 0, 2] : List UInt8) = 32)) (eqT (congrArg (List.map vu8) (by decide +kernel)))) ?_
 refine qT rfl rfl (fun wq hS => R.pickT (v := (.bool true)) rfl rfl) ?_
 refine qT rfl rfl (fun wq hS => R.move (v := (.bool true)) rfl) ?_
 refine WT.q rfl (Wn.yes rfl rfl rfl) rfl rfl (fun wq hS => R.move (v := (vi 0)) rfl) ?_
 refine WT.q rfl (Wn.yes rfl rfl rfl) rfl rfl (fun wq hS => R.move (v := (vi 0)) rfl) ?_
 refine WT.s ?_
 refine Op1.one rfl (Wn.yes rfl rfl rfl) ?_
 refine WL.call Tryz.call26 rfl rfl (c_num12 0 (by omega) _ ) rfl ?_
 rintro _ w_88 ⟨rfl, hc_87⟩
 have h_89 := h_86.same hc_87
 refine WL.nil ?_
 refine ⟨(N0_1_2_3_4_5_6_7_8_9_10_11 h_89.ok), ?_⟩
 refine WT.s ?_
 refine Op1.one rfl (Wn.yes rfl rfl rfl) ?_
 refine WL.call Tryz.call26 rfl rfl (c_num12 0 (by omega) _ ) rfl ?_
 rintro _ w_91 ⟨rfl, hc_90⟩
 have h_92 := h_89.same hc_90
 refine WL.nil ?_
 refine ⟨(N0_1_2_3_4_5_6_7_8_9_10_11 h_92.ok), ?_⟩
 refine WT.q rfl (Wn.yes rfl rfl rfl) rfl rfl (fun wq hS => R.bin rfl rfl (bi_add (c := 0) (by omega) (by omega))) ?_
 refine WT.q rfl (Wn.yes rfl rfl rfl) rfl rfl (fun wq hS => R.bin rfl rfl (bi_eql (r := true) (by decide))) ?_
 refine qT rfl rfl (fun wq hS => R.pickT (v := (.bool true)) rfl rfl) ?_
 refine qT rfl rfl (fun wq hS => R.move (v := (.bool true)) rfl) ?_
 refine WT.q rfl (Wn.yes rfl rfl rfl) rfl rfl (fun wq hS => R.move (v := (vi 2)) rfl) ?_
 refine WT.s ?_
 refine Op1.one rfl (Wn.yes rfl rfl rfl) ?_
 refine WL.call Tryz.call26 rfl rfl (c_num12 2 (by omega) _ ) rfl ?_
 rintro _ w_94 ⟨rfl, hc_93⟩
 have h_95 := h_92.same hc_93
 refine WL.nil ?_
 refine ⟨(N0_1_2_3_4_5_6_7_8_9_10_11 h_95.ok), ?_⟩
 refine WT.q rfl (Wn.yes rfl rfl rfl) rfl rfl (fun wq hS => R.bin rfl rfl (bi_eql (r := true) (by decide))) ?_
 refine qT rfl rfl (fun wq hS => R.pickT (v := (.bool true)) rfl rfl) ?_
 refine qT rfl rfl (fun wq hS => R.move (v := (.bool true)) rfl) ?_
 refine WT.q rfl (Wn.yes rfl rfl rfl) rfl rfl (fun wq hS => R.move (v := (vi 2)) rfl) ?_
 refine WT.s ?_
 refine Op1.one rfl (Wn.yes rfl rfl rfl) ?_
 refine WL.call Tryz.call26 rfl rfl (c_num12 2 (by omega) _ ) rfl ?_
 rintro _ w_97 ⟨rfl, hc_96⟩
 have h_98 := h_95.same hc_96
 refine WL.nil ?_
 refine ⟨(N0_1_2_3_4_5_6_7_8_9_10_11 h_98.ok), ?_⟩
 refine WT.q rfl (Wn.yes rfl rfl rfl) rfl rfl (fun wq hS => R.bin rfl rfl (bi_eql (r := true) (by decide))) ?_
 refine qT rfl rfl (fun wq hS => R.pickT (v := (.bool true)) rfl rfl) ?_
 refine qT rfl rfl (fun wq hS => R.move (v := (.bool true)) rfl) ?_
 refine WT.q rfl (Wn.yes rfl rfl rfl) rfl rfl (fun wq hS => R.move (v := (vi 2)) rfl) ?_
 refine WT.s ?_
 refine Op1.one rfl (Wn.yes rfl rfl rfl) ?_
 refine WL.call Tryz.call26 rfl rfl (c_num12 2 (by omega) _ ) rfl ?_
 rintro _ w_100 ⟨rfl, hc_99⟩
 have h_101 := h_98.same hc_99
 refine WL.nil ?_
 refine ⟨(N0_1_2_3_4_5_6_7_8_9_10_11 h_101.ok), ?_⟩
 refine WT.q rfl (Wn.yes rfl rfl rfl) rfl rfl (fun wq hS => R.bin rfl rfl (bi_eql (r := true) (by decide))) ?_
 refine qT rfl rfl (fun wq hS => R.pickT (v := (.bool true)) rfl rfl) ?_
 refine qT rfl rfl (fun wq hS => R.assign (v := (.bool true)) rfl) ?_
 refine WT.nil (thn_n (WP.ret ?_))
 refine ret_of results23 (RV.tmp (v := (.bool true)) rfl RV.nil) ?_
 exact ⟨rfl, h_101.chgS⟩
end Go.Proofs.YteclkcpdclimnaaGreat

namespace Go.Proofs.YteclkcpdclimnaaGreat
open Go.Proofs.Tryz
open Go.Vc Go.Orc Go.Sh Go.RowKit
set_option maxRecDepth 20000

abbrev Rc := Int × List UInt8 × Int × List UInt8 × UInt64 × List UInt64 × Bool
instance dq3 : DecidableEq (UInt64 × List UInt64 × Bool) := inferInstance
instance dq4 : DecidableEq (List UInt8 × UInt64 × List UInt64 × Bool) := inferInstance
instance dq5 : DecidableEq (Int × List UInt8 × UInt64 × List UInt64 × Bool) := inferInstance
instance dq6 : DecidableEq (List UInt8 × Int × List UInt8 × UInt64 × List UInt64 × Bool) := inferInstance
instance dq7 : DecidableEq Rc := inferInstanceAs (DecidableEq (Int × (List UInt8 × Int × List UInt8 × UInt64 × List UInt64 × Bool)))
def rcC (r : Rc) : List Value := flat [(1, [(vi r.1)]), (32, r.2.1.map vu8), (1, [(vi r.2.2.1)]), (128, r.2.2.2.1.map vu8), (1, [(vu64 r.2.2.2.2.1)]), (8, r.2.2.2.2.2.1.map vu64), (1, [(.bool r.2.2.2.2.2.2)])]
def okRc (r : Rc) : Prop := r.2.1.length = 32 ∧ r.2.2.2.1.length = 128 ∧ r.2.2.2.2.2.1.length = 8 ∧ (-9223372036854775808 ≤ r.1 ∧ r.1 < 9223372036854775808) ∧ (-9223372036854775808 ≤ r.2.2.1 ∧ r.2.2.1 < 9223372036854775808)
def rcsC (rs : List Rc) : List Value := (rs.map rcC).flatten
def zRc : Rc := (0, [], 0, [], 0, [], false)
def mB (r : Rc) : Bool := mayB r.1 r.2.1 r.2.2.1 r.2.2.2.1 r.2.2.2.2.1 r.2.2.2.2.2.1 r.2.2.2.2.2.2
def allP (rs : List Rc) : Nat → Bool
 | 0 => true
 | k + 1 => allP rs k && (mB (rs.getD k zRc) && (decide ((rs.getD k zRc).1 = 1) == decide (((k : Nat) : Int) = 0)))
def mayAllB (rs : List Rc) : Bool := decide (0 < rs.length) && allP rs rs.length
theorem rcC_len {r : Rc} (h : okRc r) : (rcC r).length = 172 := by simp [rcC, flat, h.1, h.2.1, h.2.2.1]
theorem rcsC_len {rs : List Rc} (h : ∀ r ∈ rs, okRc r) : (rcsC rs).length = rs.length * 172 := flat_len fun r hr => rcC_len (h r hr)
theorem rcsC_at {rs : List Rc} {k : Nat} (h : ∀ r ∈ rs, okRc r) (hk : k < rs.length) : ((rcsC rs).drop (k * 172)).take 172 = rcC (rs.getD k zRc) := flat_at (fun r hr => rcC_len (h r hr)) hk
theorem rcC_inj {r s : Rc} (h1 : okRc r) (h2 : okRc s) : (rcC r = rcC s) = (r = s) := by
 refine propext ⟨fun h => ?_, fun h => by rw [h]⟩
 obtain ⟨a, b, c, d, e, f, g⟩ := r
 obtain ⟨a', b', c', d', e', f', g'⟩ := s
 obtain ⟨i1, i2, i3, i4, i5, i6, i7⟩ := rec7_inj h1.1 h2.1 h1.2.1 h2.2.1 h1.2.2.1 h2.2.2.1 h
 simp only at i1 i2 i3 i4 i5 i6 i7
 rw [i1, i2, i3, i4, i5, i6, i7]
theorem trRc (W : World) {cs : List Value} (h : Tr Tryz.prog W 75 cs) : ∃ a n cap, ∃ rs : List Rc, cs = [.slice a n cap] ∧ rs.length = n ∧ n ≤ cap ∧ cap ≤ maxLen ∧ (∀ r ∈ rs, okRc r) ∧ (Ent.view a (rcsC rs)).ok W.heap.size W := by
 obtain ⟨a, n, cap, els, e1, e2, e3, e4, e5, e6⟩ := Tr.slG underlying75 ce70 (by decide) h
 obtain ⟨rs, hrs, hok⟩ := els_of (f := rcC) (p := okRc) (els := els) (fun y hy => by
  have tr := (e5 y hy).2
  have tl_z := Tr.struct (l := [(1, 68), (32, 23), (1, 3), (128, 29), (10, 57)]) underlying70 ce70 (by kernel_rfl) tr
  obtain ⟨a_z0, r_z0, rfl, n_z0, t_z0, tl_z0⟩ := tl_z
  obtain ⟨z0, rfl, b_z0⟩ := Tr.i64 underlying68 t_z0
  obtain ⟨a_z1, r_z1, rfl, n_z1, t_z1, tl_z1⟩ := tl_z0
  obtain ⟨z1, rfl, l_z1⟩ := Tr.arr8 underlying23 ce23 ce5 underlying5 t_z1
  obtain ⟨a_z2, r_z2, rfl, n_z2, t_z2, tl_z2⟩ := tl_z1
  obtain ⟨z2, rfl, b_z2⟩ := Tr.i64 underlying3 t_z2
  obtain ⟨a_z3, r_z3, rfl, n_z3, t_z3, tl_z3⟩ := tl_z2
  obtain ⟨z3, rfl, l_z3⟩ := Tr.arr8 underlying29 ce29 ce5 underlying5 t_z3
  obtain ⟨a_z4, r_z4, rfl, n_z4, t_z4, tl_z4⟩ := tl_z3
  have tl_z4 := Tr.struct (l := [(1, 27), (8, 55), (1, 4)]) underlying57 ce57 (by kernel_rfl) t_z4
  obtain ⟨a_z40, r_z40, rfl, n_z40, t_z40, tl_z40⟩ := tl_z4
  obtain ⟨z40, rfl⟩ := Tr.u64 underlying27 t_z40
  obtain ⟨a_z41, r_z41, rfl, n_z41, t_z41, tl_z41⟩ := tl_z40
  obtain ⟨z41, rfl, l_z41⟩ := Tr.arr64 underlying55 ce55 ce27 underlying27 t_z41
  obtain ⟨a_z42, r_z42, rfl, n_z42, t_z42, tl_z42⟩ := tl_z41
  obtain ⟨z42, rfl⟩ := Tr.bool underlying4 t_z42
  obtain rfl := tl_z42
  obtain rfl := tl_z4
  exact ⟨(z0, z1, z2, z3, z40, z41, z42), by simp [rcC, flat], l_z1, l_z3, l_z41, b_z0, b_z2⟩)
 subst hrs
 exact ⟨a, n, cap, rs, e1, by rw [← e2, List.length_map], e3, e4, hok, e6⟩
theorem allP_f {rs : List Rc} {k : Nat} (h : allP rs k = false) : ∀ {n}, k ≤ n → allP rs n = false
 | 0, hn => by
  have : k = 0 := by omega
  rw [this] at h; exact h
 | n + 1, hn => by
  by_cases e : k = n + 1
  ·rw [← e]; exact h
  ·rw [allP, allP_f h (n := n) (by omega)]; rfl
theorem mayAll_no {rs : List Rc} {k : Nat} (h : allP rs k = false) (hk : k ≤ rs.length) : mayAllB rs = false := by
 rw [mayAllB, allP_f h hk, Bool.and_false]
theorem mayAll_ok {rs : List Rc} (h : allP rs rs.length = true) : mayAllB rs = decide (0 < rs.length) := by rw [mayAllB, h, Bool.and_true]
theorem allP_t {rs : List Rc} : ∀ {n}, allP rs n = true → ∀ k, k < n → mB (rs.getD k zRc) = true ∧ ((rs.getD k zRc).1 = 1 ↔ k = 0)
 | n + 1, h, k, hk => by
  rw [allP, Bool.and_eq_true, Bool.and_eq_true] at h
  by_cases e : k = n
  ·subst e
   refine ⟨h.2.1, ?_⟩
   have h2 := h.2.2
   rw [beq_iff_eq] at h2
   have h3 := decide_eq_decide.1 h2
   omega
  ·exact allP_t h.1 k (by omega)

theorem rc_kd {rs : List Rc} {k : Nat} (h : ∀ r ∈ rs, okRc r) (hk : k < rs.length) : (rcsC rs)[k * 172]? = some (vi (rs.getD k zRc).1) := by
 have e := congrArg (fun l => l[0]?) (rcsC_at h hk)
 simp only [List.getElem?_take, List.getElem?_drop] at e
 rw [if_pos (by omega), Nat.add_zero] at e
 rw [e]; rfl

theorem c_MayAllA (ar : Option Addr) (nr cr : Nat) (rs : List Rc) (hrl : rs.length = nr) (hrs : ∀ r ∈ rs, okRc r) (hnr : nr ≤ 1000000) (w : World) (hvr : View w ar (rcsC rs)) :
  Cs Tryz.prog 39 [(.slice ar nr cr)].toArray w (fun v w1 => v = .bool (mayAllB rs) ∧ Chg w w1 []) := by
 refine Cs.of (n := 30) (args := [(.slice ar nr cr)]) Tryz.func39 rfl rfl rfl ?_
 have h_0 := HP.init w
 have h_00 := h_0.old (View.arg hvr) (fun f hf => by cases hf)
 refine WP.seq (WP.reg ?_)
 refine qA (.bool false) rfl rfl ?_
 refine WL.nil (thn_n (WP.scope (WP.seq (WP.reg ?_))))
 refine qM (.slice ar nr cr) rfl rfl (qV rfl (R.lenS (a := ar) (m := nr) rfl rfl underlying75) (qV rfl (R.bin rfl rfl (bi_gtr (r := decide ((((nr : Nat) : Int) : Int) > 0)) rfl)) (qA (.bool (decide ((((nr : Nat) : Int) : Int) > 0))) rfl rfl ?_)))
 refine WL.nil (thn_n (WP.seq (WP.label (thn_n (WP.seq (WP.seq (WP.reg ?_)))))))
 refine qM (.slice ar nr cr) rfl rfl (qV rfl (R.lenS (a := ar) (m := nr) rfl rfl underlying75) (qM (vi 0) rfl rfl ?_))
 refine WL.nil (thn_n (WP.block ?_))
 refine WP.loopG (G := Nat) [3, 4, 5, 11, 12, 13, 14, 15, 16, 17, 18, 19, 20, 21, 22, 23, 24, 25, 26, 27, 28] (fun k => [(3, (.bool (decide (0 < nr)))), (11, (vn k))]) (fun k m w1 => HP w w1 [.view ar (rcsC rs)] ∧ (k ≤ nr) ∧ (allP rs k = true) ∧ m = nr + 1 - k) ⟨0, _, ⟨congrArg Value.bool (decide_eq_decide.2 (by omega)), rfl, trivial⟩, h_00, Nat.zero_le _, rfl, rfl⟩ ?_
 rintro k m_3 J_4 w_1 ⟨h_2, hkn, hall, rfl⟩
 refine WP.seq (WP.reg ?_)
 refine qV rfl (R.bin rfl rfl (bi_lss (r := decide ((((k : Nat) : Int) : Int) < ((nr : Nat) : Int))) rfl)) ?_
 refine WL.nil (thn_n (WP.seq ?_))
 refine WP.cond (b := decide ((((k : Nat) : Int) : Int) < ((nr : Nat) : Int))) rfl (fun c_5 => ?_) (fun c_5 => ?_)
 ·have p_6 := of_decide_eq_true c_5
  refine WP.skip (thn_n (WP.seq (WP.block (WP.seq ?_))))
  have hlk : k < rs.length := by omega
  have hrk : okRc (rs.getD k zRc) := hrs _ (getD_mem hlk)
  obtain ⟨_, _, _, hbkk, hbpk⟩ := hrk
  have hrk : okRc (rs.getD k zRc) := hrs _ (getD_mem hlk)
  refine WP.reg ?_
  refine qM (vn k) rfl rfl (qV rfl (R.indexS (a := ar) (i := k) (off := k * 172) (xs := rcsC rs) rfl rfl rfl (by omega) (viewV (h_2.ok _ M0)) (by rw [rcsC_len hrs]; omega) underlying75 sizeOf70 rfl) (qV rfl (R.loadGA (a := ar) (i := k * 172) (xs := rcsC rs) (cs := flat [(1, [(vi ((rs.getD k zRc).1))]), (32, ((rs.getD k zRc).2.1).map vu8), (1, [(vi ((rs.getD k zRc).2.2.1))]), (128, ((rs.getD k zRc).2.2.2.1).map vu8), (1, [(vu64 ((rs.getD k zRc).2.2.2.2.1))]), (8, ((rs.getD k zRc).2.2.2.2.2.1).map vu64), (1, [(.bool ((rs.getD k zRc).2.2.2.2.2.2))])]) rfl (viewV (h_2.ok _ M0)) isAgg70 sizeOf70 (rcsC_at hrs hlk) (rcC_len hrk) (by decide)) ?_))
  refine WL.alloc (segs := [(1, [(vi 0)]), (32, (zB 32).map vu8), (1, [(vi 0)]), (128, (zB 128).map vu8), (1, [(vu64 0)]), (8, (zW 8).map vu64), (1, [(.bool false)])]) h_2 (zv typeInfo70 rfl) rfl (sC sV (sC (s8 lr) (sC sV (sC (s8 lr) (sC sV (sC (SOk.u64 lr) (sC sV sN))))))) rfl (fun b_7 w_8 h_9 => ?_)
  refine qA (vn k) rfl rfl ?_
  refine WL.storeA [] [(1, [(vi 0)]), (32, (zB 32).map vu8), (1, [(vi 0)]), (128, (zB 128).map vu8), (1, [(vu64 0)]), (8, (zW 8).map vu64), (1, [(.bool false)])] [(1, [(vi ((rs.getD k zRc).1))]), (32, ((rs.getD k zRc).2.1).map vu8), (1, [(vi ((rs.getD k zRc).2.2.1))]), (128, ((rs.getD k zRc).2.2.2.1).map vu8), (1, [(vu64 ((rs.getD k zRc).2.2.2.2.1))]), (8, ((rs.getD k zRc).2.2.2.2.2.1).map vu64), (1, [(.bool ((rs.getD k zRc).2.2.2.2.2.2))])] [] h_9 rfl rfl sizeOf70 At.h (by decide) rfl rfl rfl rfl rfl rfl (sC sV (sC (s8 hrk.1) (sC sV (sC (s8 hrk.2.1) (sC sV (sC (SOk.u64 hrk.2.2.1) (sC sV sN))))))) (fun w_10 h_11 => ?_)
  refine WL.nil (thn_n (WP.seq (WP.reg ?_)))
  refine qV rfl (R.loadA [] [(1, [(vi ((rs.getD k zRc).1))]), (32, ((rs.getD k zRc).2.1).map vu8), (1, [(vi ((rs.getD k zRc).2.2.1))]), (128, ((rs.getD k zRc).2.2.2.1).map vu8), (1, [(vu64 ((rs.getD k zRc).2.2.2.2.1))]), (8, ((rs.getD k zRc).2.2.2.2.2.1).map vu64), (1, [(.bool ((rs.getD k zRc).2.2.2.2.2.2))])] [] rfl isAgg70 sizeOf70 (h_11.ok _ M0) rfl rfl rfl rfl) ?_
  refine WL.call Tryz.call35 rfl rfl (c_MayA ((rs.getD k zRc).1) hbkk ((rs.getD k zRc).2.1) hrk.1 ((rs.getD k zRc).2.2.1) hbpk ((rs.getD k zRc).2.2.2.1) hrk.2.1 ((rs.getD k zRc).2.2.2.2.1) ((rs.getD k zRc).2.2.2.2.2.1) hrk.2.2.1 ((rs.getD k zRc).2.2.2.2.2.2) _ ) rfl ?_
  rintro _ w_13 ⟨rfl, hc_12⟩
  have h_14 := h_11.same hc_12
  refine qM (.bool (mayB ((rs.getD k zRc).1) ((rs.getD k zRc).2.1) ((rs.getD k zRc).2.2.1) ((rs.getD k zRc).2.2.2.1) ((rs.getD k zRc).2.2.2.2.1) ((rs.getD k zRc).2.2.2.2.2.1) ((rs.getD k zRc).2.2.2.2.2.2))) rfl rfl ?_
  rcases Bool.eq_false_or_eq_true (mayB ((rs.getD k zRc).1) ((rs.getD k zRc).2.1) ((rs.getD k zRc).2.2.1) ((rs.getD k zRc).2.2.2.1) ((rs.getD k zRc).2.2.2.2.1) ((rs.getD k zRc).2.2.2.2.2.1) ((rs.getD k zRc).2.2.2.2.2.2)) with c_15 | c_15
  ·refine WL.want rfl (congrArg Value.bool c_15) ?_
   refine qV rfl (R.fieldAddr (off' := 0) rfl underlying70 rfl sizeOf68 rfl rfl) ?_
   refine WL.want rfl (congrArg Value.bool c_15) ?_
   refine qV rfl (R.load1 rfl isAgg68 (h_14.ok _ M0) Sg.h) ?_
   refine WL.want rfl (congrArg Value.bool c_15) ?_
   refine qV rfl (R.bin rfl rfl (bi_eql (r := decide (((rs.getD k zRc).1 : Int) = 1)) rfl)) ?_
   refine WL.want rfl (congrArg Value.bool c_15) ?_
   refine qM (vn k) rfl rfl ?_
   refine WL.want rfl (congrArg Value.bool c_15) ?_
   refine qV rfl (R.bin rfl rfl (bi_eql (r := decide ((((k : Nat) : Int) : Int) = 0)) rfl)) ?_
   refine WL.want rfl (congrArg Value.bool c_15) ?_
   refine qV rfl (R.eqB (a := decide (((rs.getD k zRc).1 : Int) = 1)) (b := decide ((((k : Nat) : Int) : Int) = 0)) (c := (decide (((rs.getD k zRc).1 : Int) = 1)) == (decide ((((k : Nat) : Int) : Int) = 0))) rfl rfl underlying4 rfl) (qV rfl (R.pickT (v := (.bool ((decide (((rs.getD k zRc).1 : Int) = 1)) == (decide ((((k : Nat) : Int) : Int) = 0))))) (congrArg Value.bool c_15) rfl) (qA (.bool ((decide (((rs.getD k zRc).1 : Int) = 1)) == (decide ((((k : Nat) : Int) : Int) = 0)))) rfl rfl ?_))
   refine WL.nil (thn_n (WP.seq (WP.reg ?_)))
   refine qM (.bool ((decide (((rs.getD k zRc).1 : Int) = 1)) == (decide ((((k : Nat) : Int) : Int) = 0)))) rfl rfl (qV rfl (R.not (b := (decide (((rs.getD k zRc).1 : Int) = 1)) == (decide ((((k : Nat) : Int) : Int) = 0))) rfl) ?_)
   refine WL.nil (thn_n ?_)
   refine WP.cond (b := !((decide (((rs.getD k zRc).1 : Int) = 1)) == (decide ((((k : Nat) : Int) : Int) = 0)))) rfl (fun c_16 => ?_) (fun c_16 => ?_)
   ·refine WP.exit (inb_miss rfl (thn_x (thn_x (inb_hit (thn_n (WP.seq (WP.reg ?_)))))))
    refine qV rfl (R.move (v := (.bool false)) (congrArg Value.bool (notT c_16))) (qA (.bool false) rfl rfl ?_)
    refine WL.nil (thn_n (WP.ret (ng_r ?_)))
    refine ret_of results39 (RV.tmp (v := (.bool false)) rfl RV.nil) ?_
    have hno := mayAll_no (show allP rs (k + 1) = false from by rw [allP, hall]; unfold mB; simp_all) (by omega)
    exact ⟨congrArg Value.bool hno.symm, h_14.chgS⟩
   ·refine WP.skip (inb_n (thn_n (WP.reg ?_)))
    refine qV rfl (R.bin rfl rfl (bi_add (c := ((k + 1 : Nat) : Int)) (by omega) (by omega))) (qM (vn (k + 1)) rfl rfl ?_)
    refine WL.nil (thn_n ?_)
    have h_17 := h_14.drop rfl
    have hall2 : allP rs (k + 1) = true := by rw [allP, hall]; unfold mB; simp_all
    exact ⟨k + 1, _, (by omega), (Ag.upd rfl (U4 rfl rfl rfl rfl (U4 rfl rfl rfl rfl (U4 rfl rfl rfl rfl (U4 rfl rfl rfl rfl (U4 rfl rfl rfl rfl (Ag.updL rfl (Ag.mix _ _ _)))))))), ⟨Eq.trans (congrArg Value.bool (notF c_16)) (congrArg Value.bool (decide_eq_true (show 0 < nr by omega)).symm), rfl, trivial⟩, h_17, (by omega), hall2, rfl⟩
  ·refine WL.skip rfl (congrArg Value.bool c_15) rfl ?_
   refine WL.skip rfl (congrArg Value.bool c_15) rfl ?_
   refine WL.skip rfl (congrArg Value.bool c_15) rfl ?_
   refine WL.skip rfl (congrArg Value.bool c_15) rfl ?_
   refine WL.skip rfl (congrArg Value.bool c_15) rfl ?_
   refine WL.skip rfl (congrArg Value.bool c_15) rfl ?_
   refine qV rfl (R.pickF (v := (.bool false)) (congrArg Value.bool c_15) rfl) (qA (.bool false) rfl rfl ?_)
   refine WL.nil (thn_n (WP.seq (WP.reg ?_)))
   refine qM (.bool false) rfl rfl (qV rfl (R.not (b := false) rfl) ?_)
   refine WL.nil (thn_n ?_)
   refine WP.condT rfl ?_
   refine WP.exit (inb_miss rfl (thn_x (thn_x (inb_hit (thn_n (WP.seq (WP.reg ?_)))))))
   refine qM (.bool false) rfl rfl (qA (.bool false) rfl rfl ?_)
   refine WL.nil (thn_n (WP.ret (ng_r ?_)))
   refine ret_of results39 (RV.tmp (v := (.bool false)) rfl RV.nil) ?_
   have hno := mayAll_no (show allP rs (k + 1) = false from by rw [allP, hall]; unfold mB; simp_all) (by omega)
   exact ⟨congrArg Value.bool hno.symm, h_14.chgS⟩
 ·have p_18 := of_decide_eq_false c_5
  refine WP.exit (thn_x (thn_x (inb_hit (thn_n (WP.seq (WP.reg ?_))))))
  refine qM (.bool (decide (0 < nr))) rfl rfl (qA (.bool (decide (0 < nr))) rfl rfl ?_)
  refine WL.nil (thn_n (WP.ret (ng_r ?_)))
  refine ret_of results39 (RV.tmp (v := (.bool (decide (0 < nr)))) rfl RV.nil) ?_
  have hkk : k = rs.length := by omega
  subst hkk
  exact ⟨congrArg Value.bool (by rw [mayAll_ok hall]; exact decide_eq_decide.2 (by omega)), h_2.chgS⟩

theorem c_MayAllR (ar : Option Addr) (nr cr : Nat) (rs : List Rc) (hrl : rs.length = nr) (hrs : ∀ r ∈ rs, okRc r) (hnr : nr ≤ 1000000) (w : World) (hvr : View w ar (rcsC rs)) :
  Cs Tryz.prog 40 [(.slice ar nr cr)].toArray w (fun v w1 => v = .bool (mayAllB rs) ∧ Chg w w1 []) := by
 refine Cs.of (n := 30) (args := [(.slice ar nr cr)]) Tryz.func40 rfl rfl rfl ?_
 have h_0 := HP.init w
 have h_00 := h_0.old (View.arg hvr) (fun f hf => by cases hf)
 refine WP.seq (WP.reg ?_)
 refine qA (.bool false) rfl rfl ?_
 refine WL.nil (thn_n (WP.seq (WP.seq (WP.reg ?_))))
 refine qA (vi 0) rfl rfl ?_
 refine WL.nil (thn_n (WP.block ?_))
 refine WP.loopG (G := Nat) [2, 3, 4, 5, 6, 7, 8, 9, 10, 11, 12, 13, 14, 15, 16, 17, 18, 19, 20, 21, 22, 23, 24, 25, 26] (fun k => [(3, (vn k))]) (fun k m w1 => HP w w1 [.view ar (rcsC rs)] ∧ (k ≤ nr) ∧ (allP rs k = true) ∧ m = nr + 1 - k) ⟨0, _, ⟨rfl, trivial⟩, h_00, Nat.zero_le _, rfl, rfl⟩ ?_
 rintro k m_3 J_4 w_1 ⟨h_2, hkn, hall, rfl⟩
 refine WP.seq (WP.seq (WP.reg ?_))
 refine qM (vn k) rfl rfl (qM (.slice ar nr cr) rfl rfl (qV rfl (R.lenS (a := ar) (m := nr) rfl rfl underlying75) (qV rfl (R.bin rfl rfl (bi_lss (r := decide ((((k : Nat) : Int) : Int) < ((nr : Nat) : Int))) rfl)) ?_)))
 refine WL.nil (thn_n ?_)
 refine WP.cond (b := decide ((((k : Nat) : Int) : Int) < ((nr : Nat) : Int))) rfl (fun c_5 => ?_) (fun c_5 => ?_)
 ·have p_6 := of_decide_eq_true c_5
  refine WP.skip (thn_n (WP.seq (WP.block (WP.seq ?_))))
  have hlk : k < rs.length := by omega
  have hrk : okRc (rs.getD k zRc) := hrs _ (getD_mem hlk)
  obtain ⟨_, _, _, hbkk, hbpk⟩ := hrk
  have hrk : okRc (rs.getD k zRc) := hrs _ (getD_mem hlk)
  refine WP.reg ?_
  refine qM (.slice ar nr cr) rfl rfl (qM (vn k) rfl rfl (qV rfl (R.indexS (a := ar) (i := k) (off := k * 172) (xs := rcsC rs) rfl rfl rfl (by omega) (viewV (h_2.ok _ M0)) (by rw [rcsC_len hrs]; omega) underlying75 sizeOf70 rfl) (qV rfl (R.loadGA (a := ar) (i := k * 172) (xs := rcsC rs) (cs := flat [(1, [(vi ((rs.getD k zRc).1))]), (32, ((rs.getD k zRc).2.1).map vu8), (1, [(vi ((rs.getD k zRc).2.2.1))]), (128, ((rs.getD k zRc).2.2.2.1).map vu8), (1, [(vu64 ((rs.getD k zRc).2.2.2.2.1))]), (8, ((rs.getD k zRc).2.2.2.2.2.1).map vu64), (1, [(.bool ((rs.getD k zRc).2.2.2.2.2.2))])]) rfl (viewV (h_2.ok _ M0)) isAgg70 sizeOf70 (rcsC_at hrs hlk) (rcC_len hrk) (by decide)) ?_)))
  refine WL.call Tryz.call36 rfl rfl (c_MayAR ((rs.getD k zRc).1) hbkk ((rs.getD k zRc).2.1) hrk.1 ((rs.getD k zRc).2.2.1) hbpk ((rs.getD k zRc).2.2.2.1) hrk.2.1 ((rs.getD k zRc).2.2.2.2.1) ((rs.getD k zRc).2.2.2.2.2.1) hrk.2.2.1 ((rs.getD k zRc).2.2.2.2.2.2) _ ) rfl ?_
  rintro _ w_8 ⟨rfl, hc_7⟩
  have h_9 := h_2.same hc_7
  refine qV rfl (R.not (b := mayB ((rs.getD k zRc).1) ((rs.getD k zRc).2.1) ((rs.getD k zRc).2.2.1) ((rs.getD k zRc).2.2.2.1) ((rs.getD k zRc).2.2.2.2.1) ((rs.getD k zRc).2.2.2.2.2.1) ((rs.getD k zRc).2.2.2.2.2.2)) rfl) (qM (.bool (!(mayB ((rs.getD k zRc).1) ((rs.getD k zRc).2.1) ((rs.getD k zRc).2.2.1) ((rs.getD k zRc).2.2.2.1) ((rs.getD k zRc).2.2.2.2.1) ((rs.getD k zRc).2.2.2.2.2.1) ((rs.getD k zRc).2.2.2.2.2.2)))) rfl rfl ?_)
  rcases Bool.eq_false_or_eq_true (!(mayB ((rs.getD k zRc).1) ((rs.getD k zRc).2.1) ((rs.getD k zRc).2.2.1) ((rs.getD k zRc).2.2.2.1) ((rs.getD k zRc).2.2.2.2.1) ((rs.getD k zRc).2.2.2.2.2.1) ((rs.getD k zRc).2.2.2.2.2.2))) with c_10 | c_10
  ·refine WL.skip rfl (congrArg Value.bool c_10) rfl ?_
   refine WL.skip rfl (congrArg Value.bool c_10) rfl ?_
   refine WL.skip rfl (congrArg Value.bool c_10) rfl ?_
   refine WL.skip rfl (congrArg Value.bool c_10) rfl ?_
   refine WL.skip rfl (congrArg Value.bool c_10) rfl ?_
   refine WL.skip rfl (congrArg Value.bool c_10) rfl ?_
   refine WL.skip rfl (congrArg Value.bool c_10) rfl ?_
   refine WL.skip rfl (congrArg Value.bool c_10) rfl ?_
   refine WL.skip rfl (congrArg Value.bool c_10) rfl ?_
   refine qV rfl (R.pickT (v := (.bool true)) (congrArg Value.bool c_10) rfl) ?_
   refine WL.nil (thn_n ?_)
   refine WP.condT rfl ?_
   refine WP.seq (WP.reg ?_)
   refine qA (.bool false) rfl rfl ?_
   refine WL.nil (thn_n (WP.ret (inb_r (thn_r (thn_r (inb_r (thn_r ?_)))))))
   refine ret_of results40 (RV.tmp (v := (.bool false)) rfl RV.nil) ?_
   have hno := mayAll_no (show allP rs (k + 1) = false from by rw [allP, hall]; unfold mB; simp_all) (by omega)
   exact ⟨congrArg Value.bool hno.symm, h_9.chgS⟩
  ·refine WL.want rfl (congrArg Value.bool c_10) ?_
   refine qM (.slice ar nr cr) rfl rfl ?_
   refine WL.want rfl (congrArg Value.bool c_10) ?_
   refine qM (vn k) rfl rfl ?_
   refine WL.want rfl (congrArg Value.bool c_10) ?_
   refine qV rfl (R.indexS (a := ar) (i := k) (off := k * 172) (xs := rcsC rs) rfl rfl rfl (by omega) (viewV (h_9.ok _ M0)) (by rw [rcsC_len hrs]; omega) underlying75 sizeOf70 rfl) ?_
   refine WL.want rfl (congrArg Value.bool c_10) ?_
   refine qV rfl (R.fieldG (a := ar) (i := k * 172) (off' := k * 172) rfl underlying70 rfl sizeOf68 rfl rfl) ?_
   refine WL.want rfl (congrArg Value.bool c_10) ?_
   refine qV rfl (R.loadG rfl (viewV (h_9.ok _ M0)) isAgg68 (rc_kd hrs hlk)) ?_
   refine WL.want rfl (congrArg Value.bool c_10) ?_
   refine qV rfl (R.bin rfl rfl (bi_eql (r := decide (((rs.getD k zRc).1 : Int) = 1)) rfl)) ?_
   refine WL.want rfl (congrArg Value.bool c_10) ?_
   refine qM (vn k) rfl rfl ?_
   refine WL.want rfl (congrArg Value.bool c_10) ?_
   refine qV rfl (R.bin rfl rfl (bi_eql (r := decide ((((k : Nat) : Int) : Int) = 0)) rfl)) ?_
   refine WL.want rfl (congrArg Value.bool c_10) ?_
   refine qV rfl (R.neB (a := decide (((rs.getD k zRc).1 : Int) = 1)) (b := decide ((((k : Nat) : Int) : Int) = 0)) (c := !((decide (((rs.getD k zRc).1 : Int) = 1)) == (decide ((((k : Nat) : Int) : Int) = 0)))) rfl rfl underlying4 rfl) (qV rfl (R.pickF (v := (.bool (!((decide (((rs.getD k zRc).1 : Int) = 1)) == (decide ((((k : Nat) : Int) : Int) = 0)))))) (congrArg Value.bool c_10) rfl) ?_)
   refine WL.nil (thn_n ?_)
   refine WP.cond (b := !((decide (((rs.getD k zRc).1 : Int) = 1)) == (decide ((((k : Nat) : Int) : Int) = 0)))) rfl (fun c_11 => ?_) (fun c_11 => ?_)
   ·refine WP.seq (WP.reg ?_)
    refine qA (.bool false) rfl rfl ?_
    refine WL.nil (thn_n (WP.ret (inb_r (thn_r (thn_r (inb_r (thn_r ?_)))))))
    refine ret_of results40 (RV.tmp (v := (.bool false)) rfl RV.nil) ?_
    have hno := mayAll_no (show allP rs (k + 1) = false from by rw [allP, hall]; unfold mB; simp_all) (by omega)
    exact ⟨congrArg Value.bool hno.symm, h_9.chgS⟩
   ·refine WP.skip (inb_n (thn_n (WP.reg ?_)))
    refine qM (vn k) rfl rfl (qV rfl (R.bin rfl rfl (bi_add (c := ((k + 1 : Nat) : Int)) (by omega) (by omega))) (qA (vn (k + 1)) rfl rfl ?_))
    refine WL.nil (thn_n ?_)
    have hall2 : allP rs (k + 1) = true := by rw [allP, hall]; unfold mB; simp_all
    exact ⟨k + 1, _, (by omega), (U4 rfl rfl rfl rfl (U4 rfl rfl rfl rfl (U4 rfl rfl rfl rfl (U4 rfl rfl rfl rfl (U4 rfl rfl rfl rfl (U4 rfl rfl rfl rfl (Ag.updL rfl (Ag.mix _ _ _)))))))), ⟨rfl, trivial⟩, h_9, (by omega), hall2, rfl⟩
 ·have p_12 := of_decide_eq_false c_5
  refine WP.exit (thn_x (thn_x (inb_hit (thn_n (WP.seq (WP.reg ?_))))))
  refine qM (.slice ar nr cr) rfl rfl (qV rfl (R.lenS (a := ar) (m := nr) rfl rfl underlying75) (qV rfl (R.bin rfl rfl (bi_gtr (r := decide ((((nr : Nat) : Int) : Int) > 0)) rfl)) (qA (.bool (decide ((((nr : Nat) : Int) : Int) > 0))) rfl rfl ?_)))
  refine WL.nil (thn_n (WP.ret ?_))
  refine ret_of results40 (RV.tmp (v := (.bool (decide ((((nr : Nat) : Int) : Int) > 0)))) rfl RV.nil) ?_
  have hkk : k = rs.length := by omega
  subst hkk
  exact ⟨congrArg Value.bool (by rw [mayAll_ok hall]; exact decide_eq_decide.2 (by omega)), h_2.chgS⟩

theorem lists_eq {α : Type} {z : α} {rs ks : List α} (hl : rs.length = ks.length) (h : ∀ j, j < rs.length → rs.getD j z = ks.getD j z) : rs = ks :=
 List.ext_getElem hl fun j h1 h2 => by have := h j h1; simpa [h1, h2] using this

theorem c_EqualR (ar : Option Addr) (nr cr : Nat) (rs : List Rc) (hrl : rs.length = nr) (hrs : ∀ r ∈ rs, okRc r) (hnr : nr ≤ 1000000) (ar2 : Option Addr) (nr2 cr2 : Nat) (ks : List Rc) (hkl : ks.length = nr2) (hks : ∀ r ∈ ks, okRc r) (hnr2 : nr2 ≤ 1000000) (w : World) (hvr : View w ar (rcsC rs)) (hvk : View w ar2 (rcsC ks)) :
  Cs Tryz.prog 80 [(.slice ar nr cr), (.slice ar2 nr2 cr2)].toArray w (fun v w1 => v = .bool (decide (rs = ks)) ∧ Chg w w1 []) := by
 refine Cs.of (n := 26) (args := [(.slice ar nr cr), (.slice ar2 nr2 cr2)]) Tryz.func80 rfl rfl rfl ?_
 have h_0 := HP.init w
 have h_01 := h_0.oldV (View.arg hvr) rfl (by simp [Ent.mut])
 have h_00 := h_01.oldV (View.arg hvk) rfl (by simp [Ent.mut])
 refine WP.seq (WP.reg ?_)
 refine qA (.bool false) rfl rfl ?_
 refine WL.nil (thn_n (WP.seq (WP.seq (WP.reg ?_))))
 refine qM (.slice ar nr cr) rfl rfl (qV rfl (R.lenS (a := ar) (m := nr) rfl rfl underlying75) (qM (.slice ar2 nr2 cr2) rfl rfl (qV rfl (R.lenS (a := ar2) (m := nr2) rfl rfl underlying75) (qV rfl (R.bin rfl rfl (bi_neq (r := decide ((((nr : Nat) : Int) : Int) ≠ ((nr2 : Nat) : Int))) rfl)) ?_))))
 refine WL.nil (thn_n ?_)
 refine WP.cond (b := decide ((((nr : Nat) : Int) : Int) ≠ ((nr2 : Nat) : Int))) rfl (fun c_1 => ?_) (fun c_1 => ?_)
 ·have p_2 := of_decide_eq_true c_1
  refine WP.seq (WP.reg ?_)
  refine qA (.bool false) rfl rfl ?_
  refine WL.nil (thn_n (WP.ret (thn_r ?_)))
  refine ret_of results80 (RV.tmp (v := (.bool false)) rfl RV.nil) ?_
  exact ⟨congrArg Value.bool (decide_eq_false (fun e => by rw [e] at hrl; omega)).symm, h_00.chgS⟩
 ·have p_3 := of_decide_eq_false c_1
  refine WP.skip (thn_n (WP.seq (WP.seq (WP.reg ?_))))
  refine qM (.slice ar nr cr) rfl rfl (qV rfl (R.lenS (a := ar) (m := nr) rfl rfl underlying75) (qM (vi 0) rfl rfl ?_))
  refine WL.nil (thn_n (WP.block ?_))
  refine WP.loopG (G := Nat) [4, 5, 13, 14, 15, 16, 17, 18, 19, 20, 21, 22, 23, 24, 25] (fun k => [(13, (vn k))]) (fun k m w1 => HP w w1 [.view ar2 (rcsC ks), .view ar (rcsC rs)] ∧ (k ≤ nr) ∧ (∀ j, j < k → rs.getD j zRc = ks.getD j zRc) ∧ m = nr + 1 - k) ⟨0, _, ⟨rfl, trivial⟩, h_00, Nat.zero_le _, (fun j hj => by omega), rfl⟩ ?_
  rintro k m_6 J_7 w_4 ⟨h_5, hkn, heq, rfl⟩
  refine WP.seq (WP.reg ?_)
  refine qV rfl (R.bin rfl rfl (bi_lss (r := decide ((((k : Nat) : Int) : Int) < ((nr : Nat) : Int))) rfl)) ?_
  refine WL.nil (thn_n (WP.seq ?_))
  refine WP.cond (b := decide ((((k : Nat) : Int) : Int) < ((nr : Nat) : Int))) rfl (fun c_8 => ?_) (fun c_8 => ?_)
  ·have p_9 := of_decide_eq_true c_8
   refine WP.skip (thn_n (WP.seq (WP.block (WP.seq (WP.reg ?_)))))
   refine qM (vn k) rfl rfl (qA (vn k) rfl rfl ?_)
   refine WL.nil (thn_n (WP.seq ?_))
   have hlk : k < rs.length := by omega
   have hrk : okRc (rs.getD k zRc) := hrs _ (getD_mem hlk)
   obtain ⟨_, _, _, hbkk, hbpk⟩ := hrk
   have hrk : okRc (rs.getD k zRc) := hrs _ (getD_mem hlk)
   have hlqk : k < ks.length := by omega
   have hrqk : okRc (ks.getD k zRc) := hks _ (getD_mem hlqk)
   obtain ⟨_, _, _, hbkqk, hbpqk⟩ := hrqk
   have hrqk : okRc (ks.getD k zRc) := hks _ (getD_mem hlqk)
   refine WP.drawT (SL w.heap.size [.view ar2 (rcsC ks), .view ar (rcsC rs)]) (.q 0 (.q 1 (.q 2 (.q 3 (.q 4 (.q 5 (.q 6 (.q 7 (.q 8 .nil))))))))) (by kernel_rfl) (by kernel_rfl) rfl (by kernel_rfl) (fun w_10 hc_12 => (SL.cons ((h_5.same hc_12).ok _ M0) (SL.cons ((h_5.same hc_12).ok _ M1) (SL.nil _ _)))) (fun w_10 hc_12 => ?_)
   have h_11 := h_5.same hc_12
   refine qT rfl rfl (fun wq hS => R.move (v := (.slice ar nr cr)) rfl) ?_
   refine qT rfl rfl (fun wq hS => R.move (v := (vn k)) rfl) ?_
   refine qT rfl rfl (fun wq hS => R.indexS (a := ar) (i := k) (off := k * 172) (xs := rcsC rs) rfl rfl rfl (by omega) (viewV (hS _ M1)) (by rw [rcsC_len hrs]; omega) underlying75 sizeOf70 rfl) ?_
   refine qT rfl rfl (fun wq hS => R.loadGA (a := ar) (i := k * 172) (xs := rcsC rs) (cs := flat [(1, [(vi ((rs.getD k zRc).1))]), (32, ((rs.getD k zRc).2.1).map vu8), (1, [(vi ((rs.getD k zRc).2.2.1))]), (128, ((rs.getD k zRc).2.2.2.1).map vu8), (1, [(vu64 ((rs.getD k zRc).2.2.2.2.1))]), (8, ((rs.getD k zRc).2.2.2.2.2.1).map vu64), (1, [(.bool ((rs.getD k zRc).2.2.2.2.2.2))])]) rfl (viewV (hS _ M1)) isAgg70 sizeOf70 (rcsC_at hrs hlk) (rcC_len hrk) (by decide)) ?_
   refine qT rfl rfl (fun wq hS => R.move (v := (.slice ar2 nr2 cr2)) rfl) ?_
   refine qT rfl rfl (fun wq hS => R.move (v := (vn k)) rfl) ?_
   refine qT rfl rfl (fun wq hS => R.indexS (a := ar2) (i := k) (off := k * 172) (xs := rcsC ks) rfl rfl rfl (by omega) (viewV (hS _ M0)) (by rw [rcsC_len hks]; omega) underlying75 sizeOf70 rfl) ?_
   refine qT rfl rfl (fun wq hS => R.loadGA (a := ar2) (i := k * 172) (xs := rcsC ks) (cs := flat [(1, [(vi ((ks.getD k zRc).1))]), (32, ((ks.getD k zRc).2.1).map vu8), (1, [(vi ((ks.getD k zRc).2.2.1))]), (128, ((ks.getD k zRc).2.2.2.1).map vu8), (1, [(vu64 ((ks.getD k zRc).2.2.2.2.1))]), (8, ((ks.getD k zRc).2.2.2.2.2.1).map vu64), (1, [(.bool ((ks.getD k zRc).2.2.2.2.2.2))])]) rfl (viewV (hS _ M0)) isAgg70 sizeOf70 (rcsC_at hks hlqk) (rcC_len hrqk) (by decide)) ?_
   refine qT rfl rfl (fun wq hS => R.neA (xs := flat [(1, [(vi ((rs.getD k zRc).1))]), (32, ((rs.getD k zRc).2.1).map vu8), (1, [(vi ((rs.getD k zRc).2.2.1))]), (128, ((rs.getD k zRc).2.2.2.1).map vu8), (1, [(vu64 ((rs.getD k zRc).2.2.2.2.1))]), (8, ((rs.getD k zRc).2.2.2.2.2.1).map vu64), (1, [(.bool ((rs.getD k zRc).2.2.2.2.2.2))])]) (ys := flat [(1, [(vi ((ks.getD k zRc).1))]), (32, ((ks.getD k zRc).2.1).map vu8), (1, [(vi ((ks.getD k zRc).2.2.1))]), (128, ((ks.getD k zRc).2.2.2.1).map vu8), (1, [(vu64 ((ks.getD k zRc).2.2.2.2.1))]), (8, ((ks.getD k zRc).2.2.2.2.2.1).map vu64), (1, [(.bool ((ks.getD k zRc).2.2.2.2.2.2))])]) (r := !decide (rs.getD k zRc = ks.getD k zRc)) rfl rfl eqGuardType70 kt70 (by decide) ag70 (typR ((rs.getD k zRc).1) (by omega) ((rs.getD k zRc).2.1) hrk.1 ((rs.getD k zRc).2.2.1) (by omega) ((rs.getD k zRc).2.2.2.1) hrk.2.1 ((rs.getD k zRc).2.2.2.2.1) ((rs.getD k zRc).2.2.2.2.2.1) hrk.2.2.1 ((rs.getD k zRc).2.2.2.2.2.2)) (typR ((ks.getD k zRc).1) (by omega) ((ks.getD k zRc).2.1) hrqk.1 ((ks.getD k zRc).2.2.1) (by omega) ((ks.getD k zRc).2.2.2.1) hrqk.2.1 ((ks.getD k zRc).2.2.2.2.1) ((ks.getD k zRc).2.2.2.2.2.1) hrqk.2.2.1 ((ks.getD k zRc).2.2.2.2.2.2)) ((rcC_inj hrk hrqk).trans (decN _))) ?_
   refine WT.nil (thn_n ?_)
   refine WP.cond (b := !decide (rs.getD k zRc = ks.getD k zRc)) rfl (fun c_13 => ?_) (fun c_13 => ?_)
   ·have p_14 := of_decide_eq_false (notT c_13)
    refine WP.seq (WP.reg ?_)
    refine qA (.bool false) rfl rfl ?_
    refine WL.nil (thn_n (WP.ret (inb_r (thn_r (thn_r (inb_r (thn_r ?_)))))))
    refine ret_of results80 (RV.tmp (v := (.bool false)) rfl RV.nil) ?_
    exact ⟨congrArg Value.bool (decide_eq_false (fun e => p_14 (by rw [e]))).symm, h_11.chgS⟩
   ·have p_15 := of_decide_eq_true (notF c_13)
    refine WP.skip (inb_n (thn_n (WP.reg ?_)))
    refine qV rfl (R.bin rfl rfl (bi_add (c := ((k + 1 : Nat) : Int)) (by omega) (by omega))) (qM (vn (k + 1)) rfl rfl ?_)
    refine WL.nil (thn_n ?_)
    have h_17 := (h_11.up J1).up J1
    exact ⟨k + 1, _, (by omega), (U2 rfl rfl (U4 rfl rfl rfl rfl (U4 rfl rfl rfl rfl (U4 rfl rfl rfl rfl (Ag.updL rfl (Ag.mix _ _ _)))))), ⟨rfl, trivial⟩, h_17, (by omega), (fun j hj => (Nat.lt_or_eq_of_le (Nat.le_of_lt_succ hj)).elim (fun e => heq j e) (fun e => by rw [e]; exact p_15)), rfl⟩
  ·have p_18 := of_decide_eq_false c_8
   refine WP.exit (thn_x (thn_x (inb_hit (thn_n (WP.seq (WP.reg ?_))))))
   refine qA (.bool true) rfl rfl ?_
   refine WL.nil (thn_n (WP.ret ?_))
   refine ret_of results80 (RV.tmp (v := (.bool true)) rfl RV.nil) ?_
   have hrk2 : rs = ks := lists_eq (z := zRc) (by omega) (fun j hj => heq j (by omega))
   exact ⟨congrArg Value.bool (decide_eq_true hrk2).symm, h_5.chgS⟩

theorem c_SameRR (ar : Option Addr) (nr cr : Nat) (rs : List Rc) (hrl : rs.length = nr) (hrs : ∀ r ∈ rs, okRc r) (hnr : nr ≤ 1000000) (ar2 : Option Addr) (nr2 cr2 : Nat) (ks : List Rc) (hkl : ks.length = nr2) (hks : ∀ r ∈ ks, okRc r) (hnr2 : nr2 ≤ 1000000) (w : World) (hvr : View w ar (rcsC rs)) (hvk : View w ar2 (rcsC ks)) :
  Cs Tryz.prog 42 [(.slice ar nr cr), (.slice ar2 nr2 cr2)].toArray w (fun v w1 => v = .bool (decide (rs = ks)) ∧ Chg w w1 []) := by
 refine Cs.of (n := 26) (args := [(.slice ar nr cr), (.slice ar2 nr2 cr2)]) Tryz.func42 rfl rfl rfl ?_
 have h_0 := HP.init w
 have h_01 := h_0.oldV (View.arg hvr) rfl (by simp [Ent.mut])
 have h_00 := h_01.oldV (View.arg hvk) rfl (by simp [Ent.mut])
 refine WP.seq (WP.reg ?_)
 refine qA (.bool false) rfl rfl ?_
 refine WL.nil (thn_n (WP.seq (WP.seq (WP.reg ?_))))
 refine qM (.slice ar nr cr) rfl rfl (qV rfl (R.lenS (a := ar) (m := nr) rfl rfl underlying75) (qM (.slice ar2 nr2 cr2) rfl rfl (qV rfl (R.lenS (a := ar2) (m := nr2) rfl rfl underlying75) (qV rfl (R.bin rfl rfl (bi_neq (r := decide ((((nr : Nat) : Int) : Int) ≠ ((nr2 : Nat) : Int))) rfl)) ?_))))
 refine WL.nil (thn_n ?_)
 refine WP.cond (b := decide ((((nr : Nat) : Int) : Int) ≠ ((nr2 : Nat) : Int))) rfl (fun c_1 => ?_) (fun c_1 => ?_)
 ·have p_2 := of_decide_eq_true c_1
  refine WP.seq (WP.reg ?_)
  refine qA (.bool false) rfl rfl ?_
  refine WL.nil (thn_n (WP.ret (thn_r ?_)))
  refine ret_of results42 (RV.tmp (v := (.bool false)) rfl RV.nil) ?_
  exact ⟨congrArg Value.bool (decide_eq_false (fun e => by rw [e] at hrl; omega)).symm, h_00.chgS⟩
 ·have p_3 := of_decide_eq_false c_1
  refine WP.skip (thn_n (WP.seq (WP.seq (WP.reg ?_))))
  refine qA (vi 0) rfl rfl ?_
  refine WL.nil (thn_n (WP.block ?_))
  refine WP.loopG (G := Nat) [4, 5, 11, 12, 13, 14, 15, 16, 17, 18, 19, 20, 21, 22, 23, 24, 25] (fun k => [(5, (vn k))]) (fun k m w1 => HP w w1 [.view ar2 (rcsC ks), .view ar (rcsC rs)] ∧ (k ≤ nr) ∧ (∀ j, j < k → rs.getD j zRc = ks.getD j zRc) ∧ m = nr + 1 - k) ⟨0, _, ⟨rfl, trivial⟩, h_00, Nat.zero_le _, (fun j hj => by omega), rfl⟩ ?_
  rintro k m_6 J_7 w_4 ⟨h_5, hkn, heq, rfl⟩
  refine WP.seq (WP.seq (WP.reg ?_))
  refine qM (vn k) rfl rfl (qM (.slice ar nr cr) rfl rfl (qV rfl (R.lenS (a := ar) (m := nr) rfl rfl underlying75) (qV rfl (R.bin rfl rfl (bi_lss (r := decide ((((k : Nat) : Int) : Int) < ((nr : Nat) : Int))) rfl)) ?_)))
  refine WL.nil (thn_n ?_)
  refine WP.cond (b := decide ((((k : Nat) : Int) : Int) < ((nr : Nat) : Int))) rfl (fun c_8 => ?_) (fun c_8 => ?_)
  ·have p_9 := of_decide_eq_true c_8
   refine WP.skip (thn_n (WP.seq (WP.block (WP.seq ?_))))
   have hlk : k < rs.length := by omega
   have hrk : okRc (rs.getD k zRc) := hrs _ (getD_mem hlk)
   obtain ⟨_, _, _, hbkk, hbpk⟩ := hrk
   have hrk : okRc (rs.getD k zRc) := hrs _ (getD_mem hlk)
   have hlqk : k < ks.length := by omega
   have hrqk : okRc (ks.getD k zRc) := hks _ (getD_mem hlqk)
   obtain ⟨_, _, _, hbkqk, hbpqk⟩ := hrqk
   have hrqk : okRc (ks.getD k zRc) := hks _ (getD_mem hlqk)
   refine WP.drawT (SL w.heap.size [.view ar2 (rcsC ks), .view ar (rcsC rs)]) (.q 0 (.q 1 (.q 2 (.q 3 (.q 4 (.q 5 (.q 6 (.q 7 (.q 8 .nil))))))))) (by kernel_rfl) (by kernel_rfl) rfl (by kernel_rfl) (fun w_10 hc_12 => (SL.cons ((h_5.same hc_12).ok _ M0) (SL.cons ((h_5.same hc_12).ok _ M1) (SL.nil _ _)))) (fun w_10 hc_12 => ?_)
   have h_11 := h_5.same hc_12
   refine qT rfl rfl (fun wq hS => R.move (v := (.slice ar nr cr)) rfl) ?_
   refine qT rfl rfl (fun wq hS => R.move (v := (vn k)) rfl) ?_
   refine qT rfl rfl (fun wq hS => R.indexS (a := ar) (i := k) (off := k * 172) (xs := rcsC rs) rfl rfl rfl (by omega) (viewV (hS _ M1)) (by rw [rcsC_len hrs]; omega) underlying75 sizeOf70 rfl) ?_
   refine qT rfl rfl (fun wq hS => R.loadGA (a := ar) (i := k * 172) (xs := rcsC rs) (cs := flat [(1, [(vi ((rs.getD k zRc).1))]), (32, ((rs.getD k zRc).2.1).map vu8), (1, [(vi ((rs.getD k zRc).2.2.1))]), (128, ((rs.getD k zRc).2.2.2.1).map vu8), (1, [(vu64 ((rs.getD k zRc).2.2.2.2.1))]), (8, ((rs.getD k zRc).2.2.2.2.2.1).map vu64), (1, [(.bool ((rs.getD k zRc).2.2.2.2.2.2))])]) rfl (viewV (hS _ M1)) isAgg70 sizeOf70 (rcsC_at hrs hlk) (rcC_len hrk) (by decide)) ?_
   refine qT rfl rfl (fun wq hS => R.move (v := (.slice ar2 nr2 cr2)) rfl) ?_
   refine qT rfl rfl (fun wq hS => R.move (v := (vn k)) rfl) ?_
   refine qT rfl rfl (fun wq hS => R.indexS (a := ar2) (i := k) (off := k * 172) (xs := rcsC ks) rfl rfl rfl (by omega) (viewV (hS _ M0)) (by rw [rcsC_len hks]; omega) underlying75 sizeOf70 rfl) ?_
   refine qT rfl rfl (fun wq hS => R.loadGA (a := ar2) (i := k * 172) (xs := rcsC ks) (cs := flat [(1, [(vi ((ks.getD k zRc).1))]), (32, ((ks.getD k zRc).2.1).map vu8), (1, [(vi ((ks.getD k zRc).2.2.1))]), (128, ((ks.getD k zRc).2.2.2.1).map vu8), (1, [(vu64 ((ks.getD k zRc).2.2.2.2.1))]), (8, ((ks.getD k zRc).2.2.2.2.2.1).map vu64), (1, [(.bool ((ks.getD k zRc).2.2.2.2.2.2))])]) rfl (viewV (hS _ M0)) isAgg70 sizeOf70 (rcsC_at hks hlqk) (rcC_len hrqk) (by decide)) ?_
   refine qT rfl rfl (fun wq hS => R.neA (xs := flat [(1, [(vi ((rs.getD k zRc).1))]), (32, ((rs.getD k zRc).2.1).map vu8), (1, [(vi ((rs.getD k zRc).2.2.1))]), (128, ((rs.getD k zRc).2.2.2.1).map vu8), (1, [(vu64 ((rs.getD k zRc).2.2.2.2.1))]), (8, ((rs.getD k zRc).2.2.2.2.2.1).map vu64), (1, [(.bool ((rs.getD k zRc).2.2.2.2.2.2))])]) (ys := flat [(1, [(vi ((ks.getD k zRc).1))]), (32, ((ks.getD k zRc).2.1).map vu8), (1, [(vi ((ks.getD k zRc).2.2.1))]), (128, ((ks.getD k zRc).2.2.2.1).map vu8), (1, [(vu64 ((ks.getD k zRc).2.2.2.2.1))]), (8, ((ks.getD k zRc).2.2.2.2.2.1).map vu64), (1, [(.bool ((ks.getD k zRc).2.2.2.2.2.2))])]) (r := !decide (rs.getD k zRc = ks.getD k zRc)) rfl rfl eqGuardType70 kt70 (by decide) ag70 (typR ((rs.getD k zRc).1) (by omega) ((rs.getD k zRc).2.1) hrk.1 ((rs.getD k zRc).2.2.1) (by omega) ((rs.getD k zRc).2.2.2.1) hrk.2.1 ((rs.getD k zRc).2.2.2.2.1) ((rs.getD k zRc).2.2.2.2.2.1) hrk.2.2.1 ((rs.getD k zRc).2.2.2.2.2.2)) (typR ((ks.getD k zRc).1) (by omega) ((ks.getD k zRc).2.1) hrqk.1 ((ks.getD k zRc).2.2.1) (by omega) ((ks.getD k zRc).2.2.2.1) hrqk.2.1 ((ks.getD k zRc).2.2.2.2.1) ((ks.getD k zRc).2.2.2.2.2.1) hrqk.2.2.1 ((ks.getD k zRc).2.2.2.2.2.2)) ((rcC_inj hrk hrqk).trans (decN _))) ?_
   refine WT.nil (thn_n ?_)
   refine WP.cond (b := !decide (rs.getD k zRc = ks.getD k zRc)) rfl (fun c_13 => ?_) (fun c_13 => ?_)
   ·have p_14 := of_decide_eq_false (notT c_13)
    refine WP.seq (WP.reg ?_)
    refine qA (.bool false) rfl rfl ?_
    refine WL.nil (thn_n (WP.ret (inb_r (thn_r (thn_r (inb_r (thn_r ?_)))))))
    refine ret_of results42 (RV.tmp (v := (.bool false)) rfl RV.nil) ?_
    exact ⟨congrArg Value.bool (decide_eq_false (fun e => p_14 (by rw [e]))).symm, h_11.chgS⟩
   ·have p_15 := of_decide_eq_true (notF c_13)
    refine WP.skip (inb_n (thn_n (WP.reg ?_)))
    refine qM (vn k) rfl rfl (qV rfl (R.bin rfl rfl (bi_add (c := ((k + 1 : Nat) : Int)) (by omega) (by omega))) (qA (vn (k + 1)) rfl rfl ?_))
    refine WL.nil (thn_n ?_)
    have h_17 := (h_11.up J1).up J1
    exact ⟨k + 1, _, (by omega), (U4 rfl rfl rfl rfl (U4 rfl rfl rfl rfl (U4 rfl rfl rfl rfl (U4 rfl rfl rfl rfl (Ag.updL rfl (Ag.mix _ _ _)))))), ⟨rfl, trivial⟩, h_17, (by omega), (fun j hj => (Nat.lt_or_eq_of_le (Nat.le_of_lt_succ hj)).elim (fun e => heq j e) (fun e => by rw [e]; exact p_15)), rfl⟩
  ·have p_18 := of_decide_eq_false c_8
   refine WP.exit (thn_x (thn_x (inb_hit (thn_n (WP.seq (WP.reg ?_))))))
   refine qA (.bool true) rfl rfl ?_
   refine WL.nil (thn_n (WP.ret ?_))
   refine ret_of results42 (RV.tmp (v := (.bool true)) rfl RV.nil) ?_
   have hrk2 : rs = ks := lists_eq (z := zRc) (by omega) (fun j hj => heq j (by omega))
   exact ⟨congrArg Value.bool (decide_eq_true hrk2).symm, h_5.chgS⟩

theorem c_SameM (ar : Option Addr) (nr cr : Nat) (rs : List Rc) (hrl : rs.length = nr) (hrs : ∀ r ∈ rs, okRc r) (hnr : nr ≤ 1000000) (ar2 : Option Addr) (nr2 cr2 : Nat) (ks : List Rc) (hkl : ks.length = nr2) (hks : ∀ r ∈ ks, okRc r) (hnr2 : nr2 ≤ 1000000) (w : World) (hvr : View w ar (rcsC rs)) (hvk : View w ar2 (rcsC ks)) :
  Cs Tryz.prog 41 [(.slice ar nr cr), (.slice ar2 nr2 cr2)].toArray w (fun v w1 => v = .bool (decide (rs = ks)) ∧ Chg w w1 []) := by
 refine Cs.of (n := 8) (args := [(.slice ar nr cr), (.slice ar2 nr2 cr2)]) Tryz.func41 rfl rfl rfl ?_
 have h_0 := HP.init w
 have h_01 := h_0.oldV (View.arg hvr) rfl (by simp [Ent.mut])
 have h_00 := h_01.oldV (View.arg hvk) rfl (by simp [Ent.mut])
 refine WP.seq (WP.reg ?_)
 refine qA (.bool false) rfl rfl ?_
 refine WL.nil (thn_n (WP.seq (WP.reg ?_)))
 refine qM (.slice ar nr cr) rfl rfl (qM (.slice ar2 nr2 cr2) rfl rfl ?_)
 refine WL.call Tryz.call80 rfl rfl (c_EqualR ar nr cr rs hrl hrs (by omega) ar2 nr2 cr2 ks hkl hks (by omega) _ (viewV (h_00.ok _ M1)) (viewV (h_00.ok _ M0))) rfl ?_
 rintro _ w_2 ⟨rfl, hc_1⟩
 have h_3 := h_00.same hc_1
 refine qA (.bool (decide (rs = ks))) rfl rfl ?_
 refine WL.nil (thn_n (WP.ret ?_))
 refine ret_of results41 (RV.tmp (v := (.bool (decide (rs = ks)))) rfl RV.nil) ?_
 exact ⟨rfl, h_3.chgS⟩
end Go.Proofs.YteclkcpdclimnaaGreat

namespace Go.Proofs.YteclkcpdclimnaaGreat
open Go.Proofs.Tryz
open Go.Vc Go.Orc Go.Sh Go.RowKit
set_option maxRecDepth 20000

def rpS (id : Bool) (df : List UInt8) (dn u : Nat) (lg : Lg) (rs : List Rc) : Nat → Nat × Lg × List UInt8
 | 0 => (anU id u lg (1, (List.replicate 32 (0 : UInt8)), 1, [(rs.getD 0 zRc).2.1].flatten), anL id df dn u lg (1, (List.replicate 32 (0 : UInt8)), 1, [(rs.getD 0 zRc).2.1].flatten), anD id df dn u lg (1, (List.replicate 32 (0 : UInt8)), 1, [(rs.getD 0 zRc).2.1].flatten))
 | k + 1 => (anU id (rpS id df dn u lg rs k).1 (rpS id df dn u lg rs k).2.1 (qN (rpS id df dn u lg rs k).2.2 (rs.getD (k + 1) zRc).1 (rs.getD (k + 1) zRc).2.2.1 (rs.getD (k + 1) zRc).2.2.2.1 (rs.getD (k + 1) zRc).2.2.2.2.1 (rs.getD (k + 1) zRc).2.2.2.2.2.1 (rs.getD (k + 1) zRc).2.2.2.2.2.2), anL id df dn (rpS id df dn u lg rs k).1 (rpS id df dn u lg rs k).2.1 (qN (rpS id df dn u lg rs k).2.2 (rs.getD (k + 1) zRc).1 (rs.getD (k + 1) zRc).2.2.1 (rs.getD (k + 1) zRc).2.2.2.1 (rs.getD (k + 1) zRc).2.2.2.2.1 (rs.getD (k + 1) zRc).2.2.2.2.2.1 (rs.getD (k + 1) zRc).2.2.2.2.2.2), anD id df dn (rpS id df dn u lg rs k).1 (rpS id df dn u lg rs k).2.1 (qN (rpS id df dn u lg rs k).2.2 (rs.getD (k + 1) zRc).1 (rs.getD (k + 1) zRc).2.2.1 (rs.getD (k + 1) zRc).2.2.2.1 (rs.getD (k + 1) zRc).2.2.2.2.1 (rs.getD (k + 1) zRc).2.2.2.2.2.1 (rs.getD (k + 1) zRc).2.2.2.2.2.2))
section
variable {id : Bool} {df : List UInt8} {dn u : Nat} {lg : Lg} {rs : List Rc}
theorem rpS_u : ∀ k, (rpS id df dn u lg rs k).1 ≤ u + k + 1
 | 0 => anU_le ..
 | k + 1 => by
  have h1 := rpS_u k
  have h2 := anU_le id (rpS id df dn u lg rs k).1 (rpS id df dn u lg rs k).2.1 (qN (rpS id df dn u lg rs k).2.2 (rs.getD (k + 1) zRc).1 (rs.getD (k + 1) zRc).2.2.1 (rs.getD (k + 1) zRc).2.2.2.1 (rs.getD (k + 1) zRc).2.2.2.2.1 (rs.getD (k + 1) zRc).2.2.2.2.2.1 (rs.getD (k + 1) zRc).2.2.2.2.2.2)
  show anU _ _ _ _ ≤ _
  omega
theorem rpS_l : ∀ k, (rpS id df dn u lg rs k).2.1.length ≤ lg.length + k + 1
 | 0 => anL_le ..
 | k + 1 => by
  have h1 := rpS_l k
  have h2 := anL_le id df dn (rpS id df dn u lg rs k).1 (rpS id df dn u lg rs k).2.1 (qN (rpS id df dn u lg rs k).2.2 (rs.getD (k + 1) zRc).1 (rs.getD (k + 1) zRc).2.2.1 (rs.getD (k + 1) zRc).2.2.2.1 (rs.getD (k + 1) zRc).2.2.2.2.1 (rs.getD (k + 1) zRc).2.2.2.2.2.1 (rs.getD (k + 1) zRc).2.2.2.2.2.2)
  show (anL _ _ _ _ _ _).length ≤ _
  omega
theorem rpS_32 (h : df.length = 32 * dn) (hl : ok32 lg) : ∀ k, ok32 (rpS id df dn u lg rs k).2.1
 | 0 => anL_32 h hl
 | k + 1 => anL_32 h (rpS_32 h hl k)
theorem rpS_len (h : df.length = 32 * dn) (hl : ok32 lg) : ∀ k, (rpS id df dn u lg rs k).2.2.length = 32
 | 0 => anD_len h hl
 | k + 1 => anD_len h (rpS_32 h hl k)
end
theorem mayAll_P {rs : List Rc} (h : mayAllB rs = true) : 0 < rs.length ∧ allP rs rs.length = true := by
 rw [mayAllB, Bool.and_eq_true] at h
 exact ⟨of_decide_eq_true h.1, h.2⟩
theorem rcsC_at1 {rs : List Rc} {k : Nat} (h : ∀ r ∈ rs, okRc r) (hk : k + 1 < rs.length) : ((rcsC (rs.drop 1)).drop (k * 172)).take 172 = rcC (rs.getD (k + 1) zRc) := by
 have e := rcsC_at (rs := rs.drop 1) (k := k) (fun r hr => h r (List.mem_of_mem_drop hr)) (by rw [List.length_drop]; omega)
 rw [e]
 congr 1
 simp [List.getD_eq_getElem?_getD, List.getElem?_drop, Nat.add_comm]
theorem rc_val {rs : List Rc} (h : ∀ r ∈ rs, okRc r) (hk : 0 < rs.length) : ((rcsC rs).drop (0 + 1)).take 32 = (rs.getD 0 zRc).2.1.map vu8 := by
 have e := congrArg (fun l => (l.drop 1).take 32) (rcsC_at h hk)
 simp only [Nat.zero_mul, List.drop_zero, List.drop_take, List.take_take] at e
 have hr := (h _ (getD_mem (z := zRc) hk)).1
 rw [Nat.zero_add]
 refine (Eq.trans ?_ e).trans ?_
 ·congr 1
 ·show ((flat _).drop 1).take 32 = _
  simp only [flat, List.cons_append, List.nil_append, List.drop_succ_cons, List.drop_zero]
  rw [List.take_append_of_le_length (by rw [List.length_map, hr]; exact Nat.le_refl _), List.take_of_length_le (by rw [List.length_map, hr]; exact Nat.le_refl _)]
theorem rcsC_part {rs : List Rc} {l k : Nat} (h : ∀ r ∈ rs, okRc r) (hk : l + k ≤ rs.length) : ((rcsC rs).drop (l * 172)).take (k * 172) = rcsC ((rs.drop l).take k) := by
 have e : rs = rs.take l ++ ((rs.drop l).take k ++ (rs.drop l).drop k) := by rw [List.take_append_drop, List.take_append_drop]
 have h1 : (rcsC (rs.take l)).length = l * 172 := by rw [rcsC_len fun r hr => h r (List.mem_of_mem_take hr), List.length_take, Nat.min_eq_left (by omega)]
 have h2 : (rcsC ((rs.drop l).take k)).length = k * 172 := by rw [rcsC_len fun r hr => h r (List.mem_of_mem_drop (List.mem_of_mem_take hr)), List.length_take, List.length_drop, Nat.min_eq_left (by omega)]
 have h3 : rcsC rs = rcsC (rs.take l) ++ (rcsC ((rs.drop l).take k) ++ rcsC ((rs.drop l).drop k)) := by
  conv => lhs; rw [e]
  simp only [rcsC, List.map_append, List.flatten_append]
 rw [h3, ← h1, List.drop_left, ← h2, List.take_left]
theorem sub_blkS {a : Option Addr} {l m s : Nat} {xs ys : List Value} (h : 0 < xs.length) : ∀ b ∈ (Ent.view (slA a l m s) ys).blocks, b ∈ (Ent.view a xs).blocks := by
 intro b hb
 cases a with
 | none => simp [slA, Ent.blocks] at hb
 | some ad =>
  cases xs with
  | nil => simp at h
  | cons x r =>
   have e : slA (some ad) l m s = some ad ∨ slA (some ad) l m s = some (ad.add (l * s)) := by
    unfold slA; split
    ·exact .inl rfl
    ·exact .inr rfl
   rcases e with e | e <;> rw [e] at hb <;> cases ys <;> simp [Ent.blocks, Addr.add_block] at hb ⊢ <;> exact hb

theorem c_ReplayA {w00 : World} {L : List Ent} (id : Bool) (ob mp : Nat) (ms df : List UInt8) (hms : ms.length = 32) (da : Option Addr) (dn dc u : Nat) (hdf : df.length = 32 * dn) (la : Option Addr) (lc : Nat) (lx : List Value) (lg : Lg) (hu : u ≤ 500000) (hlg : lg.length ≤ 500000) (ar : Option Addr) (nr cr : Nat) (rs : List Rc) (hrl : rs.length = nr) (hrs : ∀ r ∈ rs, okRc r) (hnr : nr ≤ 1000) (hcr : nr ≤ cr) (hm : mayAllB rs = true) (w : World) (h_0 : HP w00 w (Ent.blk ob .nw 118 [(1, [(.bool id)]), (32, ms.map vu8), (1, [(.slice da dn dc)]), (1, [(vi ((u : Nat) : Int))]), (1, [(.map (some mp))]), (1, [(.slice la lg.length lc)])] :: Ent.row la lg.length lc 96 67 lx :: Ent.obj mp .nw (.map (mArr lg) lg.length) :: Ent.pin (sblks lx) (fun w => Lgs w lx lg) :: Ent.view da (df.map vu8) :: Ent.view ar (rcsC rs) :: L)) :
  Cs Tryz.prog 38 [(.pointer (some ⟨ob, 0, none⟩)), (.slice ar nr cr)].toArray w (fun v w1 => ∃ la' lc' lx', v = (.tuple [(.agg ⟨((rpS id df dn u lg rs (nr - 1)).2.2).map vu8⟩), (vi 0)].toArray) ∧ HP w00 w1 (Ent.blk ob .nw 118 [(1, [(.bool id)]), (32, ms.map vu8), (1, [(.slice da dn dc)]), (1, [(vi (((rpS id df dn u lg rs (nr - 1)).1 : Nat) : Int))]), (1, [(.map (some mp))]), (1, [(.slice la' ((rpS id df dn u lg rs (nr - 1)).2.1.length) lc')])] :: Ent.row la' ((rpS id df dn u lg rs (nr - 1)).2.1.length) lc' 96 67 lx' :: Ent.obj mp .nw (.map (mArr ((rpS id df dn u lg rs (nr - 1)).2.1)) ((rpS id df dn u lg rs (nr - 1)).2.1.length)) :: Ent.pin (sblks lx') (fun w => Lgs w lx' ((rpS id df dn u lg rs (nr - 1)).2.1)) :: Ent.view da (df.map vu8) :: Ent.view ar (rcsC rs) :: L)) := by
 have h32 : ok32 lg := Lgs.ok32 (h_0.ok _ M3).1
 obtain ⟨hl0, hall⟩ := mayAll_P hm
 have hr0 := hrs _ (getD_mem (z := zRc) hl0)
 refine Cs.of (n := 51) (args := [(pO ob 0), (.slice ar nr cr)]) Tryz.func38 rfl rfl rfl ?_
 refine WP.seq (WP.reg ?_)
 refine WL.alloc (segs := [(32, (zB 32).map vu8)]) h_0 (zv typeInfo23 rfl) rfl (sC (s8 lr) sN) rfl (fun b_1 w_2 h_3 => ?_)
 refine qA (vi 0) rfl rfl ?_
 refine WL.nil (thn_n (WP.seq (WP.block (WP.seq (WP.reg ?_)))))
 refine qM (pO ob 0) rfl rfl ?_
 refine WL.call Tryz.call72 rfl rfl (c_mth id ob mp ms hms da dn dc u la lg.length lc _ (h_3.argR M1)) rfl ?_
 rintro _ w_5 ⟨rfl, hc_4⟩
 have h_6 := h_3.same hc_4
 refine qV rfl (R.not (b := true) rfl) (qA (.bool false) rfl rfl ?_)
 refine WL.nil (thn_n ?_)
 refine WP.condF rfl ?_
 refine WP.seq (WP.reg ?_)
 refine qM (.slice ar nr cr) rfl rfl ?_
 refine WL.call Tryz.call39 rfl rfl (c_MayAllA ar nr cr rs hrl hrs (by omega) _ (viewV (h_6.ok _ M6))) rfl ?_
 rintro _ w_8 ⟨rfl, hc_7⟩
 have h_9 := h_6.same hc_7
 refine qV rfl (R.not (b := true) (congrArg Value.bool hm)) (qA (.bool false) rfl rfl ?_)
 refine WL.nil (thn_n ?_)
 refine WP.condF rfl ?_
 refine WP.skip (inb_n (thn_n (WP.seq (WP.reg ?_))))
 refine qM (pO ob 0) rfl rfl (qM (.slice ar nr cr) rfl rfl (qV rfl (R.indexS (a := ar) (i := 0) (off := 0) (xs := rcsC rs) rfl rfl rfl (by omega) (viewV (h_9.ok _ M6)) (by rw [rcsC_len hrs]; omega) underlying75 sizeOf70 rfl) (qV rfl (R.fieldG (a := ar) (i := 0) (off' := 0 + 1) rfl underlying70 rfl sizeOf23 rfl rfl) (qV rfl (R.loadGA (a := ar) (i := 0 + 1) (xs := rcsC rs) (cs := ((rs.getD 0 zRc).2.1).map vu8) rfl (viewV (h_9.ok _ M6)) isAgg23 sizeOf23 (rc_val hrs hl0) (len_map hr0.1) (by decide)) (qV rfl (R.buildS (pl := [(0, 32), (32, 1)]) (zs := [(32, (zB 32).map vu8), (1, [(vu64 0)])]) (vs := [(0, (.agg ⟨((rs.getD 0 zRc).2.1).map vu8⟩))]) (out := [(32, ((rs.getD 0 zRc).2.1).map vu8), (1, [(vu64 0)])]) underlying54 (zv typeInfo54 rfl) rfl (sC (s8 lr) (sC sV sN)) (pl54 _ underlying54) rfl (FillR.cons [] [(32, (zB 32).map vu8)] [(32, ((rs.getD 0 zRc).2.1).map vu8)] [(1, [(vu64 0)])] rfl rfl rfl rfl (sC (s8 hr0.1) sN) rfl rfl rfl FillR.nil) rfl) ?_)))))
 have h_15 := ((((h_9.up J5).up J5).up J5).up J5).up J5
 have h32_w_19 := Lgs.ok32 (h_15.ok _ M3).1
 refine WL.call Tryz.call25 rfl rfl (c_Begin id ob mp ms df hms da dn dc u hdf la lc lx lg (by omega) (by omega) ((rs.getD 0 zRc).2.1) hr0.1 (0 : UInt64) _ h_15) rfl ?_
 rintro _ w_19 ⟨la_16, lc_17, lx_18, rfl, h_20⟩
 refine qM (.tuple [(.agg ⟨(anD id df dn u lg (1, (zB 32), 1, [(rs.getD 0 zRc).2.1].flatten)).map vu8⟩), (vi 0)].toArray) rfl rfl (qV rfl (R.extract rfl rfl) (qV rfl (R.extract rfl rfl) ?_))
 refine WL.alloc (segs := [(32, (zB 32).map vu8)]) h_20 (zv typeInfo23 rfl) rfl (sC (s8 lr) sN) rfl (fun b_21 w_22 h_23 => ?_)
 refine WL.storeA [] [(32, (zB 32).map vu8)] [(32, (anD id df dn u lg (1, (zB 32), 1, [(rs.getD 0 zRc).2.1].flatten)).map vu8)] [] h_23 rfl rfl sizeOf23 At.h (by decide) rfl rfl rfl rfl rfl rfl (sC (s8 (anD_len hdf h32_w_19)) sN) (fun w_24 h_25 => ?_)
 refine qA (vi 0) rfl rfl ?_
 refine WL.nil (thn_n (WP.seq (WP.seq (WP.reg ?_))))
 refine qM (.slice ar nr cr) rfl rfl (qV rfl (R.sliceS (a := ar) (len := nr) (l := 1) (h := nr) rfl (EvB.it (l := 1) rfl rfl) EvB.dflt (by omega) (by omega) underlying75 sizeOf70) ?_)
 have hv_27 := (viewV (h_25.ok _ M7)).sl 1 cr (nr - 1) 172 (by omega)
 rw [show ((rcsC rs).drop (1 * 172)).take ((nr - 1) * 172) = rcsC (rs.drop 1) from (rcsC_part hrs (by omega)).trans (congrArg rcsC (by first | rfl | (rw [List.drop_zero]; done) | (rw [List.take_of_length_le (by rw [List.length_drop]; omega)])))] at hv_27
 have h_26 := h_25.within (e' := .view (slA ar 1 cr 172) (rcsC (rs.drop 1))) M7 rfl (View.arg hv_27) rfl rfl (sub_blkS (by rw [rcsC_len hrs]; omega))
 refine qV rfl (R.lenS (a := slA ar 1 cr 172) (m := nr - 1) rfl rfl underlying75) (qM (vi 0) rfl rfl ?_)
 refine WL.nil (thn_n (WP.block ?_))
 have h_36 := ((((((((h_26.up J7).up J1).up J8).up J3).up J8).up J8).up J8).up J8).up J8
 refine WP.loopG (G := Nat × Option Addr × Nat × List Value) [5, 7, 9, 33, 34, 35, 36, 37, 38, 39, 40, 41, 42, 43, 44, 45, 46, 47, 48] (fun (k, la2, lc2, lx2) => [(7, (vi 0)), (33, (vn k))]) (fun (k, la2, lc2, lx2) m w1 => HP w00 w1 (Ent.blk ob .nw 118 [(1, [(.bool id)]), (32, ms.map vu8), (1, [(.slice da dn dc)]), (1, [(vn ((rpS id df dn u lg rs k).1))]), (1, [(.map (some mp))]), (1, [(.slice la2 ((rpS id df dn u lg rs k).2.1.length) lc2)])] :: Ent.row la2 ((rpS id df dn u lg rs k).2.1.length) lc2 96 67 lx2 :: Ent.obj mp .nw (.map (mArr ((rpS id df dn u lg rs k).2.1)) ((rpS id df dn u lg rs k).2.1.length)) :: Ent.pin (sblks lx2) (fun w => Lgs w lx2 ((rpS id df dn u lg rs k).2.1)) :: Ent.view da (df.map vu8) :: Ent.blk b_21 .nw 23 [(32, ((rpS id df dn u lg rs k).2.2).map vu8)] :: Ent.view ar (rcsC rs) :: Ent.view (slA ar 1 cr 172) (rcsC (rs.drop 1)) :: Ent.blk b_1 .nw 23 [(32, (zB 32).map vu8)] :: L) ∧ (k + 1 ≤ nr) ∧ m = nr + 1 - k) ⟨(0, la_16, lc_17, lx_18), _, ⟨rfl, rfl, trivial⟩, h_36, (by omega), rfl⟩ ?_
 rintro ⟨k, la2, lc2, lx2⟩ m_39 J_40 w_37 ⟨h_38, hkn, rfl⟩
 have hsu := rpS_u (id := id) (df := df) (dn := dn) (u := u) (lg := lg) (rs := rs) k
 have hsl := rpS_l (id := id) (df := df) (dn := dn) (u := u) (lg := lg) (rs := rs) k
 have hs32 := rpS_32 (id := id) (u := u) (rs := rs) hdf h32 k
 refine WP.seq (WP.reg ?_)
 refine qV rfl (R.bin rfl rfl (bi_lss (r := decide ((((k : Nat) : Int) : Int) < ((nr - 1 : Nat) : Int))) rfl)) ?_
 refine WL.nil (thn_n (WP.seq ?_))
 refine WP.cond (b := decide ((((k : Nat) : Int) : Int) < ((nr - 1 : Nat) : Int))) rfl (fun c_41 => ?_) (fun c_41 => ?_)
 ·have p_42 := of_decide_eq_true c_41
  refine WP.skip (thn_n (WP.seq (WP.block (WP.seq ?_))))
  have hl1 : k + 1 < rs.length := by omega
  have hr1 : okRc (rs.getD (k + 1) zRc) := hrs _ (getD_mem hl1)
  obtain ⟨_, _, _, hbk1, hbp1⟩ := hr1
  have hr1 : okRc (rs.getD (k + 1) zRc) := hrs _ (getD_mem hl1)
  have hm1 := allP_t hall (k + 1) hl1
  have hk1 : ¬ (rs.getD (k + 1) zRc).1 = 1 := fun e => absurd (hm1.2.1 e) (by omega)
  refine WP.reg ?_
  refine qV rfl (R.indexS (a := slA ar 1 cr 172) (i := k) (off := k * 172) (xs := rcsC (rs.drop 1)) rfl rfl rfl (by omega) (viewV (h_38.ok _ M7)) (by rw [rcsC_len fun r hr => hrs r (List.mem_of_mem_drop hr), List.length_drop]; omega) underlying75 sizeOf70 rfl) (qV rfl (R.loadGA (a := slA ar 1 cr 172) (i := k * 172) (xs := rcsC (rs.drop 1)) (cs := flat [(1, [(vi ((rs.getD (k + 1) zRc).1))]), (32, ((rs.getD (k + 1) zRc).2.1).map vu8), (1, [(vi ((rs.getD (k + 1) zRc).2.2.1))]), (128, ((rs.getD (k + 1) zRc).2.2.2.1).map vu8), (1, [(vu64 ((rs.getD (k + 1) zRc).2.2.2.2.1))]), (8, ((rs.getD (k + 1) zRc).2.2.2.2.2.1).map vu64), (1, [(.bool ((rs.getD (k + 1) zRc).2.2.2.2.2.2))])]) rfl (viewV (h_38.ok _ M7)) isAgg70 sizeOf70 (rcsC_at1 hrs hl1) (rcC_len hr1) (by decide)) ?_)
  refine WL.alloc (segs := [(1, [(vi 0)]), (32, (zB 32).map vu8), (1, [(vi 0)]), (128, (zB 128).map vu8), (1, [(vu64 0)]), (8, (zW 8).map vu64), (1, [(.bool false)])]) h_38 (zv typeInfo70 rfl) rfl (sC sV (sC (s8 lr) (sC sV (sC (s8 lr) (sC sV (sC (SOk.u64 lr) (sC sV sN))))))) rfl (fun b_43 w_44 h_45 => ?_)
  refine WL.storeA [] [(1, [(vi 0)]), (32, (zB 32).map vu8), (1, [(vi 0)]), (128, (zB 128).map vu8), (1, [(vu64 0)]), (8, (zW 8).map vu64), (1, [(.bool false)])] [(1, [(vi ((rs.getD (k + 1) zRc).1))]), (32, ((rs.getD (k + 1) zRc).2.1).map vu8), (1, [(vi ((rs.getD (k + 1) zRc).2.2.1))]), (128, ((rs.getD (k + 1) zRc).2.2.2.1).map vu8), (1, [(vu64 ((rs.getD (k + 1) zRc).2.2.2.2.1))]), (8, ((rs.getD (k + 1) zRc).2.2.2.2.2.1).map vu64), (1, [(.bool ((rs.getD (k + 1) zRc).2.2.2.2.2.2))])] [] h_45 rfl rfl sizeOf70 At.h (by decide) rfl rfl rfl rfl rfl rfl (sC sV (sC (s8 hr1.1) (sC sV (sC (s8 hr1.2.1) (sC sV (sC (SOk.u64 hr1.2.2.1) (sC sV sN))))))) (fun w_46 h_47 => ?_)
  refine WL.nil (thn_n (WP.seq (WP.seq (WP.reg ?_))))
  refine qM (vi 0) rfl rfl (qV rfl (R.bin rfl rfl (bi_neq (r := false) (by decide))) ?_)
  refine WL.nil (thn_n ?_)
  refine WP.condF rfl ?_
  refine WP.skip (thn_n (WP.reg ?_))
  refine qM (pO ob 0) rfl rfl (qV rfl (R.loadA [] [(32, ((rpS id df dn u lg rs k).2.2).map vu8)] [] (cs := ((rpS id df dn u lg rs k).2.2).map vu8) rfl isAgg23 sizeOf23 (h_47.ok _ M6) rfl rfl rfl rfl) (qV rfl (R.loadA [] [(1, [(vi ((rs.getD (k + 1) zRc).1))]), (32, ((rs.getD (k + 1) zRc).2.1).map vu8), (1, [(vi ((rs.getD (k + 1) zRc).2.2.1))]), (128, ((rs.getD (k + 1) zRc).2.2.2.1).map vu8), (1, [(vu64 ((rs.getD (k + 1) zRc).2.2.2.2.1))]), (8, ((rs.getD (k + 1) zRc).2.2.2.2.2.1).map vu64), (1, [(.bool ((rs.getD (k + 1) zRc).2.2.2.2.2.2))])] [] rfl isAgg70 sizeOf70 (h_47.ok _ M0) rfl rfl rfl rfl) ?_))
  have h_52 := ((((h_47.up J5).up J5).up J5).up J5).up J5
  refine WL.call Tryz.call34 rfl rfl (c_NextA id ob mp ms df hms da dn dc ((rpS id df dn u lg rs k).1) hdf la2 lc2 lx2 ((rpS id df dn u lg rs k).2.1) (by omega) (by omega) ((rpS id df dn u lg rs k).2.2) (rpS_len hdf h32 k) ((rs.getD (k + 1) zRc).1) hbk1 ((rs.getD (k + 1) zRc).2.1) hr1.1 ((rs.getD (k + 1) zRc).2.2.1) hbp1 ((rs.getD (k + 1) zRc).2.2.2.1) hr1.2.1 ((rs.getD (k + 1) zRc).2.2.2.2.1) ((rs.getD (k + 1) zRc).2.2.2.2.2.1) hr1.2.2.1 ((rs.getD (k + 1) zRc).2.2.2.2.2.2) hm1.1 hk1 _ h_52) rfl ?_
  rintro _ w_56 ⟨la_53, lc_54, lx_55, rfl, h_57⟩
  refine qM (.tuple [(.agg ⟨(anD id df dn ((rpS id df dn u lg rs k).1) ((rpS id df dn u lg rs k).2.1) (qN ((rpS id df dn u lg rs k).2.2) ((rs.getD (k + 1) zRc).1) ((rs.getD (k + 1) zRc).2.2.1) ((rs.getD (k + 1) zRc).2.2.2.1) ((rs.getD (k + 1) zRc).2.2.2.2.1) ((rs.getD (k + 1) zRc).2.2.2.2.2.1) ((rs.getD (k + 1) zRc).2.2.2.2.2.2))).map vu8⟩), (vi 0)].toArray) rfl rfl (qV rfl (R.extract rfl rfl) (qV rfl (R.extract rfl rfl) ?_))
  refine WL.storeA [] [(32, ((rpS id df dn u lg rs k).2.2).map vu8)] [(32, (anD id df dn ((rpS id df dn u lg rs k).1) ((rpS id df dn u lg rs k).2.1) (qN ((rpS id df dn u lg rs k).2.2) ((rs.getD (k + 1) zRc).1) ((rs.getD (k + 1) zRc).2.2.1) ((rs.getD (k + 1) zRc).2.2.2.1) ((rs.getD (k + 1) zRc).2.2.2.2.1) ((rs.getD (k + 1) zRc).2.2.2.2.2.1) ((rs.getD (k + 1) zRc).2.2.2.2.2.2))).map vu8)] [] h_57 rfl rfl sizeOf23 Y6 (by decide) rfl rfl rfl rfl rfl rfl (sC (s8 (anD_len hdf hs32)) sN) (fun w_58 h_59 => ?_)
  refine qA (vi 0) rfl rfl ?_
  refine WL.nil (inb_n (thn_n (WP.reg ?_)))
  refine qV rfl (R.bin rfl rfl (bi_add (c := ((k + 1 : Nat) : Int)) (by omega) (by omega))) (qM (vn (k + 1)) rfl rfl ?_)
  refine WL.nil (thn_n ?_)
  have h_70 := ((((((((((h_59.up J5).drop rfl).up J8).up J8).up J8).up J8).up J8).up J8).up J8).up J8).up J8
  exact ⟨(k + 1, la_53, lc_54, lx_55), _, (by omega), (U4 rfl rfl rfl rfl (U4 rfl rfl rfl rfl (U4 rfl rfl rfl rfl (U4 rfl rfl rfl rfl (Ag.updL rfl (Ag.mix _ _ _)))))), ⟨rfl, rfl, trivial⟩, h_70, (by omega), rfl⟩
 ·have p_71 := of_decide_eq_false c_41
  refine WP.exit (thn_x (thn_x (inb_hit (thn_n (WP.seq (WP.reg ?_))))))
  refine qV rfl (R.loadA [] [(32, ((rpS id df dn u lg rs k).2.2).map vu8)] [] (cs := ((rpS id df dn u lg rs k).2.2).map vu8) rfl isAgg23 sizeOf23 (h_38.ok _ M5) rfl rfl rfl rfl) (qM (vi 0) rfl rfl ?_)
  refine WL.storeA [] [(32, (zB 32).map vu8)] [(32, ((rpS id df dn u lg rs k).2.2).map vu8)] [] h_38 rfl rfl sizeOf23 Y8 (by decide) rfl rfl rfl rfl rfl rfl (sC (s8 (rpS_len hdf h32 k)) sN) (fun w_72 h_73 => ?_)
  refine qA (vi 0) rfl rfl ?_
  refine WL.nil (thn_n (WP.ret ?_))
  refine ret_of results38 (RV.cell rfl (h_73.loadA (cs := ((rpS id df dn u lg rs k).2.2).map vu8) isAgg23 sizeOf23 M8 rfl rfl) (RV.tmp (v := (vi 0)) rfl RV.nil)) ?_
  have h_85 := (((((((((((h_73.up J5).drop rfl).up J6).drop rfl).up J6).drop rfl).up J5).up J5).up J5).up J5).up J5).up J5
  have hke : k = nr - 1 := by omega
  subst hke
  exact ⟨_, _, _, rfl, h_85⟩

theorem c_rReplay {w00 : World} {L : List Ent} (id : Bool) (ob : Nat) (ms df : List UInt8) (hms : ms.length = 32) (da : Option Addr) (dn dc u : Nat) (hdf : df.length = 32 * dn) (la : Option Addr) (lc : Nat) (lx : List Value) (lg : Lg) (hu : u ≤ 500000) (hlg : lg.length ≤ 500000) (ar : Option Addr) (nr cr : Nat) (rs : List Rc) (hrl : rs.length = nr) (hrs : ∀ r ∈ rs, okRc r) (hnr : nr ≤ 1000) (hcr : nr ≤ cr) (hm : mayAllB rs = true) (w : World) (h_0 : HP w00 w (Ent.blk ob .nw 47 [(1, [(.bool id)]), (32, ms.map vu8), (1, [(.slice da dn dc)]), (1, [(vi ((u : Nat) : Int))]), (1, [(.slice la lg.length lc)])] :: Ent.row la lg.length lc 96 67 lx :: Ent.pin (sblks lx) (fun w => Lgs w lx lg) :: Ent.view da (df.map vu8) :: Ent.view ar (rcsC rs) :: L)) :
  Cs Tryz.prog 43 [(.pointer (some ⟨ob, 0, none⟩)), (.slice ar nr cr)].toArray w (fun v w1 => ∃ la' lc' lx', v = (.agg ⟨((rpS id df dn u lg rs (nr - 1)).2.2).map vu8⟩) ∧ HP w00 w1 (Ent.blk ob .nw 47 [(1, [(.bool id)]), (32, ms.map vu8), (1, [(.slice da dn dc)]), (1, [(vi (((rpS id df dn u lg rs (nr - 1)).1 : Nat) : Int))]), (1, [(.slice la' ((rpS id df dn u lg rs (nr - 1)).2.1.length) lc')])] :: Ent.row la' ((rpS id df dn u lg rs (nr - 1)).2.1.length) lc' 96 67 lx' :: Ent.pin (sblks lx') (fun w => Lgs w lx' ((rpS id df dn u lg rs (nr - 1)).2.1)) :: Ent.view da (df.map vu8) :: Ent.view ar (rcsC rs) :: L)) := by
 have h32 : ok32 lg := Lgs.ok32 (h_0.ok _ M2).1
 obtain ⟨hl0, hall⟩ := mayAll_P hm
 have hr0 := hrs _ (getD_mem (z := zRc) hl0)
 refine Cs.of (n := 27) (args := [(pO ob 0), (.slice ar nr cr)]) Tryz.func43 rfl rfl rfl ?_
 refine WP.seq (WP.reg ?_)
 refine WL.alloc (segs := [(32, (zB 32).map vu8)]) h_0 (zv typeInfo23 rfl) rfl (sC (s8 lr) sN) rfl (fun b_1 w_2 h_3 => ?_)
 refine WL.nil (thn_n (WP.seq (WP.reg ?_)))
 refine qM (pO ob 0) rfl rfl (qM (.slice ar nr cr) rfl rfl (qV rfl (R.indexS (a := ar) (i := 0) (off := 0) (xs := rcsC rs) rfl rfl rfl (by omega) (viewV (h_3.ok _ M5)) (by rw [rcsC_len hrs]; omega) underlying75 sizeOf70 rfl) (qV rfl (R.fieldG (a := ar) (i := 0) (off' := 0 + 1) rfl underlying70 rfl sizeOf23 rfl rfl) (qV rfl (R.loadGA (a := ar) (i := 0 + 1) (xs := rcsC rs) (cs := ((rs.getD 0 zRc).2.1).map vu8) rfl (viewV (h_3.ok _ M5)) isAgg23 sizeOf23 (rc_val hrs hl0) (len_map hr0.1) (by decide)) ?_))))
 have h_7 := (((h_3.up J4).up J4).up J4).up J4
 have h32_w_11 := (Lgs.ok32 (h_7.ok _ M2).1)
 refine WL.call Tryz.call27 rfl rfl (c_rBegin id ob ms df hms da dn dc u hdf la lc lx lg (by omega) (by omega) ((rs.getD 0 zRc).2.1) hr0.1 _ h_7) rfl ?_
 rintro _ w_11 ⟨la_8, lc_9, lx_10, rfl, h_12⟩
 refine WL.alloc (segs := [(32, (zB 32).map vu8)]) h_12 (zv typeInfo23 rfl) rfl (sC (s8 lr) sN) rfl (fun b_13 w_14 h_15 => ?_)
 refine WL.storeA [] [(32, (zB 32).map vu8)] [(32, (anD id df dn u lg (1, (zB 32), 1, [(rs.getD 0 zRc).2.1].flatten)).map vu8)] [] h_15 rfl rfl sizeOf23 At.h (by decide) rfl rfl rfl rfl rfl rfl (sC (s8 (anD_len hdf h32_w_11)) sN) (fun w_16 h_17 => ?_)
 refine WL.nil (thn_n (WP.seq (WP.seq (WP.reg ?_))))
 refine qA (vi 1) rfl rfl ?_
 refine WL.nil (thn_n (WP.block ?_))
 have h_24 := ((((((h_17.up J5).up J6).up J2).up J6).up J6).up J6).up J6
 refine WP.loopG (G := Nat × Option Addr × Nat × List Value) [6, 13, 14, 15, 16, 17, 18, 19, 20, 21, 22, 23, 24, 25] (fun (k, la2, lc2, lx2) => [(6, (vn (k + 1)))]) (fun (k, la2, lc2, lx2) m w1 => HP w00 w1 (Ent.blk ob .nw 47 [(1, [(.bool id)]), (32, ms.map vu8), (1, [(.slice da dn dc)]), (1, [(vn ((rpS id df dn u lg rs k).1))]), (1, [(.slice la2 ((rpS id df dn u lg rs k).2.1.length) lc2)])] :: Ent.row la2 ((rpS id df dn u lg rs k).2.1.length) lc2 96 67 lx2 :: Ent.pin (sblks lx2) (fun w => Lgs w lx2 ((rpS id df dn u lg rs k).2.1)) :: Ent.view da (df.map vu8) :: Ent.blk b_13 .nw 23 [(32, ((rpS id df dn u lg rs k).2.2).map vu8)] :: Ent.view ar (rcsC rs) :: Ent.blk b_1 .nw 23 [(32, (zB 32).map vu8)] :: L) ∧ (k + 1 ≤ nr) ∧ m = nr + 1 - k) ⟨(0, la_8, lc_9, lx_10), _, ⟨rfl, trivial⟩, h_24, (by omega), rfl⟩ ?_
 rintro ⟨k, la2, lc2, lx2⟩ m_27 J_28 w_25 ⟨h_26, hkn, rfl⟩
 have hsu := rpS_u (id := id) (df := df) (dn := dn) (u := u) (lg := lg) (rs := rs) k
 have hsl := rpS_l (id := id) (df := df) (dn := dn) (u := u) (lg := lg) (rs := rs) k
 have hs32 := rpS_32 (id := id) (u := u) (rs := rs) hdf h32 k
 refine WP.seq (WP.seq (WP.reg ?_))
 refine qM (vn (k + 1)) rfl rfl (qM (.slice ar nr cr) rfl rfl (qV rfl (R.lenS (a := ar) (m := nr) rfl rfl underlying75) (qV rfl (R.bin rfl rfl (bi_lss (r := decide ((((k + 1 : Nat) : Int) : Int) < ((nr : Nat) : Int))) rfl)) ?_)))
 refine WL.nil (thn_n ?_)
 refine WP.cond (b := decide ((((k + 1 : Nat) : Int) : Int) < ((nr : Nat) : Int))) rfl (fun c_29 => ?_) (fun c_29 => ?_)
 ·have p_30 := of_decide_eq_true c_29
  refine WP.skip (thn_n (WP.seq (WP.block ?_)))
  have hl1 : k + 1 < rs.length := by omega
  have hr1 : okRc (rs.getD (k + 1) zRc) := hrs _ (getD_mem hl1)
  obtain ⟨_, _, _, hbk1, hbp1⟩ := hr1
  have hr1 : okRc (rs.getD (k + 1) zRc) := hrs _ (getD_mem hl1)
  have hm1 := allP_t hall (k + 1) hl1
  have hk1 : ¬ (rs.getD (k + 1) zRc).1 = 1 := fun e => absurd (hm1.2.1 e) (by omega)
  refine WP.drawZ 7 (SL w00.heap.size [.blk b_13 .nw 23 [(32, ((rpS id df dn u lg rs k).2.2).map vu8)], .view ar (rcsC rs), .blk b_1 .nw 23 [(32, (zB 32).map vu8)]]) (.q 0 (.q 1 (.q 2 (.q 3 (.q 4 (.q 5 (.s 6 (.s 7 .nil)))))))) (by kernel_rfl) (by kernel_rfl) rfl (by kernel_rfl) (fun w_31 hc_33 => (SL.cons ((h_26.same hc_33).ok _ M4) (SL.cons ((h_26.same hc_33).ok _ M5) (SL.cons ((h_26.same hc_33).ok _ M6) (SL.nil _ _))))) (fun w_31 hc_33 => ?_)
  have h_32 := h_26.same hc_33
  refine ZT.q rfl (Wn.no rfl) rfl rfl (fun wq hS => R.move (v := (pO ob 0)) rfl) ?_
  refine ZT.q rfl (Wn.no rfl) rfl rfl (fun wq hS => R.loadA [] [(32, ((rpS id df dn u lg rs k).2.2).map vu8)] [] (cs := ((rpS id df dn u lg rs k).2.2).map vu8) rfl isAgg23 sizeOf23 (hS _ M0) rfl rfl rfl rfl) ?_
  refine ZT.q rfl (Wn.no rfl) rfl rfl (fun wq hS => R.move (v := (.slice ar nr cr)) rfl) ?_
  refine ZT.q rfl (Wn.no rfl) rfl rfl (fun wq hS => R.move (v := (vn (k + 1))) rfl) ?_
  refine ZT.q rfl (Wn.no rfl) rfl rfl (fun wq hS => R.indexS (a := ar) (i := k + 1) (off := (k + 1) * 172) (xs := rcsC rs) rfl rfl rfl (by omega) (viewV (hS _ M1)) (by rw [rcsC_len hrs]; omega) underlying75 sizeOf70 rfl) ?_
  refine ZT.q rfl (Wn.no rfl) rfl rfl (fun wq hS => R.loadGA (a := ar) (i := (k + 1) * 172) (xs := rcsC rs) (cs := flat [(1, [(vi ((rs.getD (k + 1) zRc).1))]), (32, ((rs.getD (k + 1) zRc).2.1).map vu8), (1, [(vi ((rs.getD (k + 1) zRc).2.2.1))]), (128, ((rs.getD (k + 1) zRc).2.2.2.1).map vu8), (1, [(vu64 ((rs.getD (k + 1) zRc).2.2.2.2.1))]), (8, ((rs.getD (k + 1) zRc).2.2.2.2.2.1).map vu64), (1, [(.bool ((rs.getD (k + 1) zRc).2.2.2.2.2.2))])]) rfl (viewV (hS _ M1)) isAgg70 sizeOf70 (rcsC_at hrs hl1) (rcC_len hr1) (by decide)) ?_
  refine ZT.s ?_
  refine OpZ.one rfl (Wn.no rfl) ?_
  have h_37 := (((h_32.up J3).up J3).up J3).up J3
  refine WL.call Tryz.call37 rfl rfl (c_rNextA id ob ms df hms da dn dc ((rpS id df dn u lg rs k).1) hdf la2 lc2 lx2 ((rpS id df dn u lg rs k).2.1) (by omega) (by omega) ((rpS id df dn u lg rs k).2.2) (rpS_len hdf h32 k) ((rs.getD (k + 1) zRc).1) hbk1 ((rs.getD (k + 1) zRc).2.1) hr1.1 ((rs.getD (k + 1) zRc).2.2.1) hbp1 ((rs.getD (k + 1) zRc).2.2.2.1) hr1.2.1 ((rs.getD (k + 1) zRc).2.2.2.2.1) ((rs.getD (k + 1) zRc).2.2.2.2.2.1) hr1.2.2.1 ((rs.getD (k + 1) zRc).2.2.2.2.2.2) hm1.1 hk1 _ h_37) rfl ?_
  rintro _ w_41 ⟨la_38, lc_39, lx_40, rfl, h_42⟩
  refine WL.nil ?_
  refine ⟨(SL.cons (h_42.ok _ M4) (SL.cons (h_42.ok _ M5) (SL.cons (h_42.ok _ M6) (SL.nil _ _)))), ?_⟩
  refine ZT.s ?_
  refine OpZ.last rfl (Wn.no rfl) ?_
  refine WL.storeA [] [(32, ((rpS id df dn u lg rs k).2.2).map vu8)] [(32, (anD id df dn ((rpS id df dn u lg rs k).1) ((rpS id df dn u lg rs k).2.1) (qN ((rpS id df dn u lg rs k).2.2) ((rs.getD (k + 1) zRc).1) ((rs.getD (k + 1) zRc).2.2.1) ((rs.getD (k + 1) zRc).2.2.2.1) ((rs.getD (k + 1) zRc).2.2.2.2.1) ((rs.getD (k + 1) zRc).2.2.2.2.2.1) ((rs.getD (k + 1) zRc).2.2.2.2.2.2))).map vu8)] [] h_42 rfl rfl sizeOf23 Y4 (by decide) rfl rfl rfl rfl rfl rfl (sC (s8 (anD_len hdf hs32)) sN) (fun w_43 h_44 => ?_)
  refine WL.nil (ZT.nil (inb_n (thn_n (WP.reg ?_))))
  refine qM (vn (k + 1)) rfl rfl (qV rfl (R.bin rfl rfl (bi_add (c := ((k + 1 + 1 : Nat) : Int)) (by omega) (by omega))) (qA (vn (k + 1 + 1)) rfl rfl ?_))
  refine WL.nil (thn_n ?_)
  have h_51 := ((((((h_44.up J6).up J6).up J6).up J6).up J6).up J6).up J6
  exact ⟨(k + 1, la_38, lc_39, lx_40), _, (by omega), (U2 rfl rfl (U4 rfl rfl rfl rfl (U4 rfl rfl rfl rfl (U4 rfl rfl rfl rfl (Ag.updL rfl (Ag.mix _ _ _)))))), ⟨rfl, trivial⟩, h_51, (by omega), rfl⟩
 ·have p_52 := of_decide_eq_false c_29
  refine WP.exit (thn_x (thn_x (inb_hit (thn_n (WP.seq (WP.reg ?_))))))
  refine qV rfl (R.loadA [] [(32, ((rpS id df dn u lg rs k).2.2).map vu8)] [] (cs := ((rpS id df dn u lg rs k).2.2).map vu8) rfl isAgg23 sizeOf23 (h_26.ok _ M4) rfl rfl rfl rfl) ?_
  refine WL.storeA [] [(32, (zB 32).map vu8)] [(32, ((rpS id df dn u lg rs k).2.2).map vu8)] [] h_26 rfl rfl sizeOf23 Y6 (by decide) rfl rfl rfl rfl rfl rfl (sC (s8 (rpS_len hdf h32 k)) sN) (fun w_53 h_54 => ?_)
  refine WL.nil (thn_n (WP.ret ?_))
  refine ret_of results43 (RV.cell rfl (h_54.loadA (cs := ((rpS id df dn u lg rs k).2.2).map vu8) isAgg23 sizeOf23 M6 rfl rfl) RV.nil) ?_
  have h_63 := ((((((((h_54.up J4).drop rfl).up J5).drop rfl).up J4).up J4).up J4).up J4).up J4
  have hke : k = nr - 1 := by omega
  subst hke
  exact ⟨_, _, _, rfl, h_63⟩
end Go.Proofs.YteclkcpdclimnaaGreat

namespace Go.Proofs.YteclkcpdclimnaaGreat
open Go.Proofs.Tryz
open Go.Vc Go.Orc Go.Sh Go.RowKit
set_option maxRecDepth 20000

section
variable {id : Bool} {df : List UInt8} {dn u : Nat} {lg : Lg} {rs : List Rc}
theorem rpS_mono {q : Qn} {d : List UInt8} {j : Nat} (h : lk q (rpS id df dn u lg rs j).2.1 = some d) : ∀ {m}, j ≤ m → lk q (rpS id df dn u lg rs m).2.1 = some d
 | 0, hm => by
  have e : j = 0 := by omega
  subst e; exact h
 | m + 1, hm => by
  by_cases e : j = m + 1
  ·subst e; exact h
  ·exact lk_anL (rpS_mono h (m := m) (by omega))
theorem rpS_take {t : Nat} : ∀ {k}, k + 1 ≤ t → rpS id df dn u lg (rs.take t) k = rpS id df dn u lg rs k
 | 0, hk => by
  have e : (rs.take t).getD 0 zRc = rs.getD 0 zRc := by simp [List.getD_eq_getElem?_getD, List.getElem?_take, show 0 < t by omega]
  simp only [rpS, e]
 | k + 1, hk => by
  have e : (rs.take t).getD (k + 1) zRc = rs.getD (k + 1) zRc := by simp [List.getD_eq_getElem?_getD, List.getElem?_take, show k + 1 < t by omega]
  have ih := rpS_take (t := t) (k := k) (by omega)
  simp only [rpS, e, ih]
theorem rpS_again {m : Nat} : ∀ {k}, k ≤ m → rpS id df dn (rpS id df dn u lg rs m).1 (rpS id df dn u lg rs m).2.1 rs k = ((rpS id df dn u lg rs m).1, (rpS id df dn u lg rs m).2.1, (rpS id df dn u lg rs k).2.2)
 | 0, hk => by
  have h : lk (1, (List.replicate 32 (0 : UInt8)), 1, [(rs.getD 0 zRc).2.1].flatten) (rpS id df dn u lg rs m).2.1 = some (rpS id df dn u lg rs 0).2.2 := rpS_mono (j := 0) lk_self (by omega)
  rw [rpS, anU_lk h, anL_lk h, anD_lk h]
 | k + 1, hk => by
  have ih := rpS_again (m := m) (k := k) (by omega)
  have h : lk (qN (rpS id df dn u lg rs k).2.2 (rs.getD (k + 1) zRc).1 (rs.getD (k + 1) zRc).2.2.1 (rs.getD (k + 1) zRc).2.2.2.1 (rs.getD (k + 1) zRc).2.2.2.2.1 (rs.getD (k + 1) zRc).2.2.2.2.2.1 (rs.getD (k + 1) zRc).2.2.2.2.2.2) (rpS id df dn u lg rs m).2.1 = some (rpS id df dn u lg rs (k + 1)).2.2 := rpS_mono (j := k + 1) lk_self hk
  rw [rpS, ih]
  simp only
  rw [anU_lk h, anL_lk h, anD_lk h]
end
theorem rep_again {id : Bool} {df : List UInt8} {dn u : Nat} {lg : Lg} {rs : List Rc} {n : Nat} (hn : 2 ≤ n) :
  anD id df dn (rpS id df dn (rpS id df dn u lg rs (n - 1)).1 (rpS id df dn u lg rs (n - 1)).2.1 (rs.take (n - 1)) (n - 1 - 1)).1 (rpS id df dn (rpS id df dn u lg rs (n - 1)).1 (rpS id df dn u lg rs (n - 1)).2.1 (rs.take (n - 1)) (n - 1 - 1)).2.1 (qN (rpS id df dn (rpS id df dn u lg rs (n - 1)).1 (rpS id df dn u lg rs (n - 1)).2.1 (rs.take (n - 1)) (n - 1 - 1)).2.2 (rs.getD (n - 1) zRc).1 (rs.getD (n - 1) zRc).2.2.1 (rs.getD (n - 1) zRc).2.2.2.1 (rs.getD (n - 1) zRc).2.2.2.2.1 (rs.getD (n - 1) zRc).2.2.2.2.2.1 (rs.getD (n - 1) zRc).2.2.2.2.2.2) = (rpS id df dn u lg rs (n - 1)).2.2 := by
 obtain ⟨k, rfl⟩ : ∃ k, n = k + 2 := ⟨n - 2, by omega⟩
 have e1 : k + 2 - 1 = k + 1 := by omega
 have e2 : k + 1 - 1 = k := by omega
 rw [e1, e2, rpS_take (by omega), rpS_again (m := k + 1) (k := k) (by omega)]
 exact anD_lk (rpS_mono (j := k + 1) lk_self (Nat.le_refl _))
theorem mayAll_take {rs : List Rc} {t : Nat} (h : mayAllB rs = true) (h1 : 0 < t) (h2 : t ≤ rs.length) : mayAllB (rs.take t) = true := by
 obtain ⟨h3, h4⟩ := mayAll_P h
 have key : ∀ k, k ≤ t → allP (rs.take t) k = true := by
  intro k
  induction k with
  | zero => intro _; rfl
  | succ k ih =>
   intro hk
   have e : (rs.take t).getD k zRc = rs.getD k zRc := by simp [List.getD_eq_getElem?_getD, List.getElem?_take, show k < t by omega]
   have h5 := allP_t h4 k (by omega)
   rw [allP, ih (by omega), e, h5.1]
   simp only [Bool.true_and, beq_iff_eq]
   exact decide_eq_decide.2 (by rw [h5.2]; omega)
 have hl : (rs.take t).length = t := by rw [List.length_take]; omega
 rw [mayAllB, hl, key t (Nat.le_refl _), decide_eq_true h1]; rfl

theorem c_ReplayNo (id : Bool) (ob mp : Nat) (ms : List UInt8) (hms : ms.length = 32) (da : Option Addr) (dn dc u : Nat) (la : Option Addr) (ln lc : Nat) (ar : Option Addr) (nr cr : Nat) (rs : List Rc) (hrl : rs.length = nr) (hrs : ∀ r ∈ rs, okRc r) (hnr : nr ≤ 1000000) (hm : mayAllB rs = false) (w : World) (hcb : (Ent.blk ob .ro 118 [(1, [(.bool id)]), (32, ms.map vu8), (1, [(.slice da dn dc)]), (1, [(vi ((u : Nat) : Int))]), (1, [(.map (some mp))]), (1, [(.slice la ln lc)])]).ok w.heap.size w) (hvr : View w ar (rcsC rs)) :
  Cs Tryz.prog 38 [(.pointer (some ⟨ob, 0, none⟩)), (.slice ar nr cr)].toArray w (fun v w1 => v = (.tuple [(.agg ⟨(List.replicate 32 (0 : UInt8)).map vu8⟩), (vi 2)].toArray) ∧ Chg w w1 []) := by
 refine Cs.of (n := 51) (args := [(pO ob 0), (.slice ar nr cr)]) Tryz.func38 rfl rfl rfl ?_
 have h_0 := HP.init w
 have h_01 := h_0.oldV hcb rfl (by simp [Ent.mut])
 have h_00 := h_01.oldV (View.arg hvr) rfl (by simp [Ent.mut])
 refine WP.seq (WP.reg ?_)
 refine WL.alloc (segs := [(32, (zB 32).map vu8)]) h_00 (zv typeInfo23 rfl) rfl (sC (s8 lr) sN) rfl (fun b_1 w_2 h_3 => ?_)
 refine qA (vi 0) rfl rfl ?_
 refine WL.nil (thn_n (WP.seq (WP.block (WP.seq (WP.reg ?_)))))
 refine qM (pO ob 0) rfl rfl ?_
 refine WL.call Tryz.call72 rfl rfl (c_mth id ob mp ms hms da dn dc u la ln lc _ (h_3.argR M2)) rfl ?_
 rintro _ w_5 ⟨rfl, hc_4⟩
 have h_6 := h_3.same hc_4
 refine qV rfl (R.not (b := true) rfl) (qA (.bool false) rfl rfl ?_)
 refine WL.nil (thn_n ?_)
 refine WP.condF rfl ?_
 refine WP.seq (WP.reg ?_)
 refine qM (.slice ar nr cr) rfl rfl ?_
 refine WL.call Tryz.call39 rfl rfl (c_MayAllA ar nr cr rs hrl hrs (by omega) _ (viewV (h_6.ok _ M1))) rfl ?_
 rintro _ w_8 ⟨rfl, hc_7⟩
 have h_9 := h_6.same hc_7
 refine qV rfl (R.not (b := false) (congrArg Value.bool hm)) (qA (.bool true) rfl rfl ?_)
 refine WL.nil (thn_n ?_)
 refine WP.condT rfl ?_
 refine WP.seq (WP.reg ?_)
 refine qV rfl (R.buildA (vs := []) (cs := (zB 32).map vu8) underlying23 sizeOf5 (zv typeInfo23 rfl) rfl rfl) ?_
 refine WL.storeA [] [(32, (zB 32).map vu8)] [(32, (zB 32).map vu8)] [] h_9 rfl rfl sizeOf23 At.h (by decide) rfl rfl rfl rfl rfl rfl (sC (s8 lr) sN) (fun w_10 h_11 => ?_)
 refine qA (vi 2) rfl rfl ?_
 refine WL.nil (thn_n (WP.ret (inb_r (thn_r ?_))))
 refine ret_of results38 (RV.cell rfl (h_11.loadA (cs := (zB 32).map vu8) isAgg23 sizeOf23 M0 rfl rfl) (RV.tmp (v := (vi 2)) rfl RV.nil)) ?_
 exact ⟨rfl, h_11.chgS⟩
end Go.Proofs.YteclkcpdclimnaaGreat
