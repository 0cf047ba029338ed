/- Rules for walks and contracts of the functions that the law reaches, one behind the other. Conditions: none beyond what each theorem states. -/
import Derived.Test.YteclkcpdclimnaaGreatZ5MeasureNext
set_option linter.unusedVariables false
set_option linter.unusedSimpArgs false
set_option linter.unusedSectionVars false
namespace Go.Proofs.YteclkcpdclimnaaGreat
open Go.Proofs.Tryz
open Go.Vc Go.Orc Go.Sh Go.RowKit
set_option maxRecDepth 20000

def qN (md : List UInt8) (kd pg : Int) (gr : List UInt8) (pc : UInt64) (rg : List UInt64) (run : Bool) : Qn := if kd = 2 then (1, (List.replicate 32 (0 : UInt8)), 2, [md, leN 8 (UInt64.ofNat pg.toNat).toNat, gr].flatten) else (1, (List.replicate 32 (0 : UInt8)), 3, [md, recB pc rg run].flatten)
theorem mayB_to {kd pg : Int} {val gr : List UInt8} {pc : UInt64} {rg : List UInt64} {run : Bool} (h : mayB kd val pg gr pc rg run = true) : mayZ kd val pg gr pc rg run := of_decide_eq_true h

theorem c_add1 {w00 : World} {L : List Ent} (id : Bool) (ob mp : Nat) (ms df : List UInt8) (hms : ms.length = 32) (da : Option Addr) (dn dc u : Nat) (hdf : df.length = 32 * dn) (la : Option Addr) (lc : Nat) (lx : List Value) (lg : Lg) (hu : u ≤ 1000000) (hlg : lg.length ≤ 1000000) (md : List UInt8) (hmd : md.length = 32) (pg : Nat) (h : pg < 128) (gr : List UInt8) (hgr : gr.length = 128) (w : World) (h_0 : HP w00 w (Ent.blk ob .nw 118 [(1, [(.bool id)]), (32, ms.map vu8), (1, [(.slice da dn dc)]), (1, [(vi ((u : Nat) : Int))]), (1, [(.map (some mp))]), (1, [(.slice la lg.length lc)])] :: Ent.row la lg.length lc 96 67 lx :: Ent.obj mp .nw (.map (mArr lg) lg.length) :: Ent.pin (sblks lx) (fun w => Lgs w lx lg) :: Ent.view da (df.map vu8) :: L)) :
  Cs Tryz.prog 110 [(.pointer (some ⟨ob, 0, none⟩)), (.agg ⟨md.map vu8⟩), (.agg ⟨flat [(1, [(vi 2)]), (32, (List.replicate 32 (0 : UInt8)).map vu8), (1, [(vi ((pg : Nat) : Int))]), (128, gr.map vu8), (1, [(vu64 0)]), (8, (List.replicate 8 (0 : UInt64)).map vu64), (1, [(.bool false)])]⟩)].toArray w (fun v w1 => ∃ la' lc' lx', v = (.tuple [(.agg ⟨(anD id df dn u lg (1, (List.replicate 32 (0 : UInt8)), 2, [md, leN 8 (UInt64.ofNat pg).toNat, gr].flatten)).map vu8⟩), (vi 0)].toArray) ∧ HP w00 w1 (Ent.blk ob .nw 118 [(1, [(.bool id)]), (32, ms.map vu8), (1, [(.slice da dn dc)]), (1, [(vi (((anU id u lg (1, (List.replicate 32 (0 : UInt8)), 2, [md, leN 8 (UInt64.ofNat pg).toNat, gr].flatten)) : Nat) : Int))]), (1, [(.map (some mp))]), (1, [(.slice la' ((anL id df dn u lg (1, (List.replicate 32 (0 : UInt8)), 2, [md, leN 8 (UInt64.ofNat pg).toNat, gr].flatten)).length) lc')])] :: Ent.row la' ((anL id df dn u lg (1, (List.replicate 32 (0 : UInt8)), 2, [md, leN 8 (UInt64.ofNat pg).toNat, gr].flatten)).length) lc' 96 67 lx' :: Ent.obj mp .nw (.map (mArr (anL id df dn u lg (1, (List.replicate 32 (0 : UInt8)), 2, [md, leN 8 (UInt64.ofNat pg).toNat, gr].flatten))) ((anL id df dn u lg (1, (List.replicate 32 (0 : UInt8)), 2, [md, leN 8 (UInt64.ofNat pg).toNat, gr].flatten)).length)) :: Ent.pin (sblks lx') (fun w => Lgs w lx' (anL id df dn u lg (1, (List.replicate 32 (0 : UInt8)), 2, [md, leN 8 (UInt64.ofNat pg).toNat, gr].flatten))) :: Ent.view da (df.map vu8) :: L)) := by
 refine Cs.of (n := 17) (args := [(pO ob 0), (.agg ⟨md.map vu8⟩), (.agg ⟨flat [(1, [(vi 2)]), (32, (List.replicate 32 (0 : UInt8)).map vu8), (1, [(vn pg)]), (128, gr.map vu8), (1, [(vu64 0)]), (8, (List.replicate 8 (0 : UInt64)).map vu64), (1, [(.bool false)])]⟩)]) Tryz.func110 rfl rfl rfl ?_
 refine WP.seq (WP.reg ?_)
 refine WL.box (v := (.agg ⟨md.map vu8⟩)) (segs := [(32, md.map vu8)]) h_0 rfl rfl (sC (s8 hmd) sN) rfl (fun b_1 w_2 h_3 => ?_)
 refine WL.box (v := (.agg ⟨flat [(1, [(vi 2)]), (32, (List.replicate 32 (0 : UInt8)).map vu8), (1, [(vn pg)]), (128, gr.map vu8), (1, [(vu64 0)]), (8, (List.replicate 8 (0 : UInt64)).map vu64), (1, [(.bool false)])]⟩)) (segs := [(1, [(vi 2)]), (32, (List.replicate 32 (0 : UInt8)).map vu8), (1, [(vn pg)]), (128, gr.map vu8), (1, [(vu64 0)]), (8, (List.replicate 8 (0 : UInt64)).map vu64), (1, [(.bool false)])]) h_3 rfl rfl (sC sV (sC (s8 lr) (sC sV (sC (s8 hgr) (sC sV (sC (SOk.u64 lr) (sC sV sN))))))) rfl (fun b_4 w_5 h_6 => ?_)
 refine WL.alloc (segs := [(32, (List.replicate 32 (0 : UInt8)).map vu8)]) h_6 (zv typeInfo23 rfl) rfl (sC (s8 lr) sN) rfl (fun b_7 w_8 h_9 => ?_)
 refine qA (vi 0) rfl rfl ?_
 refine WL.nil (thn_n (WP.seq (WP.reg ?_)))
 refine qM (pO ob 0) rfl rfl (qV rfl (R.loadA [] [(32, md.map vu8)] [] (cs := md.map vu8) rfl isAgg23 sizeOf23 (h_9.ok _ M2) rfl rfl rfl rfl) (qV rfl (R.fieldAddr (off' := 33) rfl underlying70 rfl sizeOf3 rfl rfl) (qV rfl (R.load1 rfl isAgg3 (h_9.ok _ M1) (Sg.t rfl (Sg.t rfl Sg.h))) (qV rfl (R.fieldAddr (off' := 34) rfl underlying70 rfl sizeOf29 rfl rfl) (qV rfl (R.loadA [(1, [(vi 2)]), (32, (List.replicate 32 (0 : UInt8)).map vu8), (1, [(vn pg)])] [(128, gr.map vu8)] [(1, [(vu64 0)]), (8, (List.replicate 8 (0 : UInt64)).map vu64), (1, [(.bool false)])] (cs := gr.map vu8) rfl isAgg29 sizeOf29 (h_9.ok _ M1) rfl rfl rfl rfl) ?_)))))
 have h_14 := ((((h_9.up J7).up J7).up J7).up J7).up J7
 have h32_w_18 := Lgs.ok32 (h_14.ok _ M3).1
 refine WL.call Tryz.call28 rfl rfl (c_Data id ob mp ms df hms da dn dc u hdf la lc lx lg hu hlg md gr hmd hgr pg (by omega) _ h_14) rfl ?_
 rintro _ w_18 ⟨la_15, lc_16, lx_17, rfl, h_19⟩
 refine qV rfl (R.extract rfl rfl) (qV rfl (R.extract rfl rfl) ?_)
 refine WL.storeA (b := b_7) (off := 0) [] [(32, (List.replicate 32 (0 : UInt8)).map vu8)] [(32, (anD id df dn u lg (1, (List.replicate 32 (0 : UInt8)), 2, [md, leN 8 (UInt64.ofNat pg).toNat, gr].flatten)).map vu8)] [] (ys := (anD id df dn u lg (1, (List.replicate 32 (0 : UInt8)), 2, [md, leN 8 (UInt64.ofNat pg).toNat, gr].flatten)).map vu8) h_19 rfl rfl sizeOf23 Y5 (by decide) rfl rfl rfl rfl rfl rfl (sC (s8 (anD_len hdf h32_w_18)) sN) (fun w_20 h_21 => ?_)
 refine qA (vi 0) rfl rfl ?_
 refine WL.nil (thn_n (WP.ret ?_))
 refine ret_of results110 (RV.cell rfl (h_21.loadA (cs := (anD id df dn u lg (1, (List.replicate 32 (0 : UInt8)), 2, [md, leN 8 (UInt64.ofNat pg).toNat, gr].flatten)).map vu8) isAgg23 sizeOf23 M5 rfl rfl) (RV.tmp (v := (vi 0)) rfl RV.nil)) ?_
 have h_32 := ((((((((((h_21.up J5).drop rfl).up J5).drop rfl).up J5).drop rfl).up J4).up J4).up J4).up J4).up J4
 exact ⟨_, _, _, rfl, h_32⟩

theorem c_add2 {w00 : World} {L : List Ent} (id : Bool) (ob mp : Nat) (ms df : List UInt8) (hms : ms.length = 32) (da : Option Addr) (dn dc u : Nat) (hdf : df.length = 32 * dn) (la : Option Addr) (lc : Nat) (lx : List Value) (lg : Lg) (hu : u ≤ 1000000) (hlg : lg.length ≤ 1000000) (md : List UInt8) (hmd : md.length = 32) (pc : UInt64) (rg : List UInt64) (hrg : rg.length = 8) (run : Bool) (h : decide (pc % 8 = 0) = true) (w : World) (h_0 : HP w00 w (Ent.blk ob .nw 118 [(1, [(.bool id)]), (32, ms.map vu8), (1, [(.slice da dn dc)]), (1, [(vi ((u : Nat) : Int))]), (1, [(.map (some mp))]), (1, [(.slice la lg.length lc)])] :: Ent.row la lg.length lc 96 67 lx :: Ent.obj mp .nw (.map (mArr lg) lg.length) :: Ent.pin (sblks lx) (fun w => Lgs w lx lg) :: Ent.view da (df.map vu8) :: L)) :
  Cs Tryz.prog 111 [(.pointer (some ⟨ob, 0, none⟩)), (.agg ⟨md.map vu8⟩), (.agg ⟨flat [(1, [(vi 3)]), (32, (List.replicate 32 (0 : UInt8)).map vu8), (1, [(vi 0)]), (128, (List.replicate 128 (0 : UInt8)).map vu8), (1, [(vu64 pc)]), (8, rg.map vu64), (1, [(.bool run)])]⟩)].toArray w (fun v w1 => ∃ la' lc' lx', v = (.tuple [(.agg ⟨(anD id df dn u lg (1, (List.replicate 32 (0 : UInt8)), 3, [md, recB pc rg run].flatten)).map vu8⟩), (vi 0)].toArray) ∧ HP w00 w1 (Ent.blk ob .nw 118 [(1, [(.bool id)]), (32, ms.map vu8), (1, [(.slice da dn dc)]), (1, [(vi (((anU id u lg (1, (List.replicate 32 (0 : UInt8)), 3, [md, recB pc rg run].flatten)) : Nat) : Int))]), (1, [(.map (some mp))]), (1, [(.slice la' ((anL id df dn u lg (1, (List.replicate 32 (0 : UInt8)), 3, [md, recB pc rg run].flatten)).length) lc')])] :: Ent.row la' ((anL id df dn u lg (1, (List.replicate 32 (0 : UInt8)), 3, [md, recB pc rg run].flatten)).length) lc' 96 67 lx' :: Ent.obj mp .nw (.map (mArr (anL id df dn u lg (1, (List.replicate 32 (0 : UInt8)), 3, [md, recB pc rg run].flatten))) ((anL id df dn u lg (1, (List.replicate 32 (0 : UInt8)), 3, [md, recB pc rg run].flatten)).length)) :: Ent.pin (sblks lx') (fun w => Lgs w lx' (anL id df dn u lg (1, (List.replicate 32 (0 : UInt8)), 3, [md, recB pc rg run].flatten))) :: Ent.view da (df.map vu8) :: L)) := by
 refine Cs.of (n := 15) (args := [(pO ob 0), (.agg ⟨md.map vu8⟩), (.agg ⟨flat [(1, [(vi 3)]), (32, (List.replicate 32 (0 : UInt8)).map vu8), (1, [(vi 0)]), (128, (List.replicate 128 (0 : UInt8)).map vu8), (1, [(vu64 pc)]), (8, rg.map vu64), (1, [(.bool run)])]⟩)]) Tryz.func111 rfl rfl rfl ?_
 refine WP.seq (WP.reg ?_)
 refine WL.box (v := (.agg ⟨md.map vu8⟩)) (segs := [(32, md.map vu8)]) h_0 rfl rfl (sC (s8 hmd) sN) rfl (fun b_1 w_2 h_3 => ?_)
 refine WL.box (v := (.agg ⟨flat [(1, [(vi 3)]), (32, (List.replicate 32 (0 : UInt8)).map vu8), (1, [(vi 0)]), (128, (List.replicate 128 (0 : UInt8)).map vu8), (1, [(vu64 pc)]), (8, rg.map vu64), (1, [(.bool run)])]⟩)) (segs := [(1, [(vi 3)]), (32, (List.replicate 32 (0 : UInt8)).map vu8), (1, [(vi 0)]), (128, (List.replicate 128 (0 : UInt8)).map vu8), (1, [(vu64 pc)]), (8, rg.map vu64), (1, [(.bool run)])]) h_3 rfl rfl (sC sV (sC (s8 lr) (sC sV (sC (s8 lr) (sC sV (sC (SOk.u64 hrg) (sC sV sN))))))) rfl (fun b_4 w_5 h_6 => ?_)
 refine WL.alloc (segs := [(32, (List.replicate 32 (0 : UInt8)).map vu8)]) h_6 (zv typeInfo23 rfl) rfl (sC (s8 lr) sN) rfl (fun b_7 w_8 h_9 => ?_)
 refine qA (vi 0) rfl rfl ?_
 refine WL.nil (thn_n (WP.seq (WP.reg ?_)))
 refine qM (pO ob 0) rfl rfl (qV rfl (R.loadA [] [(32, md.map vu8)] [] (cs := md.map vu8) rfl isAgg23 sizeOf23 (h_9.ok _ M2) rfl rfl rfl rfl) (qV rfl (R.fieldAddr (off' := 162) rfl underlying70 rfl sizeOf57 rfl rfl) (qV rfl (R.loadA [(1, [(vi 3)]), (32, (List.replicate 32 (0 : UInt8)).map vu8), (1, [(vi 0)]), (128, (List.replicate 128 (0 : UInt8)).map vu8)] [(1, [(vu64 pc)]), (8, rg.map vu64), (1, [(.bool run)])] [] (cs := flat [(1, [(vu64 pc)]), (8, rg.map vu64), (1, [(.bool run)])]) rfl isAgg57 sizeOf57 (h_9.ok _ M1) rfl rfl rfl rfl) ?_)))
 have h_14 := ((((h_9.up J7).up J7).up J7).up J7).up J7
 have h32_w_18 := Lgs.ok32 (h_14.ok _ M3).1
 refine WL.call Tryz.call31 rfl rfl (c_Rec id ob mp ms df hms da dn dc u hdf la lc lx lg hu hlg md hmd pc rg hrg run h _ h_14) rfl ?_
 rintro _ w_18 ⟨la_15, lc_16, lx_17, rfl, h_19⟩
 refine qV rfl (R.extract rfl rfl) (qV rfl (R.extract rfl rfl) ?_)
 refine WL.storeA (b := b_7) (off := 0) [] [(32, (List.replicate 32 (0 : UInt8)).map vu8)] [(32, (anD id df dn u lg (1, (List.replicate 32 (0 : UInt8)), 3, [md, recB pc rg run].flatten)).map vu8)] [] (ys := (anD id df dn u lg (1, (List.replicate 32 (0 : UInt8)), 3, [md, recB pc rg run].flatten)).map vu8) h_19 rfl rfl sizeOf23 Y5 (by decide) rfl rfl rfl rfl rfl rfl (sC (s8 (anD_len hdf h32_w_18)) sN) (fun w_20 h_21 => ?_)
 refine qA (vi 0) rfl rfl ?_
 refine WL.nil (thn_n (WP.ret ?_))
 refine ret_of results111 (RV.cell rfl (h_21.loadA (cs := (anD id df dn u lg (1, (List.replicate 32 (0 : UInt8)), 3, [md, recB pc rg run].flatten)).map vu8) isAgg23 sizeOf23 M5 rfl rfl) (RV.tmp (v := (vi 0)) rfl RV.nil)) ?_
 have h_32 := ((((((((((h_21.up J5).drop rfl).up J5).drop rfl).up J5).drop rfl).up J4).up J4).up J4).up J4).up J4
 exact ⟨_, _, _, rfl, h_32⟩

theorem c_Next_2 {w00 : World} {L : List Ent} (id : Bool) (ob mp : Nat) (ms df : List UInt8) (hms : ms.length = 32) (da : Option Addr) (dn dc u : Nat) (hdf : df.length = 32 * dn) (la : Option Addr) (lc : Nat) (lx : List Value) (lg : Lg) (hu : u ≤ 1000000) (hlg : lg.length ≤ 1000000) (md : List UInt8) (hmd : md.length = 32) (pg : Nat) (h : pg < 128) (gr : List UInt8) (hgr : gr.length = 128) (w : World) (h_0 : HP w00 w (Ent.blk ob .nw 118 [(1, [(.bool id)]), (32, ms.map vu8), (1, [(.slice da dn dc)]), (1, [(vi ((u : Nat) : Int))]), (1, [(.map (some mp))]), (1, [(.slice la lg.length lc)])] :: Ent.row la lg.length lc 96 67 lx :: Ent.obj mp .nw (.map (mArr lg) lg.length) :: Ent.pin (sblks lx) (fun w => Lgs w lx lg) :: Ent.view da (df.map vu8) :: L)) :
  Cs Tryz.prog 34 [(.pointer (some ⟨ob, 0, none⟩)), (.agg ⟨md.map vu8⟩), (.agg ⟨flat [(1, [(vi 2)]), (32, (List.replicate 32 (0 : UInt8)).map vu8), (1, [(vi ((pg : Nat) : Int))]), (128, gr.map vu8), (1, [(vu64 0)]), (8, (List.replicate 8 (0 : UInt64)).map vu64), (1, [(.bool false)])]⟩)].toArray w (fun v w1 => ∃ la' lc' lx', v = (.tuple [(.agg ⟨(anD id df dn u lg (1, (List.replicate 32 (0 : UInt8)), 2, [md, leN 8 (UInt64.ofNat pg).toNat, gr].flatten)).map vu8⟩), (vi 0)].toArray) ∧ HP w00 w1 (Ent.blk ob .nw 118 [(1, [(.bool id)]), (32, ms.map vu8), (1, [(.slice da dn dc)]), (1, [(vi (((anU id u lg (1, (List.replicate 32 (0 : UInt8)), 2, [md, leN 8 (UInt64.ofNat pg).toNat, gr].flatten)) : Nat) : Int))]), (1, [(.map (some mp))]), (1, [(.slice la' ((anL id df dn u lg (1, (List.replicate 32 (0 : UInt8)), 2, [md, leN 8 (UInt64.ofNat pg).toNat, gr].flatten)).length) lc')])] :: Ent.row la' ((anL id df dn u lg (1, (List.replicate 32 (0 : UInt8)), 2, [md, leN 8 (UInt64.ofNat pg).toNat, gr].flatten)).length) lc' 96 67 lx' :: Ent.obj mp .nw (.map (mArr (anL id df dn u lg (1, (List.replicate 32 (0 : UInt8)), 2, [md, leN 8 (UInt64.ofNat pg).toNat, gr].flatten))) ((anL id df dn u lg (1, (List.replicate 32 (0 : UInt8)), 2, [md, leN 8 (UInt64.ofNat pg).toNat, gr].flatten)).length)) :: Ent.pin (sblks lx') (fun w => Lgs w lx' (anL id df dn u lg (1, (List.replicate 32 (0 : UInt8)), 2, [md, leN 8 (UInt64.ofNat pg).toNat, gr].flatten))) :: Ent.view da (df.map vu8) :: L)) := by
 refine Cs.of (n := 34) (args := [(pO ob 0), (.agg ⟨md.map vu8⟩), (.agg ⟨flat [(1, [(vi 2)]), (32, (List.replicate 32 (0 : UInt8)).map vu8), (1, [(vn pg)]), (128, gr.map vu8), (1, [(vu64 0)]), (8, (List.replicate 8 (0 : UInt64)).map vu64), (1, [(.bool false)])]⟩)]) Tryz.func34 rfl rfl rfl ?_
 refine WP.seq (WP.reg ?_)
 refine WL.box (v := (.agg ⟨md.map vu8⟩)) (segs := [(32, md.map vu8)]) h_0 rfl rfl (sC (s8 hmd) sN) rfl (fun b_1 w_2 h_3 => ?_)
 refine WL.box (v := (.agg ⟨flat [(1, [(vi 2)]), (32, (List.replicate 32 (0 : UInt8)).map vu8), (1, [(vn pg)]), (128, gr.map vu8), (1, [(vu64 0)]), (8, (List.replicate 8 (0 : UInt64)).map vu64), (1, [(.bool false)])]⟩)) (segs := [(1, [(vi 2)]), (32, (List.replicate 32 (0 : UInt8)).map vu8), (1, [(vn pg)]), (128, gr.map vu8), (1, [(vu64 0)]), (8, (List.replicate 8 (0 : UInt64)).map vu64), (1, [(.bool false)])]) h_3 rfl rfl (sC sV (sC (s8 lr) (sC sV (sC (s8 hgr) (sC sV (sC (SOk.u64 lr) (sC sV sN))))))) rfl (fun b_4 w_5 h_6 => ?_)
 refine WL.alloc (segs := [(32, (List.replicate 32 (0 : UInt8)).map vu8)]) h_6 (zv typeInfo23 rfl) rfl (sC (s8 lr) sN) rfl (fun b_7 w_8 h_9 => ?_)
 refine qA (vi 0) rfl rfl ?_
 refine WL.nil (thn_n (WP.seq ?_))
 refine WP.drawT (SL w00.heap.size [.blk b_7 .nw 23 [(32, (List.replicate 32 (0 : UInt8)).map vu8)], .blk b_4 .nw 70 [(1, [(vi 2)]), (32, (List.replicate 32 (0 : UInt8)).map vu8), (1, [(vn pg)]), (128, gr.map vu8), (1, [(vu64 0)]), (8, (List.replicate 8 (0 : UInt64)).map vu64), (1, [(.bool false)])], .blk b_1 .nw 23 [(32, md.map vu8)], .blk ob .nw 118 [(1, [(.bool id)]), (32, ms.map vu8), (1, [(.slice da dn dc)]), (1, [(vn u)]), (1, [(.map (some mp))]), (1, [(.slice la lg.length lc)])], .row la lg.length lc 96 67 lx, .obj mp .nw (.map (mArr lg) lg.length), .pin (sblks lx) (fun w => Lgs w lx lg), .view da (df.map vu8)]) (.q 1 (.q 2 (.s 0 (.s 3 (.q 4 .nil))))) (by kernel_rfl) (by kernel_rfl) rfl (by kernel_rfl) (fun w_10 hc_12 => (SL.cons ((h_9.same hc_12).ok _ M0) (SL.cons ((h_9.same hc_12).ok _ M1) (SL.cons ((h_9.same hc_12).ok _ M2) (SL.cons ((h_9.same hc_12).ok _ M3) (SL.cons ((h_9.same hc_12).ok _ M4) (SL.cons ((h_9.same hc_12).ok _ M5) (SL.cons ((h_9.same hc_12).ok _ M6) (SL.cons ((h_9.same hc_12).ok _ M7) (SL.nil _ _)))))))))) (fun w_10 hc_12 => ?_)
 have h_11 := h_9.same hc_12
 refine qT rfl rfl (fun wq hS => R.fieldAddr (off' := 0) rfl underlying70 rfl sizeOf68 rfl rfl) ?_
 refine qT rfl rfl (fun wq hS => R.load1 rfl isAgg68 (hS _ M1) Sg.h) ?_
 refine WT.s (oN rfl ?_)
 refine WL.call Tryz.call77 rfl rfl (c_addings _) rfl ?_
 rintro _ w_14 ⟨b_13, rfl, hc_15, hm_16, hb_17⟩
 have h_18 := h_11.pushObj hc_15 hm_16 hb_17
 refine WL.nil ?_
 refine ⟨(N1_2_3_4_5_6_7_8 h_18.ok), ?_⟩
 refine WT.s (oN rfl ?_)
 refine qV rfl (R.lookup1 (r := (some (0, (Value.func (Fn.func 110) [].toArray [].toArray)))) (z := .nilFunc) (v := (Value.func (Fn.func 110) [].toArray [].toArray)) rfl rfl underlying132 (h_18.ok _ M0) (Ck.int underlying68) (Fk.int underlying68 rfl) (zv typeInfo131 rfl) rfl) ?_
 refine WL.nil ?_
 refine ⟨(N1_2_3_4_5_6_7_8 h_18.ok), ?_⟩
 refine qT rfl rfl (fun wq hS => R.assign (v := (Value.func (Fn.func 110) [].toArray [].toArray)) rfl) ?_
 refine WT.nil (thn_n (WP.seq (WP.block (WP.seq (WP.reg ?_)))))
 refine qM (pO ob 0) rfl rfl ?_
 refine WL.call Tryz.call72 rfl rfl (c_mth id ob mp ms hms da dn dc u la lg.length lc _ (h_18.argR M4)) rfl ?_
 rintro _ w_20 ⟨rfl, hc_19⟩
 have h_21 := h_18.same hc_19
 refine qV rfl (R.not (b := true) rfl) (qA (.bool false) rfl rfl ?_)
 refine WL.nil (thn_n ?_)
 refine WP.condF rfl ?_
 refine WP.seq (WP.reg ?_)
 refine qM (Value.func (Fn.func 110) [].toArray [].toArray) rfl rfl (qV rfl (R.eqNilF rfl rfl underlying131) (qM (.bool false) rfl rfl ?_))
 refine WL.want rfl rfl ?_
 refine qV rfl (R.loadA [] [(1, [(vi 2)]), (32, (List.replicate 32 (0 : UInt8)).map vu8), (1, [(vn pg)]), (128, gr.map vu8), (1, [(vu64 0)]), (8, (List.replicate 8 (0 : UInt64)).map vu64), (1, [(.bool false)])] [] (cs := flat [(1, [(vi 2)]), (32, (List.replicate 32 (0 : UInt8)).map vu8), (1, [(vn pg)]), (128, gr.map vu8), (1, [(vu64 0)]), (8, (List.replicate 8 (0 : UInt64)).map vu64), (1, [(.bool false)])]) rfl isAgg70 sizeOf70 (h_21.ok _ M2) rfl rfl rfl rfl) ?_
 refine WL.want rfl rfl ?_
 refine WL.call Tryz.call35 rfl rfl (c_MayA 2 (by decide) (List.replicate 32 (0 : UInt8)) lr ((pg : Nat) : Int) (by omega) gr hgr (0 : UInt64) (List.replicate 8 (0 : UInt64)) lr false _ ) rfl ?_
 rintro _ w_23 ⟨rfl, hc_22⟩
 have h_24 := h_21.same hc_22
 refine WL.want rfl rfl ?_
 refine qV rfl (R.not (b := true) (congrArg Value.bool (decide_eq_true (Or.inr (Or.inl ⟨rfl, rfl, ⟨by omega, by omega⟩, rfl, rfl, rfl⟩))))) (qV rfl (R.pickF (v := (.bool false)) rfl rfl) (qA (.bool false) rfl rfl ?_))
 refine WL.nil (thn_n ?_)
 refine WP.condF rfl ?_
 refine WP.skip (inb_n (thn_n (WP.seq (WP.reg ?_))))
 refine qM (Value.func (Fn.func 110) [].toArray [].toArray) rfl rfl (qM (pO ob 0) rfl rfl (qV rfl (R.loadA [] [(32, md.map vu8)] [] (cs := md.map vu8) rfl isAgg23 sizeOf23 (h_24.ok _ M3) rfl rfl rfl rfl) (qV rfl (R.loadA [] [(1, [(vi 2)]), (32, (List.replicate 32 (0 : UInt8)).map vu8), (1, [(vn pg)]), (128, gr.map vu8), (1, [(vu64 0)]), (8, (List.replicate 8 (0 : UInt64)).map vu64), (1, [(.bool false)])] [] (cs := flat [(1, [(vi 2)]), (32, (List.replicate 32 (0 : UInt8)).map vu8), (1, [(vn pg)]), (128, gr.map vu8), (1, [(vu64 0)]), (8, (List.replicate 8 (0 : UInt64)).map vu64), (1, [(.bool false)])]) rfl isAgg70 sizeOf70 (h_24.ok _ M2) rfl rfl rfl rfl) ?_)))
 have h_29 := ((((h_24.up J8).up J8).up J8).up J8).up J8
 have h32_w_33 := Lgs.ok32 (h_29.ok _ M3).1
 refine WL.call Tryz.call110 rfl rfl (c_add1 id ob mp ms df hms da dn dc u hdf la lc lx lg hu hlg md hmd pg (by omega) gr hgr _ h_29) rfl ?_
 rintro _ w_33 ⟨la_30, lc_31, lx_32, rfl, h_34⟩
 refine qV rfl (R.extract rfl rfl) (qV rfl (R.extract rfl rfl) ?_)
 refine WL.storeA (b := b_7) (off := 0) [] [(32, (List.replicate 32 (0 : UInt8)).map vu8)] [(32, (anD id df dn u lg (1, (List.replicate 32 (0 : UInt8)), 2, [md, leN 8 (UInt64.ofNat pg).toNat, gr].flatten)).map vu8)] [] (ys := (anD id df dn u lg (1, (List.replicate 32 (0 : UInt8)), 2, [md, leN 8 (UInt64.ofNat pg).toNat, gr].flatten)).map vu8) h_34 rfl rfl sizeOf23 Y6 (by decide) rfl rfl rfl rfl rfl rfl (sC (s8 (anD_len hdf h32_w_33)) sN) (fun w_35 h_36 => ?_)
 refine qA (vi 0) rfl rfl ?_
 refine WL.nil (thn_n (WP.ret ?_))
 refine ret_of results34 (RV.cell rfl (h_36.loadA (cs := (anD id df dn u lg (1, (List.replicate 32 (0 : UInt8)), 2, [md, leN 8 (UInt64.ofNat pg).toNat, gr].flatten)).map vu8) isAgg23 sizeOf23 M6 rfl rfl) (RV.tmp (v := (vi 0)) rfl RV.nil)) ?_
 have h_49 := ((((((((((((h_36.up J5).drop rfl).up J5).drop rfl).up J5).drop rfl).up J5).drop rfl).up J4).up J4).up J4).up J4).up J4
 exact ⟨_, _, _, rfl, h_49⟩

theorem c_Next_3 {w00 : World} {L : List Ent} (id : Bool) (ob mp : Nat) (ms df : List UInt8) (hms : ms.length = 32) (da : Option Addr) (dn dc u : Nat) (hdf : df.length = 32 * dn) (la : Option Addr) (lc : Nat) (lx : List Value) (lg : Lg) (hu : u ≤ 1000000) (hlg : lg.length ≤ 1000000) (md : List UInt8) (hmd : md.length = 32) (pc : UInt64) (rg : List UInt64) (hrg : rg.length = 8) (run : Bool) (h : decide (pc % 8 = 0) = true) (w : World) (h_0 : HP w00 w (Ent.blk ob .nw 118 [(1, [(.bool id)]), (32, ms.map vu8), (1, [(.slice da dn dc)]), (1, [(vi ((u : Nat) : Int))]), (1, [(.map (some mp))]), (1, [(.slice la lg.length lc)])] :: Ent.row la lg.length lc 96 67 lx :: Ent.obj mp .nw (.map (mArr lg) lg.length) :: Ent.pin (sblks lx) (fun w => Lgs w lx lg) :: Ent.view da (df.map vu8) :: L)) :
  Cs Tryz.prog 34 [(.pointer (some ⟨ob, 0, none⟩)), (.agg ⟨md.map vu8⟩), (.agg ⟨flat [(1, [(vi 3)]), (32, (List.replicate 32 (0 : UInt8)).map vu8), (1, [(vi 0)]), (128, (List.replicate 128 (0 : UInt8)).map vu8), (1, [(vu64 pc)]), (8, rg.map vu64), (1, [(.bool run)])]⟩)].toArray w (fun v w1 => ∃ la' lc' lx', v = (.tuple [(.agg ⟨(anD id df dn u lg (1, (List.replicate 32 (0 : UInt8)), 3, [md, recB pc rg run].flatten)).map vu8⟩), (vi 0)].toArray) ∧ HP w00 w1 (Ent.blk ob .nw 118 [(1, [(.bool id)]), (32, ms.map vu8), (1, [(.slice da dn dc)]), (1, [(vi (((anU id u lg (1, (List.replicate 32 (0 : UInt8)), 3, [md, recB pc rg run].flatten)) : Nat) : Int))]), (1, [(.map (some mp))]), (1, [(.slice la' ((anL id df dn u lg (1, (List.replicate 32 (0 : UInt8)), 3, [md, recB pc rg run].flatten)).length) lc')])] :: Ent.row la' ((anL id df dn u lg (1, (List.replicate 32 (0 : UInt8)), 3, [md, recB pc rg run].flatten)).length) lc' 96 67 lx' :: Ent.obj mp .nw (.map (mArr (anL id df dn u lg (1, (List.replicate 32 (0 : UInt8)), 3, [md, recB pc rg run].flatten))) ((anL id df dn u lg (1, (List.replicate 32 (0 : UInt8)), 3, [md, recB pc rg run].flatten)).length)) :: Ent.pin (sblks lx') (fun w => Lgs w lx' (anL id df dn u lg (1, (List.replicate 32 (0 : UInt8)), 3, [md, recB pc rg run].flatten))) :: Ent.view da (df.map vu8) :: L)) := by
 refine Cs.of (n := 34) (args := [(pO ob 0), (.agg ⟨md.map vu8⟩), (.agg ⟨flat [(1, [(vi 3)]), (32, (List.replicate 32 (0 : UInt8)).map vu8), (1, [(vi 0)]), (128, (List.replicate 128 (0 : UInt8)).map vu8), (1, [(vu64 pc)]), (8, rg.map vu64), (1, [(.bool run)])]⟩)]) Tryz.func34 rfl rfl rfl ?_
 refine WP.seq (WP.reg ?_)
 refine WL.box (v := (.agg ⟨md.map vu8⟩)) (segs := [(32, md.map vu8)]) h_0 rfl rfl (sC (s8 hmd) sN) rfl (fun b_1 w_2 h_3 => ?_)
 refine WL.box (v := (.agg ⟨flat [(1, [(vi 3)]), (32, (List.replicate 32 (0 : UInt8)).map vu8), (1, [(vi 0)]), (128, (List.replicate 128 (0 : UInt8)).map vu8), (1, [(vu64 pc)]), (8, rg.map vu64), (1, [(.bool run)])]⟩)) (segs := [(1, [(vi 3)]), (32, (List.replicate 32 (0 : UInt8)).map vu8), (1, [(vi 0)]), (128, (List.replicate 128 (0 : UInt8)).map vu8), (1, [(vu64 pc)]), (8, rg.map vu64), (1, [(.bool run)])]) h_3 rfl rfl (sC sV (sC (s8 lr) (sC sV (sC (s8 lr) (sC sV (sC (SOk.u64 hrg) (sC sV sN))))))) rfl (fun b_4 w_5 h_6 => ?_)
 refine WL.alloc (segs := [(32, (List.replicate 32 (0 : UInt8)).map vu8)]) h_6 (zv typeInfo23 rfl) rfl (sC (s8 lr) sN) rfl (fun b_7 w_8 h_9 => ?_)
 refine qA (vi 0) rfl rfl ?_
 refine WL.nil (thn_n (WP.seq ?_))
 refine WP.drawT (SL w00.heap.size [.blk b_7 .nw 23 [(32, (List.replicate 32 (0 : UInt8)).map vu8)], .blk b_4 .nw 70 [(1, [(vi 3)]), (32, (List.replicate 32 (0 : UInt8)).map vu8), (1, [(vi 0)]), (128, (List.replicate 128 (0 : UInt8)).map vu8), (1, [(vu64 pc)]), (8, rg.map vu64), (1, [(.bool run)])], .blk b_1 .nw 23 [(32, md.map vu8)], .blk ob .nw 118 [(1, [(.bool id)]), (32, ms.map vu8), (1, [(.slice da dn dc)]), (1, [(vn u)]), (1, [(.map (some mp))]), (1, [(.slice la lg.length lc)])], .row la lg.length lc 96 67 lx, .obj mp .nw (.map (mArr lg) lg.length), .pin (sblks lx) (fun w => Lgs w lx lg), .view da (df.map vu8)]) (.q 1 (.q 2 (.s 0 (.s 3 (.q 4 .nil))))) (by kernel_rfl) (by kernel_rfl) rfl (by kernel_rfl) (fun w_10 hc_12 => (SL.cons ((h_9.same hc_12).ok _ M0) (SL.cons ((h_9.same hc_12).ok _ M1) (SL.cons ((h_9.same hc_12).ok _ M2) (SL.cons ((h_9.same hc_12).ok _ M3) (SL.cons ((h_9.same hc_12).ok _ M4) (SL.cons ((h_9.same hc_12).ok _ M5) (SL.cons ((h_9.same hc_12).ok _ M6) (SL.cons ((h_9.same hc_12).ok _ M7) (SL.nil _ _)))))))))) (fun w_10 hc_12 => ?_)
 have h_11 := h_9.same hc_12
 refine qT rfl rfl (fun wq hS => R.fieldAddr (off' := 0) rfl underlying70 rfl sizeOf68 rfl rfl) ?_
 refine qT rfl rfl (fun wq hS => R.load1 rfl isAgg68 (hS _ M1) Sg.h) ?_
 refine WT.s (oN rfl ?_)
 refine WL.call Tryz.call77 rfl rfl (c_addings _) rfl ?_
 rintro _ w_14 ⟨b_13, rfl, hc_15, hm_16, hb_17⟩
 have h_18 := h_11.pushObj hc_15 hm_16 hb_17
 refine WL.nil ?_
 refine ⟨(N1_2_3_4_5_6_7_8 h_18.ok), ?_⟩
 refine WT.s (oN rfl ?_)
 refine qV rfl (R.lookup1 (r := (some (1, (Value.func (Fn.func 111) [].toArray [].toArray)))) (z := .nilFunc) (v := (Value.func (Fn.func 111) [].toArray [].toArray)) rfl rfl underlying132 (h_18.ok _ M0) (Ck.int underlying68) (Fk.int underlying68 rfl) (zv typeInfo131 rfl) rfl) ?_
 refine WL.nil ?_
 refine ⟨(N1_2_3_4_5_6_7_8 h_18.ok), ?_⟩
 refine qT rfl rfl (fun wq hS => R.assign (v := (Value.func (Fn.func 111) [].toArray [].toArray)) rfl) ?_
 refine WT.nil (thn_n (WP.seq (WP.block (WP.seq (WP.reg ?_)))))
 refine qM (pO ob 0) rfl rfl ?_
 refine WL.call Tryz.call72 rfl rfl (c_mth id ob mp ms hms da dn dc u la lg.length lc _ (h_18.argR M4)) rfl ?_
 rintro _ w_20 ⟨rfl, hc_19⟩
 have h_21 := h_18.same hc_19
 refine qV rfl (R.not (b := true) rfl) (qA (.bool false) rfl rfl ?_)
 refine WL.nil (thn_n ?_)
 refine WP.condF rfl ?_
 refine WP.seq (WP.reg ?_)
 refine qM (Value.func (Fn.func 111) [].toArray [].toArray) rfl rfl (qV rfl (R.eqNilF rfl rfl underlying131) (qM (.bool false) rfl rfl ?_))
 refine WL.want rfl rfl ?_
 refine qV rfl (R.loadA [] [(1, [(vi 3)]), (32, (List.replicate 32 (0 : UInt8)).map vu8), (1, [(vi 0)]), (128, (List.replicate 128 (0 : UInt8)).map vu8), (1, [(vu64 pc)]), (8, rg.map vu64), (1, [(.bool run)])] [] (cs := flat [(1, [(vi 3)]), (32, (List.replicate 32 (0 : UInt8)).map vu8), (1, [(vi 0)]), (128, (List.replicate 128 (0 : UInt8)).map vu8), (1, [(vu64 pc)]), (8, rg.map vu64), (1, [(.bool run)])]) rfl isAgg70 sizeOf70 (h_21.ok _ M2) rfl rfl rfl rfl) ?_
 refine WL.want rfl rfl ?_
 refine WL.call Tryz.call35 rfl rfl (c_MayA 3 (by decide) (List.replicate 32 (0 : UInt8)) lr 0 (by decide) (List.replicate 128 (0 : UInt8)) lr pc rg hrg run _ ) rfl ?_
 rintro _ w_23 ⟨rfl, hc_22⟩
 have h_24 := h_21.same hc_22
 refine WL.want rfl rfl ?_
 refine qV rfl (R.not (b := true) (congrArg Value.bool (decide_eq_true (Or.inr (Or.inr ⟨rfl, rfl, rfl, rfl, h⟩))))) (qV rfl (R.pickF (v := (.bool false)) rfl rfl) (qA (.bool false) rfl rfl ?_))
 refine WL.nil (thn_n ?_)
 refine WP.condF rfl ?_
 refine WP.skip (inb_n (thn_n (WP.seq (WP.reg ?_))))
 refine qM (Value.func (Fn.func 111) [].toArray [].toArray) rfl rfl (qM (pO ob 0) rfl rfl (qV rfl (R.loadA [] [(32, md.map vu8)] [] (cs := md.map vu8) rfl isAgg23 sizeOf23 (h_24.ok _ M3) rfl rfl rfl rfl) (qV rfl (R.loadA [] [(1, [(vi 3)]), (32, (List.replicate 32 (0 : UInt8)).map vu8), (1, [(vi 0)]), (128, (List.replicate 128 (0 : UInt8)).map vu8), (1, [(vu64 pc)]), (8, rg.map vu64), (1, [(.bool run)])] [] (cs := flat [(1, [(vi 3)]), (32, (List.replicate 32 (0 : UInt8)).map vu8), (1, [(vi 0)]), (128, (List.replicate 128 (0 : UInt8)).map vu8), (1, [(vu64 pc)]), (8, rg.map vu64), (1, [(.bool run)])]) rfl isAgg70 sizeOf70 (h_24.ok _ M2) rfl rfl rfl rfl) ?_)))
 have h_29 := ((((h_24.up J8).up J8).up J8).up J8).up J8
 have h32_w_33 := Lgs.ok32 (h_29.ok _ M3).1
 refine WL.call Tryz.call111 rfl rfl (c_add2 id ob mp ms df hms da dn dc u hdf la lc lx lg hu hlg md hmd pc rg hrg run h _ h_29) rfl ?_
 rintro _ w_33 ⟨la_30, lc_31, lx_32, rfl, h_34⟩
 refine qV rfl (R.extract rfl rfl) (qV rfl (R.extract rfl rfl) ?_)
 refine WL.storeA (b := b_7) (off := 0) [] [(32, (List.replicate 32 (0 : UInt8)).map vu8)] [(32, (anD id df dn u lg (1, (List.replicate 32 (0 : UInt8)), 3, [md, recB pc rg run].flatten)).map vu8)] [] (ys := (anD id df dn u lg (1, (List.replicate 32 (0 : UInt8)), 3, [md, recB pc rg run].flatten)).map vu8) h_34 rfl rfl sizeOf23 Y6 (by decide) rfl rfl rfl rfl rfl rfl (sC (s8 (anD_len hdf h32_w_33)) sN) (fun w_35 h_36 => ?_)
 refine qA (vi 0) rfl rfl ?_
 refine WL.nil (thn_n (WP.ret ?_))
 refine ret_of results34 (RV.cell rfl (h_36.loadA (cs := (anD id df dn u lg (1, (List.replicate 32 (0 : UInt8)), 3, [md, recB pc rg run].flatten)).map vu8) isAgg23 sizeOf23 M6 rfl rfl) (RV.tmp (v := (vi 0)) rfl RV.nil)) ?_
 have h_49 := ((((((((((((h_36.up J5).drop rfl).up J5).drop rfl).up J5).drop rfl).up J5).drop rfl).up J4).up J4).up J4).up J4).up J4
 exact ⟨_, _, _, rfl, h_49⟩

theorem c_NextA {w00 : World} {L : List Ent} (id : Bool) (ob mp : Nat) (ms df : List UInt8) (hms : ms.length = 32) (da : Option Addr) (dn dc u : Nat) (hdf : df.length = 32 * dn) (la : Option Addr) (lc : Nat) (lx : List Value) (lg : Lg) (hu : u ≤ 1000000) (hlg : lg.length ≤ 1000000) (md : List UInt8) (hmd : md.length = 32) (kd : Int) (hbk : -9223372036854775808 ≤ kd ∧ kd < 9223372036854775808) (val : List UInt8) (hvl : val.length = 32) (pg : Int) (hbp : -9223372036854775808 ≤ pg ∧ pg < 9223372036854775808) (gr : List UInt8) (hgr : gr.length = 128) (pc : UInt64) (rg : List UInt64) (hrg : rg.length = 8) (run : Bool) (hm : mayB kd val pg gr pc rg run = true) (hk : kd ≠ 1) (w : World) (h_0 : HP w00 w (Ent.blk ob .nw 118 [(1, [(.bool id)]), (32, ms.map vu8), (1, [(.slice da dn dc)]), (1, [(vi ((u : Nat) : Int))]), (1, [(.map (some mp))]), (1, [(.slice la lg.length lc)])] :: Ent.row la lg.length lc 96 67 lx :: Ent.obj mp .nw (.map (mArr lg) lg.length) :: Ent.pin (sblks lx) (fun w => Lgs w lx lg) :: Ent.view da (df.map vu8) :: L)) :
  Cs Tryz.prog 34 [(.pointer (some ⟨ob, 0, none⟩)), (.agg ⟨md.map vu8⟩), (.agg ⟨flat [(1, [(vi kd)]), (32, val.map vu8), (1, [(vi pg)]), (128, gr.map vu8), (1, [(vu64 pc)]), (8, rg.map vu64), (1, [(.bool run)])]⟩)].toArray w (fun v w1 => ∃ la' lc' lx', v = (.tuple [(.agg ⟨(anD id df dn u lg (qN md kd pg gr pc rg run)).map vu8⟩), (vi 0)].toArray) ∧ HP w00 w1 (Ent.blk ob .nw 118 [(1, [(.bool id)]), (32, ms.map vu8), (1, [(.slice da dn dc)]), (1, [(vi (((anU id u lg (qN md kd pg gr pc rg run)) : Nat) : Int))]), (1, [(.map (some mp))]), (1, [(.slice la' ((anL id df dn u lg (qN md kd pg gr pc rg run)).length) lc')])] :: Ent.row la' ((anL id df dn u lg (qN md kd pg gr pc rg run)).length) lc' 96 67 lx' :: Ent.obj mp .nw (.map (mArr (anL id df dn u lg (qN md kd pg gr pc rg run))) ((anL id df dn u lg (qN md kd pg gr pc rg run)).length)) :: Ent.pin (sblks lx') (fun w => Lgs w lx' (anL id df dn u lg (qN md kd pg gr pc rg run))) :: Ent.view da (df.map vu8) :: L)) := by
 rcases mayB_to hm with h | h | h
 ·exact absurd h.1 hk
 ·obtain ⟨rfl, rfl, hp, rfl, rfl, rfl⟩ := h
  obtain ⟨p, rfl⟩ := Int.eq_ofNat_of_zero_le hp.1
  rw [show qN md 2 (p : Int) gr 0 (List.replicate 8 (0 : UInt64)) false = (1, (List.replicate 32 (0 : UInt8)), 2, [md, leN 8 (UInt64.ofNat p).toNat, gr].flatten) from if_pos rfl]
  exact c_Next_2 id ob mp ms df hms da dn dc u hdf la lc lx lg hu hlg md hmd p (by omega) gr hgr w h_0
 ·obtain ⟨rfl, rfl, rfl, rfl, h⟩ := h
  rw [show qN md 3 0 (List.replicate 128 (0 : UInt8)) pc rg run = (1, (List.replicate 32 (0 : UInt8)), 3, [md, recB pc rg run].flatten) from if_neg (by decide)]
  exact c_Next_3 id ob mp ms df hms da dn dc u hdf la lc lx lg hu hlg md hmd pc rg hrg run h w h_0

theorem c_NextNo_1 (id : Bool) (ob mp : Nat) (ms : List UInt8) (hms : ms.length = 32) (da : Option Addr) (dn dc u : Nat) (la : Option Addr) (ln lc : Nat) (md : List UInt8) (hmd : md.length = 32) (val : List UInt8) (hvl : val.length = 32) (pg : Int) (hbp : -9223372036854775808 ≤ pg ∧ pg < 9223372036854775808) (gr : List UInt8) (hgr : gr.length = 128) (pc : UInt64) (rg : List UInt64) (hrg : rg.length = 8) (run : Bool) (w : World) (hcb : (Ent.blk ob .ro 118 [(1, [(.bool id)]), (32, ms.map vu8), (1, [(.slice da dn dc)]), (1, [(vi ((u : Nat) : Int))]), (1, [(.map (some mp))]), (1, [(.slice la ln lc)])]).ok w.heap.size w) :
  Cs Tryz.prog 34 [(.pointer (some ⟨ob, 0, none⟩)), (.agg ⟨md.map vu8⟩), (.agg ⟨flat [(1, [(vi 1)]), (32, val.map vu8), (1, [(vi pg)]), (128, gr.map vu8), (1, [(vu64 pc)]), (8, rg.map vu64), (1, [(.bool run)])]⟩)].toArray w (fun v w1 => v = (.tuple [(.agg ⟨(List.replicate 32 (0 : UInt8)).map vu8⟩), (vi 2)].toArray) ∧ Chg w w1 []) := by
 refine Cs.of (n := 34) (args := [(pO ob 0), (.agg ⟨md.map vu8⟩), (.agg ⟨flat [(1, [(vi 1)]), (32, val.map vu8), (1, [(vi pg)]), (128, gr.map vu8), (1, [(vu64 pc)]), (8, rg.map vu64), (1, [(.bool run)])]⟩)]) Tryz.func34 rfl rfl rfl ?_
 have h_0 := HP.init w
 have h_00 := h_0.old hcb (fun f hf => by cases hf)
 refine WP.seq (WP.reg ?_)
 refine WL.box (v := (.agg ⟨md.map vu8⟩)) (segs := [(32, md.map vu8)]) h_00 rfl rfl (sC (s8 hmd) sN) rfl (fun b_1 w_2 h_3 => ?_)
 refine WL.box (v := (.agg ⟨flat [(1, [(vi 1)]), (32, val.map vu8), (1, [(vi pg)]), (128, gr.map vu8), (1, [(vu64 pc)]), (8, rg.map vu64), (1, [(.bool run)])]⟩)) (segs := [(1, [(vi 1)]), (32, val.map vu8), (1, [(vi pg)]), (128, gr.map vu8), (1, [(vu64 pc)]), (8, rg.map vu64), (1, [(.bool run)])]) h_3 rfl rfl (sC sV (sC (s8 hvl) (sC sV (sC (s8 hgr) (sC sV (sC (SOk.u64 hrg) (sC sV sN))))))) rfl (fun b_4 w_5 h_6 => ?_)
 refine WL.alloc (segs := [(32, (List.replicate 32 (0 : UInt8)).map vu8)]) h_6 (zv typeInfo23 rfl) rfl (sC (s8 lr) sN) rfl (fun b_7 w_8 h_9 => ?_)
 refine qA (vi 0) rfl rfl ?_
 refine WL.nil (thn_n (WP.seq ?_))
 refine WP.drawT (SL w.heap.size [.blk b_7 .nw 23 [(32, (List.replicate 32 (0 : UInt8)).map vu8)], .blk b_4 .nw 70 [(1, [(vi 1)]), (32, val.map vu8), (1, [(vi pg)]), (128, gr.map vu8), (1, [(vu64 pc)]), (8, rg.map vu64), (1, [(.bool run)])], .blk b_1 .nw 23 [(32, md.map vu8)], .blk ob .ro 118 [(1, [(.bool id)]), (32, ms.map vu8), (1, [(.slice da dn dc)]), (1, [(vn u)]), (1, [(.map (some mp))]), (1, [(.slice la ln lc)])]]) (.q 1 (.q 2 (.s 0 (.s 3 (.q 4 .nil))))) (by kernel_rfl) (by kernel_rfl) rfl (by kernel_rfl) (fun w_10 hc_12 => (SL.cons ((h_9.same hc_12).ok _ M0) (SL.cons ((h_9.same hc_12).ok _ M1) (SL.cons ((h_9.same hc_12).ok _ M2) (SL.cons ((h_9.same hc_12).ok _ M3) (SL.nil _ _)))))) (fun w_10 hc_12 => ?_)
 have h_11 := h_9.same hc_12
 refine qT rfl rfl (fun wq hS => R.fieldAddr (off' := 0) rfl underlying70 rfl sizeOf68 rfl rfl) ?_
 refine qT rfl rfl (fun wq hS => R.load1 rfl isAgg68 (hS _ M1) Sg.h) ?_
 refine WT.s (oN rfl ?_)
 refine WL.call Tryz.call77 rfl rfl (c_addings _) rfl ?_
 rintro _ w_14 ⟨b_13, rfl, hc_15, hm_16, hb_17⟩
 have h_18 := h_11.pushObj hc_15 hm_16 hb_17
 refine WL.nil ?_
 refine ⟨(N1_2_3_4 h_18.ok), ?_⟩
 refine WT.s (oN rfl ?_)
 refine qV rfl (R.lookup1 (r := none) (z := .nilFunc) (v := .nilFunc) rfl rfl underlying132 (h_18.ok _ M0) (Ck.int underlying68) (Fk.int underlying68 rfl) (zv typeInfo131 rfl) rfl) ?_
 refine WL.nil ?_
 refine ⟨(N1_2_3_4 h_18.ok), ?_⟩
 refine qT rfl rfl (fun wq hS => R.assign (v := .nilFunc) rfl) ?_
 refine WT.nil (thn_n (WP.seq (WP.block (WP.seq (WP.reg ?_)))))
 refine qM (pO ob 0) rfl rfl ?_
 refine WL.call Tryz.call72 rfl rfl (c_mth id ob mp ms hms da dn dc u la ln lc _ (h_18.argR M4)) rfl ?_
 rintro _ w_20 ⟨rfl, hc_19⟩
 have h_21 := h_18.same hc_19
 refine qV rfl (R.not (b := true) rfl) (qA (.bool false) rfl rfl ?_)
 refine WL.nil (thn_n ?_)
 refine WP.condF rfl ?_
 refine WP.seq (WP.reg ?_)
 refine qM .nilFunc rfl rfl (qV rfl (R.eqNilN rfl rfl underlying131) (qM (.bool true) rfl rfl ?_))
 refine WL.skip rfl rfl rfl ?_
 refine WL.skip rfl rfl rfl ?_
 refine WL.skip rfl rfl rfl ?_
 refine qV rfl (R.pickT (v := (.bool true)) rfl rfl) (qA (.bool true) rfl rfl ?_)
 refine WL.nil (thn_n ?_)
 refine WP.condT rfl ?_
 refine WP.seq (WP.reg ?_)
 refine qV rfl (R.buildA (vs := []) (cs := (List.replicate 32 (0 : UInt8)).map vu8) underlying23 sizeOf5 (zv typeInfo23 rfl) rfl rfl) ?_
 refine WL.storeA (b := b_7) (off := 0) [] [(32, (List.replicate 32 (0 : UInt8)).map vu8)] [(32, (List.replicate 32 (0 : UInt8)).map vu8)] [] (ys := (List.replicate 32 (0 : UInt8)).map vu8) h_21 rfl rfl sizeOf23 Y1 (by decide) rfl rfl rfl rfl rfl rfl (sC (s8 lr) sN) (fun w_22 h_23 => ?_)
 refine qA (vi 2) rfl rfl ?_
 refine WL.nil (thn_n (WP.ret (inb_r (thn_r ?_))))
 refine ret_of results34 (RV.cell rfl (h_23.loadA (cs := (List.replicate 32 (0 : UInt8)).map vu8) isAgg23 sizeOf23 M1 rfl rfl) (RV.tmp (v := (vi 2)) rfl RV.nil)) ?_
 exact ⟨rfl, h_23.chgS⟩

theorem c_NextNo_2 (id : Bool) (ob mp : Nat) (ms : List UInt8) (hms : ms.length = 32) (da : Option Addr) (dn dc u : Nat) (la : Option Addr) (ln lc : Nat) (md : List UInt8) (hmd : md.length = 32) (val : List UInt8) (hvl : val.length = 32) (pg : Int) (hbp : -9223372036854775808 ≤ pg ∧ pg < 9223372036854775808) (gr : List UInt8) (hgr : gr.length = 128) (pc : UInt64) (rg : List UInt64) (hrg : rg.length = 8) (run : Bool) (hm : mayB 2 val pg gr pc rg run = false) (w : World) (hcb : (Ent.blk ob .ro 118 [(1, [(.bool id)]), (32, ms.map vu8), (1, [(.slice da dn dc)]), (1, [(vi ((u : Nat) : Int))]), (1, [(.map (some mp))]), (1, [(.slice la ln lc)])]).ok w.heap.size w) :
  Cs Tryz.prog 34 [(.pointer (some ⟨ob, 0, none⟩)), (.agg ⟨md.map vu8⟩), (.agg ⟨flat [(1, [(vi 2)]), (32, val.map vu8), (1, [(vi pg)]), (128, gr.map vu8), (1, [(vu64 pc)]), (8, rg.map vu64), (1, [(.bool run)])]⟩)].toArray w (fun v w1 => v = (.tuple [(.agg ⟨(List.replicate 32 (0 : UInt8)).map vu8⟩), (vi 2)].toArray) ∧ Chg w w1 []) := by
 refine Cs.of (n := 34) (args := [(pO ob 0), (.agg ⟨md.map vu8⟩), (.agg ⟨flat [(1, [(vi 2)]), (32, val.map vu8), (1, [(vi pg)]), (128, gr.map vu8), (1, [(vu64 pc)]), (8, rg.map vu64), (1, [(.bool run)])]⟩)]) Tryz.func34 rfl rfl rfl ?_
 have h_0 := HP.init w
 have h_00 := h_0.old hcb (fun f hf => by cases hf)
 refine WP.seq (WP.reg ?_)
 refine WL.box (v := (.agg ⟨md.map vu8⟩)) (segs := [(32, md.map vu8)]) h_00 rfl rfl (sC (s8 hmd) sN) rfl (fun b_1 w_2 h_3 => ?_)
 refine WL.box (v := (.agg ⟨flat [(1, [(vi 2)]), (32, val.map vu8), (1, [(vi pg)]), (128, gr.map vu8), (1, [(vu64 pc)]), (8, rg.map vu64), (1, [(.bool run)])]⟩)) (segs := [(1, [(vi 2)]), (32, val.map vu8), (1, [(vi pg)]), (128, gr.map vu8), (1, [(vu64 pc)]), (8, rg.map vu64), (1, [(.bool run)])]) h_3 rfl rfl (sC sV (sC (s8 hvl) (sC sV (sC (s8 hgr) (sC sV (sC (SOk.u64 hrg) (sC sV sN))))))) rfl (fun b_4 w_5 h_6 => ?_)
 refine WL.alloc (segs := [(32, (List.replicate 32 (0 : UInt8)).map vu8)]) h_6 (zv typeInfo23 rfl) rfl (sC (s8 lr) sN) rfl (fun b_7 w_8 h_9 => ?_)
 refine qA (vi 0) rfl rfl ?_
 refine WL.nil (thn_n (WP.seq ?_))
 refine WP.drawT (SL w.heap.size [.blk b_7 .nw 23 [(32, (List.replicate 32 (0 : UInt8)).map vu8)], .blk b_4 .nw 70 [(1, [(vi 2)]), (32, val.map vu8), (1, [(vi pg)]), (128, gr.map vu8), (1, [(vu64 pc)]), (8, rg.map vu64), (1, [(.bool run)])], .blk b_1 .nw 23 [(32, md.map vu8)], .blk ob .ro 118 [(1, [(.bool id)]), (32, ms.map vu8), (1, [(.slice da dn dc)]), (1, [(vn u)]), (1, [(.map (some mp))]), (1, [(.slice la ln lc)])]]) (.q 1 (.q 2 (.s 0 (.s 3 (.q 4 .nil))))) (by kernel_rfl) (by kernel_rfl) rfl (by kernel_rfl) (fun w_10 hc_12 => (SL.cons ((h_9.same hc_12).ok _ M0) (SL.cons ((h_9.same hc_12).ok _ M1) (SL.cons ((h_9.same hc_12).ok _ M2) (SL.cons ((h_9.same hc_12).ok _ M3) (SL.nil _ _)))))) (fun w_10 hc_12 => ?_)
 have h_11 := h_9.same hc_12
 refine qT rfl rfl (fun wq hS => R.fieldAddr (off' := 0) rfl underlying70 rfl sizeOf68 rfl rfl) ?_
 refine qT rfl rfl (fun wq hS => R.load1 rfl isAgg68 (hS _ M1) Sg.h) ?_
 refine WT.s (oN rfl ?_)
 refine WL.call Tryz.call77 rfl rfl (c_addings _) rfl ?_
 rintro _ w_14 ⟨b_13, rfl, hc_15, hm_16, hb_17⟩
 have h_18 := h_11.pushObj hc_15 hm_16 hb_17
 refine WL.nil ?_
 refine ⟨(N1_2_3_4 h_18.ok), ?_⟩
 refine WT.s (oN rfl ?_)
 refine qV rfl (R.lookup1 (r := (some (0, (Value.func (Fn.func 110) [].toArray [].toArray)))) (z := .nilFunc) (v := (Value.func (Fn.func 110) [].toArray [].toArray)) rfl rfl underlying132 (h_18.ok _ M0) (Ck.int underlying68) (Fk.int underlying68 rfl) (zv typeInfo131 rfl) rfl) ?_
 refine WL.nil ?_
 refine ⟨(N1_2_3_4 h_18.ok), ?_⟩
 refine qT rfl rfl (fun wq hS => R.assign (v := (Value.func (Fn.func 110) [].toArray [].toArray)) rfl) ?_
 refine WT.nil (thn_n (WP.seq (WP.block (WP.seq (WP.reg ?_)))))
 refine qM (pO ob 0) rfl rfl ?_
 refine WL.call Tryz.call72 rfl rfl (c_mth id ob mp ms hms da dn dc u la ln lc _ (h_18.argR M4)) rfl ?_
 rintro _ w_20 ⟨rfl, hc_19⟩
 have h_21 := h_18.same hc_19
 refine qV rfl (R.not (b := true) rfl) (qA (.bool false) rfl rfl ?_)
 refine WL.nil (thn_n ?_)
 refine WP.condF rfl ?_
 refine WP.seq (WP.reg ?_)
 refine qM (Value.func (Fn.func 110) [].toArray [].toArray) rfl rfl (qV rfl (R.eqNilF rfl rfl underlying131) (qM (.bool false) rfl rfl ?_))
 refine WL.want rfl rfl ?_
 refine qV rfl (R.loadA [] [(1, [(vi 2)]), (32, val.map vu8), (1, [(vi pg)]), (128, gr.map vu8), (1, [(vu64 pc)]), (8, rg.map vu64), (1, [(.bool run)])] [] (cs := flat [(1, [(vi 2)]), (32, val.map vu8), (1, [(vi pg)]), (128, gr.map vu8), (1, [(vu64 pc)]), (8, rg.map vu64), (1, [(.bool run)])]) rfl isAgg70 sizeOf70 (h_21.ok _ M2) rfl rfl rfl rfl) ?_
 refine WL.want rfl rfl ?_
 refine WL.call Tryz.call35 rfl rfl (c_MayA 2 (by decide) val hvl pg (by omega) gr hgr pc rg hrg run _ ) rfl ?_
 rintro _ w_23 ⟨rfl, hc_22⟩
 have h_24 := h_21.same hc_22
 refine WL.want rfl rfl ?_
 refine qV rfl (R.not (b := false) (congrArg Value.bool hm)) (qV rfl (R.pickF (v := (.bool true)) rfl rfl) (qA (.bool true) rfl rfl ?_))
 refine WL.nil (thn_n ?_)
 refine WP.condT rfl ?_
 refine WP.seq (WP.reg ?_)
 refine qV rfl (R.buildA (vs := []) (cs := (List.replicate 32 (0 : UInt8)).map vu8) underlying23 sizeOf5 (zv typeInfo23 rfl) rfl rfl) ?_
 refine WL.storeA (b := b_7) (off := 0) [] [(32, (List.replicate 32 (0 : UInt8)).map vu8)] [(32, (List.replicate 32 (0 : UInt8)).map vu8)] [] (ys := (List.replicate 32 (0 : UInt8)).map vu8) h_24 rfl rfl sizeOf23 Y1 (by decide) rfl rfl rfl rfl rfl rfl (sC (s8 lr) sN) (fun w_25 h_26 => ?_)
 refine qA (vi 2) rfl rfl ?_
 refine WL.nil (thn_n (WP.ret (inb_r (thn_r ?_))))
 refine ret_of results34 (RV.cell rfl (h_26.loadA (cs := (List.replicate 32 (0 : UInt8)).map vu8) isAgg23 sizeOf23 M1 rfl rfl) (RV.tmp (v := (vi 2)) rfl RV.nil)) ?_
 exact ⟨rfl, h_26.chgS⟩

theorem c_NextNo_3 (id : Bool) (ob mp : Nat) (ms : List UInt8) (hms : ms.length = 32) (da : Option Addr) (dn dc u : Nat) (la : Option Addr) (ln lc : Nat) (md : List UInt8) (hmd : md.length = 32) (val : List UInt8) (hvl : val.length = 32) (pg : Int) (hbp : -9223372036854775808 ≤ pg ∧ pg < 9223372036854775808) (gr : List UInt8) (hgr : gr.length = 128) (pc : UInt64) (rg : List UInt64) (hrg : rg.length = 8) (run : Bool) (hm : mayB 3 val pg gr pc rg run = false) (w : World) (hcb : (Ent.blk ob .ro 118 [(1, [(.bool id)]), (32, ms.map vu8), (1, [(.slice da dn dc)]), (1, [(vi ((u : Nat) : Int))]), (1, [(.map (some mp))]), (1, [(.slice la ln lc)])]).ok w.heap.size w) :
  Cs Tryz.prog 34 [(.pointer (some ⟨ob, 0, none⟩)), (.agg ⟨md.map vu8⟩), (.agg ⟨flat [(1, [(vi 3)]), (32, val.map vu8), (1, [(vi pg)]), (128, gr.map vu8), (1, [(vu64 pc)]), (8, rg.map vu64), (1, [(.bool run)])]⟩)].toArray w (fun v w1 => v = (.tuple [(.agg ⟨(List.replicate 32 (0 : UInt8)).map vu8⟩), (vi 2)].toArray) ∧ Chg w w1 []) := by
 refine Cs.of (n := 34) (args := [(pO ob 0), (.agg ⟨md.map vu8⟩), (.agg ⟨flat [(1, [(vi 3)]), (32, val.map vu8), (1, [(vi pg)]), (128, gr.map vu8), (1, [(vu64 pc)]), (8, rg.map vu64), (1, [(.bool run)])]⟩)]) Tryz.func34 rfl rfl rfl ?_
 have h_0 := HP.init w
 have h_00 := h_0.old hcb (fun f hf => by cases hf)
 refine WP.seq (WP.reg ?_)
 refine WL.box (v := (.agg ⟨md.map vu8⟩)) (segs := [(32, md.map vu8)]) h_00 rfl rfl (sC (s8 hmd) sN) rfl (fun b_1 w_2 h_3 => ?_)
 refine WL.box (v := (.agg ⟨flat [(1, [(vi 3)]), (32, val.map vu8), (1, [(vi pg)]), (128, gr.map vu8), (1, [(vu64 pc)]), (8, rg.map vu64), (1, [(.bool run)])]⟩)) (segs := [(1, [(vi 3)]), (32, val.map vu8), (1, [(vi pg)]), (128, gr.map vu8), (1, [(vu64 pc)]), (8, rg.map vu64), (1, [(.bool run)])]) h_3 rfl rfl (sC sV (sC (s8 hvl) (sC sV (sC (s8 hgr) (sC sV (sC (SOk.u64 hrg) (sC sV sN))))))) rfl (fun b_4 w_5 h_6 => ?_)
 refine WL.alloc (segs := [(32, (List.replicate 32 (0 : UInt8)).map vu8)]) h_6 (zv typeInfo23 rfl) rfl (sC (s8 lr) sN) rfl (fun b_7 w_8 h_9 => ?_)
 refine qA (vi 0) rfl rfl ?_
 refine WL.nil (thn_n (WP.seq ?_))
 refine WP.drawT (SL w.heap.size [.blk b_7 .nw 23 [(32, (List.replicate 32 (0 : UInt8)).map vu8)], .blk b_4 .nw 70 [(1, [(vi 3)]), (32, val.map vu8), (1, [(vi pg)]), (128, gr.map vu8), (1, [(vu64 pc)]), (8, rg.map vu64), (1, [(.bool run)])], .blk b_1 .nw 23 [(32, md.map vu8)], .blk ob .ro 118 [(1, [(.bool id)]), (32, ms.map vu8), (1, [(.slice da dn dc)]), (1, [(vn u)]), (1, [(.map (some mp))]), (1, [(.slice la ln lc)])]]) (.q 1 (.q 2 (.s 0 (.s 3 (.q 4 .nil))))) (by kernel_rfl) (by kernel_rfl) rfl (by kernel_rfl) (fun w_10 hc_12 => (SL.cons ((h_9.same hc_12).ok _ M0) (SL.cons ((h_9.same hc_12).ok _ M1) (SL.cons ((h_9.same hc_12).ok _ M2) (SL.cons ((h_9.same hc_12).ok _ M3) (SL.nil _ _)))))) (fun w_10 hc_12 => ?_)
 have h_11 := h_9.same hc_12
 refine qT rfl rfl (fun wq hS => R.fieldAddr (off' := 0) rfl underlying70 rfl sizeOf68 rfl rfl) ?_
 refine qT rfl rfl (fun wq hS => R.load1 rfl isAgg68 (hS _ M1) Sg.h) ?_
 refine WT.s (oN rfl ?_)
 refine WL.call Tryz.call77 rfl rfl (c_addings _) rfl ?_
 rintro _ w_14 ⟨b_13, rfl, hc_15, hm_16, hb_17⟩
 have h_18 := h_11.pushObj hc_15 hm_16 hb_17
 refine WL.nil ?_
 refine ⟨(N1_2_3_4 h_18.ok), ?_⟩
 refine WT.s (oN rfl ?_)
 refine qV rfl (R.lookup1 (r := (some (1, (Value.func (Fn.func 111) [].toArray [].toArray)))) (z := .nilFunc) (v := (Value.func (Fn.func 111) [].toArray [].toArray)) rfl rfl underlying132 (h_18.ok _ M0) (Ck.int underlying68) (Fk.int underlying68 rfl) (zv typeInfo131 rfl) rfl) ?_
 refine WL.nil ?_
 refine ⟨(N1_2_3_4 h_18.ok), ?_⟩
 refine qT rfl rfl (fun wq hS => R.assign (v := (Value.func (Fn.func 111) [].toArray [].toArray)) rfl) ?_
 refine WT.nil (thn_n (WP.seq (WP.block (WP.seq (WP.reg ?_)))))
 refine qM (pO ob 0) rfl rfl ?_
 refine WL.call Tryz.call72 rfl rfl (c_mth id ob mp ms hms da dn dc u la ln lc _ (h_18.argR M4)) rfl ?_
 rintro _ w_20 ⟨rfl, hc_19⟩
 have h_21 := h_18.same hc_19
 refine qV rfl (R.not (b := true) rfl) (qA (.bool false) rfl rfl ?_)
 refine WL.nil (thn_n ?_)
 refine WP.condF rfl ?_
 refine WP.seq (WP.reg ?_)
 refine qM (Value.func (Fn.func 111) [].toArray [].toArray) rfl rfl (qV rfl (R.eqNilF rfl rfl underlying131) (qM (.bool false) rfl rfl ?_))
 refine WL.want rfl rfl ?_
 refine qV rfl (R.loadA [] [(1, [(vi 3)]), (32, val.map vu8), (1, [(vi pg)]), (128, gr.map vu8), (1, [(vu64 pc)]), (8, rg.map vu64), (1, [(.bool run)])] [] (cs := flat [(1, [(vi 3)]), (32, val.map vu8), (1, [(vi pg)]), (128, gr.map vu8), (1, [(vu64 pc)]), (8, rg.map vu64), (1, [(.bool run)])]) rfl isAgg70 sizeOf70 (h_21.ok _ M2) rfl rfl rfl rfl) ?_
 refine WL.want rfl rfl ?_
 refine WL.call Tryz.call35 rfl rfl (c_MayA 3 (by decide) val hvl pg (by omega) gr hgr pc rg hrg run _ ) rfl ?_
 rintro _ w_23 ⟨rfl, hc_22⟩
 have h_24 := h_21.same hc_22
 refine WL.want rfl rfl ?_
 refine qV rfl (R.not (b := false) (congrArg Value.bool hm)) (qV rfl (R.pickF (v := (.bool true)) rfl rfl) (qA (.bool true) rfl rfl ?_))
 refine WL.nil (thn_n ?_)
 refine WP.condT rfl ?_
 refine WP.seq (WP.reg ?_)
 refine qV rfl (R.buildA (vs := []) (cs := (List.replicate 32 (0 : UInt8)).map vu8) underlying23 sizeOf5 (zv typeInfo23 rfl) rfl rfl) ?_
 refine WL.storeA (b := b_7) (off := 0) [] [(32, (List.replicate 32 (0 : UInt8)).map vu8)] [(32, (List.replicate 32 (0 : UInt8)).map vu8)] [] (ys := (List.replicate 32 (0 : UInt8)).map vu8) h_24 rfl rfl sizeOf23 Y1 (by decide) rfl rfl rfl rfl rfl rfl (sC (s8 lr) sN) (fun w_25 h_26 => ?_)
 refine qA (vi 2) rfl rfl ?_
 refine WL.nil (thn_n (WP.ret (inb_r (thn_r ?_))))
 refine ret_of results34 (RV.cell rfl (h_26.loadA (cs := (List.replicate 32 (0 : UInt8)).map vu8) isAgg23 sizeOf23 M1 rfl rfl) (RV.tmp (v := (vi 2)) rfl RV.nil)) ?_
 exact ⟨rfl, h_26.chgS⟩

theorem c_NextNo_X (id : Bool) (ob mp : Nat) (ms : List UInt8) (hms : ms.length = 32) (da : Option Addr) (dn dc u : Nat) (la : Option Addr) (ln lc : Nat) (md : List UInt8) (hmd : md.length = 32) (kd : Int) (hbk : -9223372036854775808 ≤ kd ∧ kd < 9223372036854775808) (val : List UInt8) (hvl : val.length = 32) (pg : Int) (hbp : -9223372036854775808 ≤ pg ∧ pg < 9223372036854775808) (gr : List UInt8) (hgr : gr.length = 128) (pc : UInt64) (rg : List UInt64) (hrg : rg.length = 8) (run : Bool) (hk2 : ¬ kd = 2) (hk3 : ¬ kd = 3) (w : World) (hcb : (Ent.blk ob .ro 118 [(1, [(.bool id)]), (32, ms.map vu8), (1, [(.slice da dn dc)]), (1, [(vi ((u : Nat) : Int))]), (1, [(.map (some mp))]), (1, [(.slice la ln lc)])]).ok w.heap.size w) :
  Cs Tryz.prog 34 [(.pointer (some ⟨ob, 0, none⟩)), (.agg ⟨md.map vu8⟩), (.agg ⟨flat [(1, [(vi kd)]), (32, val.map vu8), (1, [(vi pg)]), (128, gr.map vu8), (1, [(vu64 pc)]), (8, rg.map vu64), (1, [(.bool run)])]⟩)].toArray w (fun v w1 => v = (.tuple [(.agg ⟨(List.replicate 32 (0 : UInt8)).map vu8⟩), (vi 2)].toArray) ∧ Chg w w1 []) := by
 refine Cs.of (n := 34) (args := [(pO ob 0), (.agg ⟨md.map vu8⟩), (.agg ⟨flat [(1, [(vi kd)]), (32, val.map vu8), (1, [(vi pg)]), (128, gr.map vu8), (1, [(vu64 pc)]), (8, rg.map vu64), (1, [(.bool run)])]⟩)]) Tryz.func34 rfl rfl rfl ?_
 have h_0 := HP.init w
 have h_00 := h_0.old hcb (fun f hf => by cases hf)
 refine WP.seq (WP.reg ?_)
 refine WL.box (v := (.agg ⟨md.map vu8⟩)) (segs := [(32, md.map vu8)]) h_00 rfl rfl (sC (s8 hmd) sN) rfl (fun b_1 w_2 h_3 => ?_)
 refine WL.box (v := (.agg ⟨flat [(1, [(vi kd)]), (32, val.map vu8), (1, [(vi pg)]), (128, gr.map vu8), (1, [(vu64 pc)]), (8, rg.map vu64), (1, [(.bool run)])]⟩)) (segs := [(1, [(vi kd)]), (32, val.map vu8), (1, [(vi pg)]), (128, gr.map vu8), (1, [(vu64 pc)]), (8, rg.map vu64), (1, [(.bool run)])]) h_3 rfl rfl (sC sV (sC (s8 hvl) (sC sV (sC (s8 hgr) (sC sV (sC (SOk.u64 hrg) (sC sV sN))))))) rfl (fun b_4 w_5 h_6 => ?_)
 refine WL.alloc (segs := [(32, (List.replicate 32 (0 : UInt8)).map vu8)]) h_6 (zv typeInfo23 rfl) rfl (sC (s8 lr) sN) rfl (fun b_7 w_8 h_9 => ?_)
 refine qA (vi 0) rfl rfl ?_
 refine WL.nil (thn_n (WP.seq ?_))
 refine WP.drawT (SL w.heap.size [.blk b_7 .nw 23 [(32, (List.replicate 32 (0 : UInt8)).map vu8)], .blk b_4 .nw 70 [(1, [(vi kd)]), (32, val.map vu8), (1, [(vi pg)]), (128, gr.map vu8), (1, [(vu64 pc)]), (8, rg.map vu64), (1, [(.bool run)])], .blk b_1 .nw 23 [(32, md.map vu8)], .blk ob .ro 118 [(1, [(.bool id)]), (32, ms.map vu8), (1, [(.slice da dn dc)]), (1, [(vn u)]), (1, [(.map (some mp))]), (1, [(.slice la ln lc)])]]) (.q 1 (.q 2 (.s 0 (.s 3 (.q 4 .nil))))) (by kernel_rfl) (by kernel_rfl) rfl (by kernel_rfl) (fun w_10 hc_12 => (SL.cons ((h_9.same hc_12).ok _ M0) (SL.cons ((h_9.same hc_12).ok _ M1) (SL.cons ((h_9.same hc_12).ok _ M2) (SL.cons ((h_9.same hc_12).ok _ M3) (SL.nil _ _)))))) (fun w_10 hc_12 => ?_)
 have h_11 := h_9.same hc_12
 refine qT rfl rfl (fun wq hS => R.fieldAddr (off' := 0) rfl underlying70 rfl sizeOf68 rfl rfl) ?_
 refine qT rfl rfl (fun wq hS => R.load1 rfl isAgg68 (hS _ M1) Sg.h) ?_
 refine WT.s (oN rfl ?_)
 refine WL.call Tryz.call77 rfl rfl (c_addings _) rfl ?_
 rintro _ w_14 ⟨b_13, rfl, hc_15, hm_16, hb_17⟩
 have h_18 := h_11.pushObj hc_15 hm_16 hb_17
 refine WL.nil ?_
 refine ⟨(N1_2_3_4 h_18.ok), ?_⟩
 refine WT.s (oN rfl ?_)
 refine qV rfl (R.lookup1 (r := none) (z := .nilFunc) (v := .nilFunc) rfl rfl underlying132 (h_18.ok _ M0) (Ck.int underlying68) (Fk.int underlying68 (by have e2 : (kd == 2) = false := (by simpa using hk2); have e3 : (kd == 3) = false := (by simpa using hk3); simp [Instr.findNow, Instr.sameNow, e2, e3])) (zv typeInfo131 rfl) rfl) ?_
 refine WL.nil ?_
 refine ⟨(N1_2_3_4 h_18.ok), ?_⟩
 refine qT rfl rfl (fun wq hS => R.assign (v := .nilFunc) rfl) ?_
 refine WT.nil (thn_n (WP.seq (WP.block (WP.seq (WP.reg ?_)))))
 refine qM (pO ob 0) rfl rfl ?_
 refine WL.call Tryz.call72 rfl rfl (c_mth id ob mp ms hms da dn dc u la ln lc _ (h_18.argR M4)) rfl ?_
 rintro _ w_20 ⟨rfl, hc_19⟩
 have h_21 := h_18.same hc_19
 refine qV rfl (R.not (b := true) rfl) (qA (.bool false) rfl rfl ?_)
 refine WL.nil (thn_n ?_)
 refine WP.condF rfl ?_
 refine WP.seq (WP.reg ?_)
 refine qM .nilFunc rfl rfl (qV rfl (R.eqNilN rfl rfl underlying131) (qM (.bool true) rfl rfl ?_))
 refine WL.skip rfl rfl rfl ?_
 refine WL.skip rfl rfl rfl ?_
 refine WL.skip rfl rfl rfl ?_
 refine qV rfl (R.pickT (v := (.bool true)) rfl rfl) (qA (.bool true) rfl rfl ?_)
 refine WL.nil (thn_n ?_)
 refine WP.condT rfl ?_
 refine WP.seq (WP.reg ?_)
 refine qV rfl (R.buildA (vs := []) (cs := (List.replicate 32 (0 : UInt8)).map vu8) underlying23 sizeOf5 (zv typeInfo23 rfl) rfl rfl) ?_
 refine WL.storeA (b := b_7) (off := 0) [] [(32, (List.replicate 32 (0 : UInt8)).map vu8)] [(32, (List.replicate 32 (0 : UInt8)).map vu8)] [] (ys := (List.replicate 32 (0 : UInt8)).map vu8) h_21 rfl rfl sizeOf23 Y1 (by decide) rfl rfl rfl rfl rfl rfl (sC (s8 lr) sN) (fun w_22 h_23 => ?_)
 refine qA (vi 2) rfl rfl ?_
 refine WL.nil (thn_n (WP.ret (inb_r (thn_r ?_))))
 refine ret_of results34 (RV.cell rfl (h_23.loadA (cs := (List.replicate 32 (0 : UInt8)).map vu8) isAgg23 sizeOf23 M1 rfl rfl) (RV.tmp (v := (vi 2)) rfl RV.nil)) ?_
 exact ⟨rfl, h_23.chgS⟩

theorem c_NextNo (id : Bool) (ob mp : Nat) (ms : List UInt8) (hms : ms.length = 32) (da : Option Addr) (dn dc u : Nat) (la : Option Addr) (ln lc : Nat) (md : List UInt8) (hmd : md.length = 32) (kd : Int) (hbk : -9223372036854775808 ≤ kd ∧ kd < 9223372036854775808) (val : List UInt8) (hvl : val.length = 32) (pg : Int) (hbp : -9223372036854775808 ≤ pg ∧ pg < 9223372036854775808) (gr : List UInt8) (hgr : gr.length = 128) (pc : UInt64) (rg : List UInt64) (hrg : rg.length = 8) (run : Bool) (hm : kd = 1 ∨ mayB kd val pg gr pc rg run = false) (w : World) (hcb : (Ent.blk ob .ro 118 [(1, [(.bool id)]), (32, ms.map vu8), (1, [(.slice da dn dc)]), (1, [(vi ((u : Nat) : Int))]), (1, [(.map (some mp))]), (1, [(.slice la ln lc)])]).ok w.heap.size w) : Cs Tryz.prog 34 [(.pointer (some ⟨ob, 0, none⟩)), (.agg ⟨md.map vu8⟩), (.agg ⟨flat [(1, [(vi kd)]), (32, val.map vu8), (1, [(vi pg)]), (128, gr.map vu8), (1, [(vu64 pc)]), (8, rg.map vu64), (1, [(.bool run)])]⟩)].toArray w (fun v w1 => v = (.tuple [(.agg ⟨(List.replicate 32 (0 : UInt8)).map vu8⟩), (vi 2)].toArray) ∧ Chg w w1 []) := by
 by_cases k1 : kd = 1
 ·subst k1; exact c_NextNo_1 id ob mp ms hms da dn dc u la ln lc md hmd val hvl pg hbp gr hgr pc rg hrg run w hcb
 have hf : mayB kd val pg gr pc rg run = false := hm.resolve_left k1
 by_cases k2 : kd = 2
 ·subst k2; exact c_NextNo_2 id ob mp ms hms da dn dc u la ln lc md hmd val hvl pg hbp gr hgr pc rg hrg run hf w hcb
 by_cases k3 : kd = 3
 ·subst k3; exact c_NextNo_3 id ob mp ms hms da dn dc u la ln lc md hmd val hvl pg hbp gr hgr pc rg hrg run hf w hcb
 exact c_NextNo_X id ob mp ms hms da dn dc u la ln lc md hmd kd hbk val hvl pg hbp gr hgr pc rg hrg run k2 k3 w hcb

theorem c_rNext_2 {w00 : World} {L : List Ent} (id : Bool) (ob : Nat) (ms df : List UInt8) (hms : ms.length = 32) (da : Option Addr) (dn dc u : Nat) (hdf : df.length = 32 * dn) (la : Option Addr) (lc : Nat) (lx : List Value) (lg : Lg) (hu : u ≤ 1000000) (hlg : lg.length ≤ 1000000) (md : List UInt8) (hmd : md.length = 32) (pg : Nat) (h : pg < 128) (gr : List UInt8) (hgr : gr.length = 128) (w : World) (h_0 : HP w00 w (Ent.blk ob .nw 47 [(1, [(.bool id)]), (32, ms.map vu8), (1, [(.slice da dn dc)]), (1, [(vi ((u : Nat) : Int))]), (1, [(.slice la lg.length lc)])] :: Ent.row la lg.length lc 96 67 lx :: Ent.pin (sblks lx) (fun w => Lgs w lx lg) :: Ent.view da (df.map vu8) :: L)) :
  Cs Tryz.prog 37 [(.pointer (some ⟨ob, 0, none⟩)), (.agg ⟨md.map vu8⟩), (.agg ⟨flat [(1, [(vi 2)]), (32, (List.replicate 32 (0 : UInt8)).map vu8), (1, [(vi ((pg : Nat) : Int))]), (128, gr.map vu8), (1, [(vu64 0)]), (8, (List.replicate 8 (0 : UInt64)).map vu64), (1, [(.bool false)])]⟩)].toArray w (fun v w1 => ∃ la' lc' lx', v = (.agg ⟨(anD id df dn u lg (1, (List.replicate 32 (0 : UInt8)), 2, [md, leN 8 (UInt64.ofNat pg).toNat, gr].flatten)).map vu8⟩) ∧ HP w00 w1 (Ent.blk ob .nw 47 [(1, [(.bool id)]), (32, ms.map vu8), (1, [(.slice da dn dc)]), (1, [(vi (((anU id u lg (1, (List.replicate 32 (0 : UInt8)), 2, [md, leN 8 (UInt64.ofNat pg).toNat, gr].flatten)) : Nat) : Int))]), (1, [(.slice la' ((anL id df dn u lg (1, (List.replicate 32 (0 : UInt8)), 2, [md, leN 8 (UInt64.ofNat pg).toNat, gr].flatten)).length) lc')])] :: Ent.row la' ((anL id df dn u lg (1, (List.replicate 32 (0 : UInt8)), 2, [md, leN 8 (UInt64.ofNat pg).toNat, gr].flatten)).length) lc' 96 67 lx' :: Ent.pin (sblks lx') (fun w => Lgs w lx' (anL id df dn u lg (1, (List.replicate 32 (0 : UInt8)), 2, [md, leN 8 (UInt64.ofNat pg).toNat, gr].flatten))) :: Ent.view da (df.map vu8) :: L)) := by
 refine Cs.of (n := 22) (args := [(pO ob 0), (.agg ⟨md.map vu8⟩), (.agg ⟨flat [(1, [(vi 2)]), (32, (List.replicate 32 (0 : UInt8)).map vu8), (1, [(vn pg)]), (128, gr.map vu8), (1, [(vu64 0)]), (8, (List.replicate 8 (0 : UInt64)).map vu64), (1, [(.bool false)])]⟩)]) Tryz.func37 rfl rfl rfl ?_
 refine WP.seq (WP.reg ?_)
 refine WL.box (v := (.agg ⟨md.map vu8⟩)) (segs := [(32, md.map vu8)]) h_0 rfl rfl (sC (s8 hmd) sN) rfl (fun b_1 w_2 h_3 => ?_)
 refine WL.box (v := (.agg ⟨flat [(1, [(vi 2)]), (32, (List.replicate 32 (0 : UInt8)).map vu8), (1, [(vn pg)]), (128, gr.map vu8), (1, [(vu64 0)]), (8, (List.replicate 8 (0 : UInt64)).map vu64), (1, [(.bool false)])]⟩)) (segs := [(1, [(vi 2)]), (32, (List.replicate 32 (0 : UInt8)).map vu8), (1, [(vn pg)]), (128, gr.map vu8), (1, [(vu64 0)]), (8, (List.replicate 8 (0 : UInt64)).map vu64), (1, [(.bool false)])]) h_3 rfl rfl (sC sV (sC (s8 lr) (sC sV (sC (s8 hgr) (sC sV (sC (SOk.u64 lr) (sC sV sN))))))) rfl (fun b_4 w_5 h_6 => ?_)
 refine WL.alloc (segs := [(32, (List.replicate 32 (0 : UInt8)).map vu8)]) h_6 (zv typeInfo23 rfl) rfl (sC (s8 lr) sN) rfl (fun b_7 w_8 h_9 => ?_)
 refine WL.nil (thn_n (WP.seq (WP.seq (WP.reg ?_))))
 refine qV rfl (R.fieldAddr (off' := 0) rfl underlying70 rfl sizeOf68 rfl rfl) (qV rfl (R.load1 rfl isAgg68 (h_9.ok _ M1) Sg.h) (qV rfl (R.bin rfl rfl (bi_eql (r := true) (by decide))) ?_))
 refine WL.nil (thn_n ?_)
 refine WP.condT rfl ?_
 refine WP.seq (WP.reg ?_)
 refine qM (pO ob 0) rfl rfl (qV rfl (R.loadA [] [(32, md.map vu8)] [] (cs := md.map vu8) rfl isAgg23 sizeOf23 (h_9.ok _ M2) rfl rfl rfl rfl) (qV rfl (R.fieldAddr (off' := 33) rfl underlying70 rfl sizeOf3 rfl rfl) (qV rfl (R.load1 rfl isAgg3 (h_9.ok _ M1) (Sg.t rfl (Sg.t rfl Sg.h))) (qV rfl (R.fieldAddr (off' := 34) rfl underlying70 rfl sizeOf29 rfl rfl) (qV rfl (R.loadA [(1, [(vi 2)]), (32, (List.replicate 32 (0 : UInt8)).map vu8), (1, [(vn pg)])] [(128, gr.map vu8)] [(1, [(vu64 0)]), (8, (List.replicate 8 (0 : UInt64)).map vu64), (1, [(.bool false)])] (cs := gr.map vu8) rfl isAgg29 sizeOf29 (h_9.ok _ M1) rfl rfl rfl rfl) ?_)))))
 have h_13 := (((h_9.up J6).up J6).up J6).up J6
 have h32_w_17 := (Lgs.ok32 (h_13.ok _ M2).1)
 refine WL.call Tryz.call30 rfl rfl (c_rData id ob ms df hms da dn dc u hdf la lc lx lg hu hlg md gr hmd hgr pg (by omega) _ h_13) rfl ?_
 rintro _ w_17 ⟨la_14, lc_15, lx_16, rfl, h_18⟩
 refine WL.storeA (b := b_7) (off := 0) [] [(32, (List.replicate 32 (0 : UInt8)).map vu8)] [(32, (anD id df dn u lg (1, (List.replicate 32 (0 : UInt8)), 2, [md, leN 8 (UInt64.ofNat pg).toNat, gr].flatten)).map vu8)] [] (ys := (anD id df dn u lg (1, (List.replicate 32 (0 : UInt8)), 2, [md, leN 8 (UInt64.ofNat pg).toNat, gr].flatten)).map vu8) h_18 rfl rfl sizeOf23 Y4 (by decide) rfl rfl rfl rfl rfl rfl (sC (s8 (anD_len hdf h32_w_17)) sN) (fun w_19 h_20 => ?_)
 refine WL.nil (thn_n (WP.ret (thn_r ?_)))
 refine ret_of results37 (RV.cell rfl (h_20.loadA (cs := (anD id df dn u lg (1, (List.replicate 32 (0 : UInt8)), 2, [md, leN 8 (UInt64.ofNat pg).toNat, gr].flatten)).map vu8) isAgg23 sizeOf23 M4 rfl rfl) RV.nil) ?_
 have h_30 := (((((((((h_20.up J4).drop rfl).up J4).drop rfl).up J4).drop rfl).up J3).up J3).up J3).up J3
 exact ⟨_, _, _, rfl, h_30⟩

theorem c_rNext_3 {w00 : World} {L : List Ent} (id : Bool) (ob : Nat) (ms df : List UInt8) (hms : ms.length = 32) (da : Option Addr) (dn dc u : Nat) (hdf : df.length = 32 * dn) (la : Option Addr) (lc : Nat) (lx : List Value) (lg : Lg) (hu : u ≤ 1000000) (hlg : lg.length ≤ 1000000) (md : List UInt8) (hmd : md.length = 32) (pc : UInt64) (rg : List UInt64) (hrg : rg.length = 8) (run : Bool) (h : decide (pc % 8 = 0) = true) (w : World) (h_0 : HP w00 w (Ent.blk ob .nw 47 [(1, [(.bool id)]), (32, ms.map vu8), (1, [(.slice da dn dc)]), (1, [(vi ((u : Nat) : Int))]), (1, [(.slice la lg.length lc)])] :: Ent.row la lg.length lc 96 67 lx :: Ent.pin (sblks lx) (fun w => Lgs w lx lg) :: Ent.view da (df.map vu8) :: L)) :
  Cs Tryz.prog 37 [(.pointer (some ⟨ob, 0, none⟩)), (.agg ⟨md.map vu8⟩), (.agg ⟨flat [(1, [(vi 3)]), (32, (List.replicate 32 (0 : UInt8)).map vu8), (1, [(vi 0)]), (128, (List.replicate 128 (0 : UInt8)).map vu8), (1, [(vu64 pc)]), (8, rg.map vu64), (1, [(.bool run)])]⟩)].toArray w (fun v w1 => ∃ la' lc' lx', v = (.agg ⟨(anD id df dn u lg (1, (List.replicate 32 (0 : UInt8)), 3, [md, recB pc rg run].flatten)).map vu8⟩) ∧ HP w00 w1 (Ent.blk ob .nw 47 [(1, [(.bool id)]), (32, ms.map vu8), (1, [(.slice da dn dc)]), (1, [(vi (((anU id u lg (1, (List.replicate 32 (0 : UInt8)), 3, [md, recB pc rg run].flatten)) : Nat) : Int))]), (1, [(.slice la' ((anL id df dn u lg (1, (List.replicate 32 (0 : UInt8)), 3, [md, recB pc rg run].flatten)).length) lc')])] :: Ent.row la' ((anL id df dn u lg (1, (List.replicate 32 (0 : UInt8)), 3, [md, recB pc rg run].flatten)).length) lc' 96 67 lx' :: Ent.pin (sblks lx') (fun w => Lgs w lx' (anL id df dn u lg (1, (List.replicate 32 (0 : UInt8)), 3, [md, recB pc rg run].flatten))) :: Ent.view da (df.map vu8) :: L)) := by
 refine Cs.of (n := 22) (args := [(pO ob 0), (.agg ⟨md.map vu8⟩), (.agg ⟨flat [(1, [(vi 3)]), (32, (List.replicate 32 (0 : UInt8)).map vu8), (1, [(vi 0)]), (128, (List.replicate 128 (0 : UInt8)).map vu8), (1, [(vu64 pc)]), (8, rg.map vu64), (1, [(.bool run)])]⟩)]) Tryz.func37 rfl rfl rfl ?_
 refine WP.seq (WP.reg ?_)
 refine WL.box (v := (.agg ⟨md.map vu8⟩)) (segs := [(32, md.map vu8)]) h_0 rfl rfl (sC (s8 hmd) sN) rfl (fun b_1 w_2 h_3 => ?_)
 refine WL.box (v := (.agg ⟨flat [(1, [(vi 3)]), (32, (List.replicate 32 (0 : UInt8)).map vu8), (1, [(vi 0)]), (128, (List.replicate 128 (0 : UInt8)).map vu8), (1, [(vu64 pc)]), (8, rg.map vu64), (1, [(.bool run)])]⟩)) (segs := [(1, [(vi 3)]), (32, (List.replicate 32 (0 : UInt8)).map vu8), (1, [(vi 0)]), (128, (List.replicate 128 (0 : UInt8)).map vu8), (1, [(vu64 pc)]), (8, rg.map vu64), (1, [(.bool run)])]) h_3 rfl rfl (sC sV (sC (s8 lr) (sC sV (sC (s8 lr) (sC sV (sC (SOk.u64 hrg) (sC sV sN))))))) rfl (fun b_4 w_5 h_6 => ?_)
 refine WL.alloc (segs := [(32, (List.replicate 32 (0 : UInt8)).map vu8)]) h_6 (zv typeInfo23 rfl) rfl (sC (s8 lr) sN) rfl (fun b_7 w_8 h_9 => ?_)
 refine WL.nil (thn_n (WP.seq (WP.seq (WP.reg ?_))))
 refine qV rfl (R.fieldAddr (off' := 0) rfl underlying70 rfl sizeOf68 rfl rfl) (qV rfl (R.load1 rfl isAgg68 (h_9.ok _ M1) Sg.h) (qV rfl (R.bin rfl rfl (bi_eql (r := false) (by decide))) ?_))
 refine WL.nil (thn_n ?_)
 refine WP.condF rfl ?_
 refine WP.skip (thn_n (WP.seq (WP.reg ?_)))
 refine qM (pO ob 0) rfl rfl (qV rfl (R.loadA [] [(32, md.map vu8)] [] (cs := md.map vu8) rfl isAgg23 sizeOf23 (h_9.ok _ M2) rfl rfl rfl rfl) (qV rfl (R.fieldAddr (off' := 162) rfl underlying70 rfl sizeOf57 rfl rfl) (qV rfl (R.loadA [(1, [(vi 3)]), (32, (List.replicate 32 (0 : UInt8)).map vu8), (1, [(vi 0)]), (128, (List.replicate 128 (0 : UInt8)).map vu8)] [(1, [(vu64 pc)]), (8, rg.map vu64), (1, [(.bool run)])] [] (cs := flat [(1, [(vu64 pc)]), (8, rg.map vu64), (1, [(.bool run)])]) rfl isAgg57 sizeOf57 (h_9.ok _ M1) rfl rfl rfl rfl) ?_)))
 have h_13 := (((h_9.up J6).up J6).up J6).up J6
 have h32_w_17 := (Lgs.ok32 (h_13.ok _ M2).1)
 refine WL.call Tryz.call33 rfl rfl (c_rRec id ob ms df hms da dn dc u hdf la lc lx lg hu hlg md hmd pc rg hrg run _ h_13) rfl ?_
 rintro _ w_17 ⟨la_14, lc_15, lx_16, rfl, h_18⟩
 refine WL.storeA (b := b_7) (off := 0) [] [(32, (List.replicate 32 (0 : UInt8)).map vu8)] [(32, (anD id df dn u lg (1, (List.replicate 32 (0 : UInt8)), 3, [md, recB pc rg run].flatten)).map vu8)] [] (ys := (anD id df dn u lg (1, (List.replicate 32 (0 : UInt8)), 3, [md, recB pc rg run].flatten)).map vu8) h_18 rfl rfl sizeOf23 Y4 (by decide) rfl rfl rfl rfl rfl rfl (sC (s8 (anD_len hdf h32_w_17)) sN) (fun w_19 h_20 => ?_)
 refine WL.nil (thn_n (WP.ret ?_))
 refine ret_of results37 (RV.cell rfl (h_20.loadA (cs := (anD id df dn u lg (1, (List.replicate 32 (0 : UInt8)), 3, [md, recB pc rg run].flatten)).map vu8) isAgg23 sizeOf23 M4 rfl rfl) RV.nil) ?_
 have h_30 := (((((((((h_20.up J4).drop rfl).up J4).drop rfl).up J4).drop rfl).up J3).up J3).up J3).up J3
 exact ⟨_, _, _, rfl, h_30⟩

theorem c_rNextA {w00 : World} {L : List Ent} (id : Bool) (ob : Nat) (ms df : List UInt8) (hms : ms.length = 32) (da : Option Addr) (dn dc u : Nat) (hdf : df.length = 32 * dn) (la : Option Addr) (lc : Nat) (lx : List Value) (lg : Lg) (hu : u ≤ 1000000) (hlg : lg.length ≤ 1000000) (md : List UInt8) (hmd : md.length = 32) (kd : Int) (hbk : -9223372036854775808 ≤ kd ∧ kd < 9223372036854775808) (val : List UInt8) (hvl : val.length = 32) (pg : Int) (hbp : -9223372036854775808 ≤ pg ∧ pg < 9223372036854775808) (gr : List UInt8) (hgr : gr.length = 128) (pc : UInt64) (rg : List UInt64) (hrg : rg.length = 8) (run : Bool) (hm : mayB kd val pg gr pc rg run = true) (hk : kd ≠ 1) (w : World) (h_0 : HP w00 w (Ent.blk ob .nw 47 [(1, [(.bool id)]), (32, ms.map vu8), (1, [(.slice da dn dc)]), (1, [(vi ((u : Nat) : Int))]), (1, [(.slice la lg.length lc)])] :: Ent.row la lg.length lc 96 67 lx :: Ent.pin (sblks lx) (fun w => Lgs w lx lg) :: Ent.view da (df.map vu8) :: L)) :
  Cs Tryz.prog 37 [(.pointer (some ⟨ob, 0, none⟩)), (.agg ⟨md.map vu8⟩), (.agg ⟨flat [(1, [(vi kd)]), (32, val.map vu8), (1, [(vi pg)]), (128, gr.map vu8), (1, [(vu64 pc)]), (8, rg.map vu64), (1, [(.bool run)])]⟩)].toArray w (fun v w1 => ∃ la' lc' lx', v = (.agg ⟨(anD id df dn u lg (qN md kd pg gr pc rg run)).map vu8⟩) ∧ HP w00 w1 (Ent.blk ob .nw 47 [(1, [(.bool id)]), (32, ms.map vu8), (1, [(.slice da dn dc)]), (1, [(vi (((anU id u lg (qN md kd pg gr pc rg run)) : Nat) : Int))]), (1, [(.slice la' ((anL id df dn u lg (qN md kd pg gr pc rg run)).length) lc')])] :: Ent.row la' ((anL id df dn u lg (qN md kd pg gr pc rg run)).length) lc' 96 67 lx' :: Ent.pin (sblks lx') (fun w => Lgs w lx' (anL id df dn u lg (qN md kd pg gr pc rg run))) :: Ent.view da (df.map vu8) :: L)) := by
 rcases mayB_to hm with h | h | h
 ·exact absurd h.1 hk
 ·obtain ⟨rfl, rfl, hp, rfl, rfl, rfl⟩ := h
  obtain ⟨p, rfl⟩ := Int.eq_ofNat_of_zero_le hp.1
  rw [show qN md 2 (p : Int) gr 0 (List.replicate 8 (0 : UInt64)) false = (1, (List.replicate 32 (0 : UInt8)), 2, [md, leN 8 (UInt64.ofNat p).toNat, gr].flatten) from if_pos rfl]
  exact c_rNext_2 id ob ms df hms da dn dc u hdf la lc lx lg hu hlg md hmd p (by omega) gr hgr w h_0
 ·obtain ⟨rfl, rfl, rfl, rfl, h⟩ := h
  rw [show qN md 3 0 (List.replicate 128 (0 : UInt8)) pc rg run = (1, (List.replicate 32 (0 : UInt8)), 3, [md, recB pc rg run].flatten) from if_neg (by decide)]
  exact c_rNext_3 id ob ms df hms da dn dc u hdf la lc lx lg hu hlg md hmd pc rg hrg run h w h_0

theorem c_MayAll_2g (bc : Nat) (w : World) (hcr : (Ent.blk bc .ro 70 [(1, [(vi 2)]), (32, (List.replicate 32 (0 : UInt8)).map vu8), (1, [(vi 0)]), (128, (List.replicate 128 (0 : UInt8)).map vu8), (1, [(vu64 0)]), (8, (List.replicate 8 (0 : UInt64)).map vu64), (1, [(.bool false)])]).ok w.heap.size w) :
  Cs Tryz.prog 39 [(.slice (some ⟨bc, 0, none⟩) 1 1)].toArray w (fun v w1 => v = (.bool false) ∧ Chg w w1 []) := by
 refine Cs.of (n := 30) (args := [(.slice (some ⟨bc, 0, none⟩) 1 1)]) Tryz.func39 rfl rfl rfl ?_
 have h_0 := HP.init w
 have h_00 := h_0.old hcr (fun f hf => by cases hf)
 refine WP.seq (WP.reg ?_)
 refine qA (.bool false) rfl rfl ?_
 refine WL.nil (thn_n (WP.scope (WP.seq (WP.reg ?_))))
 refine qM (.slice (some ⟨bc, 0, none⟩) 1 1) rfl rfl (qV rfl (R.lenS (a := some ⟨bc, 0, none⟩) (m := 1) rfl rfl underlying75) (qV rfl (R.bin rfl rfl (bi_gtr (r := true) (by decide))) (qA (.bool true) rfl rfl ?_)))
 refine WL.nil (thn_n (WP.seq (WP.label (thn_n (WP.seq (WP.seq (WP.reg ?_)))))))
 refine qM (.slice (some ⟨bc, 0, none⟩) 1 1) rfl rfl (qV rfl (R.lenS (a := some ⟨bc, 0, none⟩) (m := 1) rfl rfl underlying75) (qM (vi 0) rfl rfl ?_))
 refine WL.nil (thn_n (WP.block ?_))
 refine WP.loopU (WI.round ?_)
 refine WP.seq (WP.reg ?_)
 refine qV rfl (R.bin rfl rfl (bi_lss (r := true) (by decide))) ?_
 refine WL.nil (thn_n (WP.seq ?_))
 refine WP.condT rfl ?_
 refine WP.skip (thn_n (WP.seq (WP.block (WP.seq (WP.reg ?_)))))
 refine qM (vi 0) rfl rfl (qV rfl (R.indexP (b := bc) (off := 0) (off' := 0) (i := 0) rfl rfl rfl (by decide) underlying75 sizeOf70 rfl) (qV rfl (R.loadA [] [(1, [(vi 2)]), (32, (List.replicate 32 (0 : UInt8)).map vu8), (1, [(vi 0)]), (128, (List.replicate 128 (0 : UInt8)).map vu8), (1, [(vu64 0)]), (8, (List.replicate 8 (0 : UInt64)).map vu64), (1, [(.bool false)])] [] (cs := flat [(1, [(vi 2)]), (32, (List.replicate 32 (0 : UInt8)).map vu8), (1, [(vi 0)]), (128, (List.replicate 128 (0 : UInt8)).map vu8), (1, [(vu64 0)]), (8, (List.replicate 8 (0 : UInt64)).map vu64), (1, [(.bool false)])]) rfl isAgg70 sizeOf70 (h_00.ok _ M0) rfl rfl rfl rfl) ?_))
 refine WL.alloc (segs := [(1, [(vi 0)]), (32, (List.replicate 32 (0 : UInt8)).map vu8), (1, [(vi 0)]), (128, (List.replicate 128 (0 : UInt8)).map vu8), (1, [(vu64 0)]), (8, (List.replicate 8 (0 : UInt64)).map vu64), (1, [(.bool false)])]) h_00 (zv typeInfo70 rfl) rfl (sC sV (sC (s8 lr) (sC sV (sC (s8 lr) (sC sV (sC (SOk.u64 lr) (sC sV sN))))))) rfl (fun b_1 w_2 h_3 => ?_)
 refine qA (vi 0) rfl rfl ?_
 refine WL.storeA (b := b_1) (off := 0) [] [(1, [(vi 0)]), (32, (List.replicate 32 (0 : UInt8)).map vu8), (1, [(vi 0)]), (128, (List.replicate 128 (0 : UInt8)).map vu8), (1, [(vu64 0)]), (8, (List.replicate 8 (0 : UInt64)).map vu64), (1, [(.bool false)])] [(1, [(vi 2)]), (32, (List.replicate 32 (0 : UInt8)).map vu8), (1, [(vi 0)]), (128, (List.replicate 128 (0 : UInt8)).map vu8), (1, [(vu64 0)]), (8, (List.replicate 8 (0 : UInt64)).map vu64), (1, [(.bool false)])] [] (ys := flat [(1, [(vi 2)]), (32, (List.replicate 32 (0 : UInt8)).map vu8), (1, [(vi 0)]), (128, (List.replicate 128 (0 : UInt8)).map vu8), (1, [(vu64 0)]), (8, (List.replicate 8 (0 : UInt64)).map vu64), (1, [(.bool false)])]) h_3 rfl rfl sizeOf70 At.h (by decide) rfl rfl rfl rfl rfl rfl (sC sV (sC (s8 lr) (sC sV (sC (s8 lr) (sC sV (sC (SOk.u64 lr) (sC sV sN))))))) (fun w_4 h_5 => ?_)
 refine WL.nil (thn_n (WP.seq (WP.reg ?_)))
 refine qV rfl (R.loadA [] [(1, [(vi 2)]), (32, (List.replicate 32 (0 : UInt8)).map vu8), (1, [(vi 0)]), (128, (List.replicate 128 (0 : UInt8)).map vu8), (1, [(vu64 0)]), (8, (List.replicate 8 (0 : UInt64)).map vu64), (1, [(.bool false)])] [] (cs := flat [(1, [(vi 2)]), (32, (List.replicate 32 (0 : UInt8)).map vu8), (1, [(vi 0)]), (128, (List.replicate 128 (0 : UInt8)).map vu8), (1, [(vu64 0)]), (8, (List.replicate 8 (0 : UInt64)).map vu64), (1, [(.bool false)])]) rfl isAgg70 sizeOf70 (h_5.ok _ M0) rfl rfl rfl rfl) ?_
 refine WL.call Tryz.call35 rfl rfl (c_MayA 2 (by decide) (List.replicate 32 (0 : UInt8)) lr 0 (by decide) (List.replicate 128 (0 : UInt8)) lr (0 : UInt64) (List.replicate 8 (0 : UInt64)) lr false _ ) rfl ?_
 rintro _ w_7 ⟨rfl, hc_6⟩
 have h_8 := h_5.same hc_6
 refine qM (.bool (mayB 2 (List.replicate 32 (0 : UInt8)) 0 (List.replicate 128 (0 : UInt8)) (0 : UInt64) (List.replicate 8 (0 : UInt64)) false)) rfl rfl ?_
 refine WL.want rfl (congrArg Value.bool (by decide +kernel)) ?_
 refine qV rfl (R.fieldAddr (off' := 0) rfl underlying70 rfl sizeOf68 rfl rfl) ?_
 refine WL.want rfl (congrArg Value.bool (by decide +kernel)) ?_
 refine qV rfl (R.load1 rfl isAgg68 (h_8.ok _ M0) Sg.h) ?_
 refine WL.want rfl (congrArg Value.bool (by decide +kernel)) ?_
 refine qV rfl (R.bin rfl rfl (bi_eql (r := false) (by decide))) ?_
 refine WL.want rfl (congrArg Value.bool (by decide +kernel)) ?_
 refine qM (vi 0) rfl rfl ?_
 refine WL.want rfl (congrArg Value.bool (by decide +kernel)) ?_
 refine qV rfl (R.bin rfl rfl (bi_eql (r := true) (by decide))) ?_
 refine WL.want rfl (congrArg Value.bool (by decide +kernel)) ?_
 refine qV rfl (R.eqB (a := false) (b := true) (c := false) rfl rfl underlying4 rfl) (qV rfl (R.pickT (v := (.bool false)) (congrArg Value.bool (by decide +kernel)) rfl) (qA (.bool false) rfl rfl ?_))
 refine WL.nil (thn_n (WP.seq (WP.reg ?_)))
 refine qM (.bool false) rfl rfl (qV rfl (R.not (b := false) rfl) ?_)
 refine WL.nil (thn_n ?_)
 refine WP.condT rfl ?_
 refine WP.exit (inb_miss rfl (thn_x (thn_x (inb_hit (thn_n (WP.seq (WP.reg ?_)))))))
 refine qM (.bool false) rfl rfl (qA (.bool false) rfl rfl ?_)
 refine WL.nil (thn_n (WP.ret (ng_r ?_)))
 refine ret_of results39 (RV.tmp (v := (.bool false)) rfl RV.nil) ?_
 exact ⟨rfl, h_8.chgS⟩

theorem c_Replay_2g (id : Bool) (ob mp : Nat) (ms : List UInt8) (hms : ms.length = 32) (da : Option Addr) (dn dc u : Nat) (la : Option Addr) (ln lc : Nat) (bc : Nat) (w : World) (hcb : (Ent.blk ob .ro 118 [(1, [(.bool id)]), (32, ms.map vu8), (1, [(.slice da dn dc)]), (1, [(vi ((u : Nat) : Int))]), (1, [(.map (some mp))]), (1, [(.slice la ln lc)])]).ok w.heap.size w) (hcr : (Ent.blk bc .ro 70 [(1, [(vi 2)]), (32, (List.replicate 32 (0 : UInt8)).map vu8), (1, [(vi 0)]), (128, (List.replicate 128 (0 : UInt8)).map vu8), (1, [(vu64 0)]), (8, (List.replicate 8 (0 : UInt64)).map vu64), (1, [(.bool false)])]).ok w.heap.size w) :
  Cs Tryz.prog 38 [(.pointer (some ⟨ob, 0, none⟩)), (.slice (some ⟨bc, 0, none⟩) 1 1)].toArray w (fun v w1 => v = (.tuple [(.agg ⟨(List.replicate 32 (0 : UInt8)).map vu8⟩), (vi 2)].toArray) ∧ Chg w w1 []) := by
 refine Cs.of (n := 51) (args := [(pO ob 0), (.slice (some ⟨bc, 0, none⟩) 1 1)]) Tryz.func38 rfl rfl rfl ?_
 have h_0 := HP.init w
 have h_01 := h_0.oldV hcb rfl (by simp [Ent.mut])
 have h_00 := h_01.oldV hcr rfl (by simp [Ent.mut])
 refine WP.seq (WP.reg ?_)
 refine WL.alloc (segs := [(32, (List.replicate 32 (0 : UInt8)).map vu8)]) h_00 (zv typeInfo23 rfl) rfl (sC (s8 lr) sN) rfl (fun b_1 w_2 h_3 => ?_)
 refine qA (vi 0) rfl rfl ?_
 refine WL.nil (thn_n (WP.seq (WP.block (WP.seq (WP.reg ?_)))))
 refine qM (pO ob 0) rfl rfl ?_
 refine WL.call Tryz.call72 rfl rfl (c_mth id ob mp ms hms da dn dc u la ln lc _ (h_3.argR M2)) rfl ?_
 rintro _ w_5 ⟨rfl, hc_4⟩
 have h_6 := h_3.same hc_4
 refine qV rfl (R.not (b := true) rfl) (qA (.bool false) rfl rfl ?_)
 refine WL.nil (thn_n ?_)
 refine WP.condF rfl ?_
 refine WP.seq (WP.reg ?_)
 refine qM (.slice (some ⟨bc, 0, none⟩) 1 1) rfl rfl ?_
 refine WL.call Tryz.call39 rfl rfl (c_MayAll_2g bc _ (h_6.argR M1)) rfl ?_
 rintro _ w_8 ⟨rfl, hc_7⟩
 have h_9 := h_6.same hc_7
 refine qV rfl (R.not (b := false) rfl) (qA (.bool true) rfl rfl ?_)
 refine WL.nil (thn_n ?_)
 refine WP.condT rfl ?_
 refine WP.seq (WP.reg ?_)
 refine qV rfl (R.buildA (vs := []) (cs := (List.replicate 32 (0 : UInt8)).map vu8) underlying23 sizeOf5 (zv typeInfo23 rfl) rfl rfl) ?_
 refine WL.storeA (b := b_1) (off := 0) [] [(32, (List.replicate 32 (0 : UInt8)).map vu8)] [(32, (List.replicate 32 (0 : UInt8)).map vu8)] [] (ys := (List.replicate 32 (0 : UInt8)).map vu8) h_9 rfl rfl sizeOf23 At.h (by decide) rfl rfl rfl rfl rfl rfl (sC (s8 lr) sN) (fun w_10 h_11 => ?_)
 refine qA (vi 2) rfl rfl ?_
 refine WL.nil (thn_n (WP.ret (inb_r (thn_r ?_))))
 refine ret_of results38 (RV.cell rfl (h_11.loadA (cs := (List.replicate 32 (0 : UInt8)).map vu8) isAgg23 sizeOf23 M0 rfl rfl) (RV.tmp (v := (vi 2)) rfl RV.nil)) ?_
 exact ⟨rfl, h_11.chgS⟩

theorem c_known12g  (w : World) :
  Cs Tryz.prog 23 [].toArray w (fun v w1 => v = (.bool true) ∧ Chg w w1 []) := by
 refine Cs.of (n := 80) (args := []) Tryz.func23 rfl rfl rfl ?_
 have h_0 := HP.init w
 refine WP.seq (WP.reg ?_)
 refine qA (.bool false) rfl rfl ?_
 refine WL.nil (thn_n (WP.seq (WP.reg ?_)))
 refine qV rfl (R.buildA (vs := []) (cs := (List.replicate 32 (0 : UInt8)).map vu8) underlying23 sizeOf5 (zv typeInfo23 rfl) rfl rfl) ?_
 refine WL.call Tryz.call71 rfl rfl (c_dr1  _ ) rfl ?_
 rintro _ w_2 ⟨rfl, hc_1⟩
 have h_3 := h_0.same hc_1
 refine WL.call Tryz.call71 rfl rfl (c_dr2  _ ) rfl ?_
 rintro _ w_5 ⟨rfl, hc_4⟩
 have h_6 := h_3.same hc_4
 refine WL.buildSl (vs := [(0, (.agg ⟨([1, 0, 0, 0, 0, 0, 0, 0, 0, 0, 0, 0, 0, 0, 0, 0, 0, 0, 0, 0, 0, 0, 0, 0, 0, 0, 0, 0, 0, 0, 0, 2] : List UInt8).map vu8⟩)), (1, (.agg ⟨([2, 0, 0, 0, 0, 0, 0, 0, 0, 0, 0, 0, 0, 0, 0, 0, 0, 0, 0, 0, 0, 0, 0, 0, 0, 0, 0, 0, 0, 0, 0, 2] : List UInt8).map vu8⟩))]) (cs := (([1, 0, 0, 0, 0, 0, 0, 0, 0, 0, 0, 0, 0, 0, 0, 0, 0, 0, 0, 0, 0, 0, 0, 0, 0, 0, 0, 0, 0, 0, 0, 2] : List UInt8) ++ ([2, 0, 0, 0, 0, 0, 0, 0, 0, 0, 0, 0, 0, 0, 0, 0, 0, 0, 0, 0, 0, 0, 0, 0, 0, 0, 0, 0, 0, 0, 0, 2] : List UInt8)).map vu8) h_6 underlying24 sizeOf23 (zv typeInfo23 rfl) rfl rfl (fill_2 (by kernel_rfl) (rfl : List.length ([1, 0, 0, 0, 0, 0, 0, 0, 0, 0, 0, 0, 0, 0, 0, 0, 0, 0, 0, 0, 0, 0, 0, 0, 0, 0, 0, 0, 0, 0, 0, 2] : List UInt8) = 32) (rfl : List.length ([2, 0, 0, 0, 0, 0, 0, 0, 0, 0, 0, 0, 0, 0, 0, 0, 0, 0, 0, 0, 0, 0, 0, 0, 0, 0, 0, 0, 0, 0, 0, 2] : List UInt8) = 32)) (len_map (show List.length (([1, 0, 0, 0, 0, 0, 0, 0, 0, 0, 0, 0, 0, 0, 0, 0, 0, 0, 0, 0, 0, 0, 0, 0, 0, 0, 0, 0, 0, 0, 0, 2] : List UInt8) ++ ([2, 0, 0, 0, 0, 0, 0, 0, 0, 0, 0, 0, 0, 0, 0, 0, 0, 0, 0, 0, 0, 0, 0, 0, 0, 0, 0, 0, 0, 0, 0, 2] : List UInt8)) = 2 * 32 from rfl)) (one_u8 _) rfl rfl (fun b_7 w_8 h_9 => ?_)
 have h_10 := HP.blkRow (m := 2) (s := 32) h_9 At.h rfl (by simp only [maxLen]; decide)
 have h_11 := h_10.rowView
 refine WL.call Tryz.call46 rfl rfl (c_ONew true (List.replicate 32 (0 : UInt8)) (([1, 0, 0, 0, 0, 0, 0, 0, 0, 0, 0, 0, 0, 0, 0, 0, 0, 0, 0, 0, 0, 0, 0, 0, 0, 0, 0, 0, 0, 0, 0, 2] : List UInt8) ++ ([2, 0, 0, 0, 0, 0, 0, 0, 0, 0, 0, 0, 0, 0, 0, 0, 0, 0, 0, 0, 0, 0, 0, 0, 0, 0, 0, 0, 0, 0, 0, 2] : List UInt8)) lr (some ⟨b_7, 0, none⟩) 2 2 (rfl : List.length (([1, 0, 0, 0, 0, 0, 0, 0, 0, 0, 0, 0, 0, 0, 0, 0, 0, 0, 0, 0, 0, 0, 0, 0, 0, 0, 0, 0, 0, 0, 0, 2] : List UInt8) ++ ([2, 0, 0, 0, 0, 0, 0, 0, 0, 0, 0, 0, 0, 0, 0, 0, 0, 0, 0, 0, 0, 0, 0, 0, 0, 0, 0, 0, 0, 0, 0, 2] : List UInt8)) = 64) (by decide) _ h_11) rfl ?_
 rintro _ w_16 ⟨b_12, b_13, a_14, c_15, rfl, h_17⟩
 refine qA (pO b_12 0) rfl rfl ?_
 refine WL.nil (thn_n (WP.seq (WP.reg ?_)))
 refine qM (pO b_12 0) rfl rfl (qV rfl (R.buildS (pl := [(0, 32), (32, 1)]) (zs := [(32, (List.replicate 32 (0 : UInt8)).map vu8), (1, [(vu64 0)])]) (vs := []) (out := [(32, (List.replicate 32 (0 : UInt8)).map vu8), (1, [(vu64 0)])]) (cs := flat [(32, (List.replicate 32 (0 : UInt8)).map vu8), (1, [(vu64 0)])]) underlying54 (zv typeInfo54 rfl) rfl (sC (s8 lr) (sC sV sN)) (pl54 _ underlying54) rfl FillR.nil rfl) ?_)
 have h_23 := ((((h_17.up J4).up J4).up J4).up J4).up J4
 have h32_w_27 := Lgs.ok32 (h_23.ok _ M3).1
 refine WL.call Tryz.call25 rfl rfl (c_Begin true b_12 b_13 (List.replicate 32 (0 : UInt8)) (([1, 0, 0, 0, 0, 0, 0, 0, 0, 0, 0, 0, 0, 0, 0, 0, 0, 0, 0, 0, 0, 0, 0, 0, 0, 0, 0, 0, 0, 0, 0, 2] : List UInt8) ++ ([2, 0, 0, 0, 0, 0, 0, 0, 0, 0, 0, 0, 0, 0, 0, 0, 0, 0, 0, 0, 0, 0, 0, 0, 0, 0, 0, 0, 0, 0, 0, 2] : List UInt8)) lr a_14 2 c_15 0 (rfl : List.length (([1, 0, 0, 0, 0, 0, 0, 0, 0, 0, 0, 0, 0, 0, 0, 0, 0, 0, 0, 0, 0, 0, 0, 0, 0, 0, 0, 0, 0, 0, 0, 2] : List UInt8) ++ ([2, 0, 0, 0, 0, 0, 0, 0, 0, 0, 0, 0, 0, 0, 0, 0, 0, 0, 0, 0, 0, 0, 0, 0, 0, 0, 0, 0, 0, 0, 0, 2] : List UInt8)) = 64) none 0 [] ([] : Lg) (by decide) (by decide) (List.replicate 32 (0 : UInt8)) lr (0 : UInt64) _ h_23) rfl ?_
 rintro _ w_27 ⟨la_24, lc_25, lx_26, rfl, h_28⟩
 refine qM (.tuple [(.agg ⟨(anD true (([1, 0, 0, 0, 0, 0, 0, 0, 0, 0, 0, 0, 0, 0, 0, 0, 0, 0, 0, 0, 0, 0, 0, 0, 0, 0, 0, 0, 0, 0, 0, 2] : List UInt8) ++ ([2, 0, 0, 0, 0, 0, 0, 0, 0, 0, 0, 0, 0, 0, 0, 0, 0, 0, 0, 0, 0, 0, 0, 0, 0, 0, 0, 0, 0, 0, 0, 2] : List UInt8)) 2 0 ([] : Lg) (1, (List.replicate 32 (0 : UInt8)), 1, [List.replicate 32 (0 : UInt8)].flatten)).map vu8⟩), (vi 0)].toArray) rfl rfl (qV rfl (R.extract rfl rfl) (qV rfl (R.extract rfl rfl) ?_))
 refine WL.alloc (segs := [(32, (List.replicate 32 (0 : UInt8)).map vu8)]) h_28 (zv typeInfo23 rfl) rfl (sC (s8 lr) sN) rfl (fun b_29 w_30 h_31 => ?_)
 refine WL.storeA (b := b_29) (off := 0) [] [(32, (List.replicate 32 (0 : UInt8)).map vu8)] [(32, (anD true (([1, 0, 0, 0, 0, 0, 0, 0, 0, 0, 0, 0, 0, 0, 0, 0, 0, 0, 0, 0, 0, 0, 0, 0, 0, 0, 0, 0, 0, 0, 0, 2] : List UInt8) ++ ([2, 0, 0, 0, 0, 0, 0, 0, 0, 0, 0, 0, 0, 0, 0, 0, 0, 0, 0, 0, 0, 0, 0, 0, 0, 0, 0, 0, 0, 0, 0, 2] : List UInt8)) 2 0 ([] : Lg) (1, (List.replicate 32 (0 : UInt8)), 1, [List.replicate 32 (0 : UInt8)].flatten)).map vu8)] [] (ys := (anD true (([1, 0, 0, 0, 0, 0, 0, 0, 0, 0, 0, 0, 0, 0, 0, 0, 0, 0, 0, 0, 0, 0, 0, 0, 0, 0, 0, 0, 0, 0, 0, 2] : List UInt8) ++ ([2, 0, 0, 0, 0, 0, 0, 0, 0, 0, 0, 0, 0, 0, 0, 0, 0, 0, 0, 0, 0, 0, 0, 0, 0, 0, 0, 0, 0, 0, 0, 2] : List UInt8)) 2 0 ([] : Lg) (1, (List.replicate 32 (0 : UInt8)), 1, [List.replicate 32 (0 : UInt8)].flatten)).map vu8) h_31 rfl rfl sizeOf23 At.h (by decide) rfl rfl rfl rfl rfl rfl (sC (s8 (anD_len (rfl : List.length (([1, 0, 0, 0, 0, 0, 0, 0, 0, 0, 0, 0, 0, 0, 0, 0, 0, 0, 0, 0, 0, 0, 0, 0, 0, 0, 0, 0, 0, 0, 0, 2] : List UInt8) ++ ([2, 0, 0, 0, 0, 0, 0, 0, 0, 0, 0, 0, 0, 0, 0, 0, 0, 0, 0, 0, 0, 0, 0, 0, 0, 0, 0, 0, 0, 0, 0, 2] : List UInt8)) = 64) h32_w_27)) sN) (fun w_32 h_33 => ?_)
 refine qA (vi 0) rfl rfl ?_
 refine WL.nil (thn_n (WP.seq (WP.reg ?_)))
 refine qM (pO b_12 0) rfl rfl (qV rfl (R.loadA [] [(32, (anD true (([1, 0, 0, 0, 0, 0, 0, 0, 0, 0, 0, 0, 0, 0, 0, 0, 0, 0, 0, 0, 0, 0, 0, 0, 0, 0, 0, 0, 0, 0, 0, 2] : List UInt8) ++ ([2, 0, 0, 0, 0, 0, 0, 0, 0, 0, 0, 0, 0, 0, 0, 0, 0, 0, 0, 0, 0, 0, 0, 0, 0, 0, 0, 0, 0, 0, 0, 2] : List UInt8)) 2 0 ([] : Lg) (1, (List.replicate 32 (0 : UInt8)), 1, [List.replicate 32 (0 : UInt8)].flatten)).map vu8)] [] (cs := (anD true (([1, 0, 0, 0, 0, 0, 0, 0, 0, 0, 0, 0, 0, 0, 0, 0, 0, 0, 0, 0, 0, 0, 0, 0, 0, 0, 0, 0, 0, 0, 0, 2] : List UInt8) ++ ([2, 0, 0, 0, 0, 0, 0, 0, 0, 0, 0, 0, 0, 0, 0, 0, 0, 0, 0, 0, 0, 0, 0, 0, 0, 0, 0, 0, 0, 0, 0, 2] : List UInt8)) 2 0 ([] : Lg) (1, (List.replicate 32 (0 : UInt8)), 1, [List.replicate 32 (0 : UInt8)].flatten)).map vu8) rfl isAgg23 sizeOf23 (h_33.ok _ M0) rfl rfl rfl rfl) (qV rfl (R.buildA (vs := []) (cs := (List.replicate 128 (0 : UInt8)).map vu8) underlying29 sizeOf5 (zv typeInfo29 rfl) rfl rfl) ?_))
 have h_38 := ((((h_33.up J5).up J5).up J5).up J5).up J5
 have h32_w_42 := Lgs.ok32 (h_38.ok _ M3).1
 refine WL.call Tryz.call28 rfl rfl (c_Data true b_12 b_13 (List.replicate 32 (0 : UInt8)) (([1, 0, 0, 0, 0, 0, 0, 0, 0, 0, 0, 0, 0, 0, 0, 0, 0, 0, 0, 0, 0, 0, 0, 0, 0, 0, 0, 0, 0, 0, 0, 2] : List UInt8) ++ ([2, 0, 0, 0, 0, 0, 0, 0, 0, 0, 0, 0, 0, 0, 0, 0, 0, 0, 0, 0, 0, 0, 0, 0, 0, 0, 0, 0, 0, 0, 0, 2] : List UInt8)) lr a_14 2 c_15 (anU true 0 ([] : Lg) (1, (List.replicate 32 (0 : UInt8)), 1, [List.replicate 32 (0 : UInt8)].flatten)) (rfl : List.length (([1, 0, 0, 0, 0, 0, 0, 0, 0, 0, 0, 0, 0, 0, 0, 0, 0, 0, 0, 0, 0, 0, 0, 0, 0, 0, 0, 0, 0, 0, 0, 2] : List UInt8) ++ ([2, 0, 0, 0, 0, 0, 0, 0, 0, 0, 0, 0, 0, 0, 0, 0, 0, 0, 0, 0, 0, 0, 0, 0, 0, 0, 0, 0, 0, 0, 0, 2] : List UInt8)) = 64) la_24 lc_25 lx_26 (anL true (([1, 0, 0, 0, 0, 0, 0, 0, 0, 0, 0, 0, 0, 0, 0, 0, 0, 0, 0, 0, 0, 0, 0, 0, 0, 0, 0, 0, 0, 0, 0, 2] : List UInt8) ++ ([2, 0, 0, 0, 0, 0, 0, 0, 0, 0, 0, 0, 0, 0, 0, 0, 0, 0, 0, 0, 0, 0, 0, 0, 0, 0, 0, 0, 0, 0, 0, 2] : List UInt8)) 2 0 ([] : Lg) (1, (List.replicate 32 (0 : UInt8)), 1, [List.replicate 32 (0 : UInt8)].flatten)) (by decide) (by decide) (anD true (([1, 0, 0, 0, 0, 0, 0, 0, 0, 0, 0, 0, 0, 0, 0, 0, 0, 0, 0, 0, 0, 0, 0, 0, 0, 0, 0, 0, 0, 0, 0, 2] : List UInt8) ++ ([2, 0, 0, 0, 0, 0, 0, 0, 0, 0, 0, 0, 0, 0, 0, 0, 0, 0, 0, 0, 0, 0, 0, 0, 0, 0, 0, 0, 0, 0, 0, 2] : List UInt8)) 2 0 ([] : Lg) (1, (List.replicate 32 (0 : UInt8)), 1, [List.replicate 32 (0 : UInt8)].flatten)) (List.replicate 128 (0 : UInt8)) (anD_len (rfl : List.length (([1, 0, 0, 0, 0, 0, 0, 0, 0, 0, 0, 0, 0, 0, 0, 0, 0, 0, 0, 0, 0, 0, 0, 0, 0, 0, 0, 0, 0, 0, 0, 2] : List UInt8) ++ ([2, 0, 0, 0, 0, 0, 0, 0, 0, 0, 0, 0, 0, 0, 0, 0, 0, 0, 0, 0, 0, 0, 0, 0, 0, 0, 0, 0, 0, 0, 0, 2] : List UInt8)) = 64) h32_w_27) lr 3 (by omega) _ h_38) rfl ?_
 rintro _ w_42 ⟨la_39, lc_40, lx_41, rfl, h_43⟩
 refine qM (.tuple [(.agg ⟨(anD true (([1, 0, 0, 0, 0, 0, 0, 0, 0, 0, 0, 0, 0, 0, 0, 0, 0, 0, 0, 0, 0, 0, 0, 0, 0, 0, 0, 0, 0, 0, 0, 2] : List UInt8) ++ ([2, 0, 0, 0, 0, 0, 0, 0, 0, 0, 0, 0, 0, 0, 0, 0, 0, 0, 0, 0, 0, 0, 0, 0, 0, 0, 0, 0, 0, 0, 0, 2] : List UInt8)) 2 (anU true 0 ([] : Lg) (1, (List.replicate 32 (0 : UInt8)), 1, [List.replicate 32 (0 : UInt8)].flatten)) (anL true (([1, 0, 0, 0, 0, 0, 0, 0, 0, 0, 0, 0, 0, 0, 0, 0, 0, 0, 0, 0, 0, 0, 0, 0, 0, 0, 0, 0, 0, 0, 0, 2] : List UInt8) ++ ([2, 0, 0, 0, 0, 0, 0, 0, 0, 0, 0, 0, 0, 0, 0, 0, 0, 0, 0, 0, 0, 0, 0, 0, 0, 0, 0, 0, 0, 0, 0, 2] : List UInt8)) 2 0 ([] : Lg) (1, (List.replicate 32 (0 : UInt8)), 1, [List.replicate 32 (0 : UInt8)].flatten)) (1, (List.replicate 32 (0 : UInt8)), 2, [anD true (([1, 0, 0, 0, 0, 0, 0, 0, 0, 0, 0, 0, 0, 0, 0, 0, 0, 0, 0, 0, 0, 0, 0, 0, 0, 0, 0, 0, 0, 0, 0, 2] : List UInt8) ++ ([2, 0, 0, 0, 0, 0, 0, 0, 0, 0, 0, 0, 0, 0, 0, 0, 0, 0, 0, 0, 0, 0, 0, 0, 0, 0, 0, 0, 0, 0, 0, 2] : List UInt8)) 2 0 ([] : Lg) (1, (List.replicate 32 (0 : UInt8)), 1, [List.replicate 32 (0 : UInt8)].flatten), leN 8 (UInt64.ofNat 3).toNat, List.replicate 128 (0 : UInt8)].flatten)).map vu8⟩), (vi 0)].toArray) rfl rfl (qV rfl (R.extract rfl rfl) (qV rfl (R.extract rfl rfl) ?_))
 refine WL.alloc (segs := [(32, (List.replicate 32 (0 : UInt8)).map vu8)]) h_43 (zv typeInfo23 rfl) rfl (sC (s8 lr) sN) rfl (fun b_44 w_45 h_46 => ?_)
 refine WL.storeA (b := b_44) (off := 0) [] [(32, (List.replicate 32 (0 : UInt8)).map vu8)] [(32, (anD true (([1, 0, 0, 0, 0, 0, 0, 0, 0, 0, 0, 0, 0, 0, 0, 0, 0, 0, 0, 0, 0, 0, 0, 0, 0, 0, 0, 0, 0, 0, 0, 2] : List UInt8) ++ ([2, 0, 0, 0, 0, 0, 0, 0, 0, 0, 0, 0, 0, 0, 0, 0, 0, 0, 0, 0, 0, 0, 0, 0, 0, 0, 0, 0, 0, 0, 0, 2] : List UInt8)) 2 (anU true 0 ([] : Lg) (1, (List.replicate 32 (0 : UInt8)), 1, [List.replicate 32 (0 : UInt8)].flatten)) (anL true (([1, 0, 0, 0, 0, 0, 0, 0, 0, 0, 0, 0, 0, 0, 0, 0, 0, 0, 0, 0, 0, 0, 0, 0, 0, 0, 0, 0, 0, 0, 0, 2] : List UInt8) ++ ([2, 0, 0, 0, 0, 0, 0, 0, 0, 0, 0, 0, 0, 0, 0, 0, 0, 0, 0, 0, 0, 0, 0, 0, 0, 0, 0, 0, 0, 0, 0, 2] : List UInt8)) 2 0 ([] : Lg) (1, (List.replicate 32 (0 : UInt8)), 1, [List.replicate 32 (0 : UInt8)].flatten)) (1, (List.replicate 32 (0 : UInt8)), 2, [anD true (([1, 0, 0, 0, 0, 0, 0, 0, 0, 0, 0, 0, 0, 0, 0, 0, 0, 0, 0, 0, 0, 0, 0, 0, 0, 0, 0, 0, 0, 0, 0, 2] : List UInt8) ++ ([2, 0, 0, 0, 0, 0, 0, 0, 0, 0, 0, 0, 0, 0, 0, 0, 0, 0, 0, 0, 0, 0, 0, 0, 0, 0, 0, 0, 0, 0, 0, 2] : List UInt8)) 2 0 ([] : Lg) (1, (List.replicate 32 (0 : UInt8)), 1, [List.replicate 32 (0 : UInt8)].flatten), leN 8 (UInt64.ofNat 3).toNat, List.replicate 128 (0 : UInt8)].flatten)).map vu8)] [] (ys := (anD true (([1, 0, 0, 0, 0, 0, 0, 0, 0, 0, 0, 0, 0, 0, 0, 0, 0, 0, 0, 0, 0, 0, 0, 0, 0, 0, 0, 0, 0, 0, 0, 2] : List UInt8) ++ ([2, 0, 0, 0, 0, 0, 0, 0, 0, 0, 0, 0, 0, 0, 0, 0, 0, 0, 0, 0, 0, 0, 0, 0, 0, 0, 0, 0, 0, 0, 0, 2] : List UInt8)) 2 (anU true 0 ([] : Lg) (1, (List.replicate 32 (0 : UInt8)), 1, [List.replicate 32 (0 : UInt8)].flatten)) (anL true (([1, 0, 0, 0, 0, 0, 0, 0, 0, 0, 0, 0, 0, 0, 0, 0, 0, 0, 0, 0, 0, 0, 0, 0, 0, 0, 0, 0, 0, 0, 0, 2] : List UInt8) ++ ([2, 0, 0, 0, 0, 0, 0, 0, 0, 0, 0, 0, 0, 0, 0, 0, 0, 0, 0, 0, 0, 0, 0, 0, 0, 0, 0, 0, 0, 0, 0, 2] : List UInt8)) 2 0 ([] : Lg) (1, (List.replicate 32 (0 : UInt8)), 1, [List.replicate 32 (0 : UInt8)].flatten)) (1, (List.replicate 32 (0 : UInt8)), 2, [anD true (([1, 0, 0, 0, 0, 0, 0, 0, 0, 0, 0, 0, 0, 0, 0, 0, 0, 0, 0, 0, 0, 0, 0, 0, 0, 0, 0, 0, 0, 0, 0, 2] : List UInt8) ++ ([2, 0, 0, 0, 0, 0, 0, 0, 0, 0, 0, 0, 0, 0, 0, 0, 0, 0, 0, 0, 0, 0, 0, 0, 0, 0, 0, 0, 0, 0, 0, 2] : List UInt8)) 2 0 ([] : Lg) (1, (List.replicate 32 (0 : UInt8)), 1, [List.replicate 32 (0 : UInt8)].flatten), leN 8 (UInt64.ofNat 3).toNat, List.replicate 128 (0 : UInt8)].flatten)).map vu8) h_46 rfl rfl sizeOf23 At.h (by decide) rfl rfl rfl rfl rfl rfl (sC (s8 (anD_len (rfl : List.length (([1, 0, 0, 0, 0, 0, 0, 0, 0, 0, 0, 0, 0, 0, 0, 0, 0, 0, 0, 0, 0, 0, 0, 0, 0, 0, 0, 0, 0, 0, 0, 2] : List UInt8) ++ ([2, 0, 0, 0, 0, 0, 0, 0, 0, 0, 0, 0, 0, 0, 0, 0, 0, 0, 0, 0, 0, 0, 0, 0, 0, 0, 0, 0, 0, 0, 0, 2] : List UInt8)) = 64) h32_w_42)) sN) (fun w_47 h_48 => ?_)
 refine qA (vi 0) rfl rfl ?_
 refine WL.nil (thn_n (WP.seq (WP.reg ?_)))
 refine qM (pO b_12 0) rfl rfl (qV rfl (R.loadA [] [(32, (anD true (([1, 0, 0, 0, 0, 0, 0, 0, 0, 0, 0, 0, 0, 0, 0, 0, 0, 0, 0, 0, 0, 0, 0, 0, 0, 0, 0, 0, 0, 0, 0, 2] : List UInt8) ++ ([2, 0, 0, 0, 0, 0, 0, 0, 0, 0, 0, 0, 0, 0, 0, 0, 0, 0, 0, 0, 0, 0, 0, 0, 0, 0, 0, 0, 0, 0, 0, 2] : List UInt8)) 2 0 ([] : Lg) (1, (List.replicate 32 (0 : UInt8)), 1, [List.replicate 32 (0 : UInt8)].flatten)).map vu8)] [] (cs := (anD true (([1, 0, 0, 0, 0, 0, 0, 0, 0, 0, 0, 0, 0, 0, 0, 0, 0, 0, 0, 0, 0, 0, 0, 0, 0, 0, 0, 0, 0, 0, 0, 2] : List UInt8) ++ ([2, 0, 0, 0, 0, 0, 0, 0, 0, 0, 0, 0, 0, 0, 0, 0, 0, 0, 0, 0, 0, 0, 0, 0, 0, 0, 0, 0, 0, 0, 0, 2] : List UInt8)) 2 0 ([] : Lg) (1, (List.replicate 32 (0 : UInt8)), 1, [List.replicate 32 (0 : UInt8)].flatten)).map vu8) rfl isAgg23 sizeOf23 (h_48.ok _ M6) rfl rfl rfl rfl) (qV rfl (R.buildA (vs := []) (cs := (List.replicate 128 (0 : UInt8)).map vu8) underlying29 sizeOf5 (zv typeInfo29 rfl) rfl rfl) ?_))
 refine WL.call Tryz.call28 rfl rfl (c_Data_big true b_12 b_13 (List.replicate 32 (0 : UInt8)) lr a_14 2 c_15 (anU true (anU true 0 ([] : Lg) (1, (List.replicate 32 (0 : UInt8)), 1, [List.replicate 32 (0 : UInt8)].flatten)) (anL true (([1, 0, 0, 0, 0, 0, 0, 0, 0, 0, 0, 0, 0, 0, 0, 0, 0, 0, 0, 0, 0, 0, 0, 0, 0, 0, 0, 0, 0, 0, 0, 2] : List UInt8) ++ ([2, 0, 0, 0, 0, 0, 0, 0, 0, 0, 0, 0, 0, 0, 0, 0, 0, 0, 0, 0, 0, 0, 0, 0, 0, 0, 0, 0, 0, 0, 0, 2] : List UInt8)) 2 0 ([] : Lg) (1, (List.replicate 32 (0 : UInt8)), 1, [List.replicate 32 (0 : UInt8)].flatten)) (1, (List.replicate 32 (0 : UInt8)), 2, [anD true (([1, 0, 0, 0, 0, 0, 0, 0, 0, 0, 0, 0, 0, 0, 0, 0, 0, 0, 0, 0, 0, 0, 0, 0, 0, 0, 0, 0, 0, 0, 0, 2] : List UInt8) ++ ([2, 0, 0, 0, 0, 0, 0, 0, 0, 0, 0, 0, 0, 0, 0, 0, 0, 0, 0, 0, 0, 0, 0, 0, 0, 0, 0, 0, 0, 0, 0, 2] : List UInt8)) 2 0 ([] : Lg) (1, (List.replicate 32 (0 : UInt8)), 1, [List.replicate 32 (0 : UInt8)].flatten), leN 8 (UInt64.ofNat 3).toNat, List.replicate 128 (0 : UInt8)].flatten)) la_39 ((anL true (([1, 0, 0, 0, 0, 0, 0, 0, 0, 0, 0, 0, 0, 0, 0, 0, 0, 0, 0, 0, 0, 0, 0, 0, 0, 0, 0, 0, 0, 0, 0, 2] : List UInt8) ++ ([2, 0, 0, 0, 0, 0, 0, 0, 0, 0, 0, 0, 0, 0, 0, 0, 0, 0, 0, 0, 0, 0, 0, 0, 0, 0, 0, 0, 0, 0, 0, 2] : List UInt8)) 2 (anU true 0 ([] : Lg) (1, (List.replicate 32 (0 : UInt8)), 1, [List.replicate 32 (0 : UInt8)].flatten)) (anL true (([1, 0, 0, 0, 0, 0, 0, 0, 0, 0, 0, 0, 0, 0, 0, 0, 0, 0, 0, 0, 0, 0, 0, 0, 0, 0, 0, 0, 0, 0, 0, 2] : List UInt8) ++ ([2, 0, 0, 0, 0, 0, 0, 0, 0, 0, 0, 0, 0, 0, 0, 0, 0, 0, 0, 0, 0, 0, 0, 0, 0, 0, 0, 0, 0, 0, 0, 2] : List UInt8)) 2 0 ([] : Lg) (1, (List.replicate 32 (0 : UInt8)), 1, [List.replicate 32 (0 : UInt8)].flatten)) (1, (List.replicate 32 (0 : UInt8)), 2, [anD true (([1, 0, 0, 0, 0, 0, 0, 0, 0, 0, 0, 0, 0, 0, 0, 0, 0, 0, 0, 0, 0, 0, 0, 0, 0, 0, 0, 0, 0, 0, 0, 2] : List UInt8) ++ ([2, 0, 0, 0, 0, 0, 0, 0, 0, 0, 0, 0, 0, 0, 0, 0, 0, 0, 0, 0, 0, 0, 0, 0, 0, 0, 0, 0, 0, 0, 0, 2] : List UInt8)) 2 0 ([] : Lg) (1, (List.replicate 32 (0 : UInt8)), 1, [List.replicate 32 (0 : UInt8)].flatten), leN 8 (UInt64.ofNat 3).toNat, List.replicate 128 (0 : UInt8)].flatten)).length) lc_40 (anD true (([1, 0, 0, 0, 0, 0, 0, 0, 0, 0, 0, 0, 0, 0, 0, 0, 0, 0, 0, 0, 0, 0, 0, 0, 0, 0, 0, 0, 0, 0, 0, 2] : List UInt8) ++ ([2, 0, 0, 0, 0, 0, 0, 0, 0, 0, 0, 0, 0, 0, 0, 0, 0, 0, 0, 0, 0, 0, 0, 0, 0, 0, 0, 0, 0, 0, 0, 2] : List UInt8)) 2 0 ([] : Lg) (1, (List.replicate 32 (0 : UInt8)), 1, [List.replicate 32 (0 : UInt8)].flatten)) (List.replicate 128 (0 : UInt8)) (anD_len (rfl : List.length (([1, 0, 0, 0, 0, 0, 0, 0, 0, 0, 0, 0, 0, 0, 0, 0, 0, 0, 0, 0, 0, 0, 0, 0, 0, 0, 0, 0, 0, 0, 0, 2] : List UInt8) ++ ([2, 0, 0, 0, 0, 0, 0, 0, 0, 0, 0, 0, 0, 0, 0, 0, 0, 0, 0, 0, 0, 0, 0, 0, 0, 0, 0, 0, 0, 0, 0, 2] : List UInt8)) = 64) h32_w_27) lr 128 (by omega) _ (h_48.argR M1)) rfl ?_
 rintro _ w_50 ⟨rfl, hc_49⟩
 have h_51 := h_48.same hc_49
 refine qM (.tuple [(.agg ⟨(List.replicate 32 (0 : UInt8)).map vu8⟩), (vi 2)].toArray) rfl rfl (qV rfl (R.extract rfl rfl) (qV rfl (R.extract rfl rfl) ?_))
 refine WL.alloc (segs := [(32, (List.replicate 32 (0 : UInt8)).map vu8)]) h_51 (zv typeInfo23 rfl) rfl (sC (s8 lr) sN) rfl (fun b_52 w_53 h_54 => ?_)
 refine WL.storeA (b := b_52) (off := 0) [] [(32, (List.replicate 32 (0 : UInt8)).map vu8)] [(32, (List.replicate 32 (0 : UInt8)).map vu8)] [] (ys := (List.replicate 32 (0 : UInt8)).map vu8) h_54 rfl rfl sizeOf23 At.h (by decide) rfl rfl rfl rfl rfl rfl (sC (s8 lr) sN) (fun w_55 h_56 => ?_)
 refine qA (vi 2) rfl rfl ?_
 refine WL.nil (thn_n (WP.seq (WP.reg ?_)))
 refine qM (pO b_12 0) rfl rfl ?_
 refine WL.call Tryz.call38 rfl rfl (c_Replay_0 true b_12 b_13 (List.replicate 32 (0 : UInt8)) lr a_14 2 c_15 (anU true (anU true 0 ([] : Lg) (1, (List.replicate 32 (0 : UInt8)), 1, [List.replicate 32 (0 : UInt8)].flatten)) (anL true (([1, 0, 0, 0, 0, 0, 0, 0, 0, 0, 0, 0, 0, 0, 0, 0, 0, 0, 0, 0, 0, 0, 0, 0, 0, 0, 0, 0, 0, 0, 0, 2] : List UInt8) ++ ([2, 0, 0, 0, 0, 0, 0, 0, 0, 0, 0, 0, 0, 0, 0, 0, 0, 0, 0, 0, 0, 0, 0, 0, 0, 0, 0, 0, 0, 0, 0, 2] : List UInt8)) 2 0 ([] : Lg) (1, (List.replicate 32 (0 : UInt8)), 1, [List.replicate 32 (0 : UInt8)].flatten)) (1, (List.replicate 32 (0 : UInt8)), 2, [anD true (([1, 0, 0, 0, 0, 0, 0, 0, 0, 0, 0, 0, 0, 0, 0, 0, 0, 0, 0, 0, 0, 0, 0, 0, 0, 0, 0, 0, 0, 0, 0, 2] : List UInt8) ++ ([2, 0, 0, 0, 0, 0, 0, 0, 0, 0, 0, 0, 0, 0, 0, 0, 0, 0, 0, 0, 0, 0, 0, 0, 0, 0, 0, 0, 0, 0, 0, 2] : List UInt8)) 2 0 ([] : Lg) (1, (List.replicate 32 (0 : UInt8)), 1, [List.replicate 32 (0 : UInt8)].flatten), leN 8 (UInt64.ofNat 3).toNat, List.replicate 128 (0 : UInt8)].flatten)) la_39 ((anL true (([1, 0, 0, 0, 0, 0, 0, 0, 0, 0, 0, 0, 0, 0, 0, 0, 0, 0, 0, 0, 0, 0, 0, 0, 0, 0, 0, 0, 0, 0, 0, 2] : List UInt8) ++ ([2, 0, 0, 0, 0, 0, 0, 0, 0, 0, 0, 0, 0, 0, 0, 0, 0, 0, 0, 0, 0, 0, 0, 0, 0, 0, 0, 0, 0, 0, 0, 2] : List UInt8)) 2 (anU true 0 ([] : Lg) (1, (List.replicate 32 (0 : UInt8)), 1, [List.replicate 32 (0 : UInt8)].flatten)) (anL true (([1, 0, 0, 0, 0, 0, 0, 0, 0, 0, 0, 0, 0, 0, 0, 0, 0, 0, 0, 0, 0, 0, 0, 0, 0, 0, 0, 0, 0, 0, 0, 2] : List UInt8) ++ ([2, 0, 0, 0, 0, 0, 0, 0, 0, 0, 0, 0, 0, 0, 0, 0, 0, 0, 0, 0, 0, 0, 0, 0, 0, 0, 0, 0, 0, 0, 0, 2] : List UInt8)) 2 0 ([] : Lg) (1, (List.replicate 32 (0 : UInt8)), 1, [List.replicate 32 (0 : UInt8)].flatten)) (1, (List.replicate 32 (0 : UInt8)), 2, [anD true (([1, 0, 0, 0, 0, 0, 0, 0, 0, 0, 0, 0, 0, 0, 0, 0, 0, 0, 0, 0, 0, 0, 0, 0, 0, 0, 0, 0, 0, 0, 0, 2] : List UInt8) ++ ([2, 0, 0, 0, 0, 0, 0, 0, 0, 0, 0, 0, 0, 0, 0, 0, 0, 0, 0, 0, 0, 0, 0, 0, 0, 0, 0, 0, 0, 0, 0, 2] : List UInt8)) 2 0 ([] : Lg) (1, (List.replicate 32 (0 : UInt8)), 1, [List.replicate 32 (0 : UInt8)].flatten), leN 8 (UInt64.ofNat 3).toNat, List.replicate 128 (0 : UInt8)].flatten)).length) lc_40 _ (h_56.argR M2)) rfl ?_
 rintro _ w_58 ⟨rfl, hc_57⟩
 have h_59 := h_56.same hc_57
 refine qM (.tuple [(.agg ⟨(List.replicate 32 (0 : UInt8)).map vu8⟩), (vi 2)].toArray) rfl rfl (qV rfl (R.extract rfl rfl) (qV rfl (R.extract rfl rfl) ?_))
 refine WL.alloc (segs := [(32, (List.replicate 32 (0 : UInt8)).map vu8)]) h_59 (zv typeInfo23 rfl) rfl (sC (s8 lr) sN) rfl (fun b_60 w_61 h_62 => ?_)
 refine WL.storeA (b := b_60) (off := 0) [] [(32, (List.replicate 32 (0 : UInt8)).map vu8)] [(32, (List.replicate 32 (0 : UInt8)).map vu8)] [] (ys := (List.replicate 32 (0 : UInt8)).map vu8) h_62 rfl rfl sizeOf23 At.h (by decide) rfl rfl rfl rfl rfl rfl (sC (s8 lr) sN) (fun w_63 h_64 => ?_)
 refine qA (vi 2) rfl rfl ?_
 refine WL.nil (thn_n (WP.seq (WP.reg ?_)))
 refine qM (pO b_12 0) rfl rfl (qV rfl (R.buildS (pl := [(0, 1), (1, 32), (33, 1), (34, 128), (162, 10)]) (zs := [(1, [(vi 0)]), (32, (List.replicate 32 (0 : UInt8)).map vu8), (1, [(vi 0)]), (128, (List.replicate 128 (0 : UInt8)).map vu8), (1, [(vu64 0)]), (8, (List.replicate 8 (0 : UInt64)).map vu64), (1, [(.bool false)])]) (vs := [(0, (vi 2))]) (out := [(1, [(vi 2)]), (32, (List.replicate 32 (0 : UInt8)).map vu8), (1, [(vi 0)]), (128, (List.replicate 128 (0 : UInt8)).map vu8), (1, [(vu64 0)]), (8, (List.replicate 8 (0 : UInt64)).map vu64), (1, [(.bool false)])]) (cs := flat [(1, [(vi 2)]), (32, (List.replicate 32 (0 : UInt8)).map vu8), (1, [(vi 0)]), (128, (List.replicate 128 (0 : UInt8)).map vu8), (1, [(vu64 0)]), (8, (List.replicate 8 (0 : UInt64)).map vu64), (1, [(.bool false)])]) underlying70 (zv typeInfo70 rfl) rfl (sC sV (sC (s8 lr) (sC sV (sC (s8 lr) (sC sV (sC (SOk.u64 lr) (sC sV sN))))))) (pl70 _ underlying70) rfl (FillR.cons [] [(1, [(vi 0)])] [(1, [(vi 2)])] [(32, (List.replicate 32 (0 : UInt8)).map vu8), (1, [(vi 0)]), (128, (List.replicate 128 (0 : UInt8)).map vu8), (1, [(vu64 0)]), (8, (List.replicate 8 (0 : UInt64)).map vu64), (1, [(.bool false)])] rfl rfl rfl rfl (sC sV sN) rfl rfl rfl FillR.nil) rfl) ?_)
 refine WL.buildSl (vs := [(0, (.agg ⟨flat [(1, [(vi 2)]), (32, (List.replicate 32 (0 : UInt8)).map vu8), (1, [(vi 0)]), (128, (List.replicate 128 (0 : UInt8)).map vu8), (1, [(vu64 0)]), (8, (List.replicate 8 (0 : UInt64)).map vu64), (1, [(.bool false)])]⟩))]) (cs := flat [(1, [(vi 2)]), (32, (List.replicate 32 (0 : UInt8)).map vu8), (1, [(vi 0)]), (128, (List.replicate 128 (0 : UInt8)).map vu8), (1, [(vu64 0)]), (8, (List.replicate 8 (0 : UInt64)).map vu64), (1, [(.bool false)])]) h_64 underlying75 sizeOf70 (zv typeInfo70 rfl) rfl rfl (fill_1 (zc := flat [(1, [(vi 0)]), (32, (List.replicate 32 (0 : UInt8)).map vu8), (1, [(vi 0)]), (128, (List.replicate 128 (0 : UInt8)).map vu8), (1, [(vu64 0)]), (8, (List.replicate 8 (0 : UInt64)).map vu64), (1, [(.bool false)])]) (by kernel_rfl) (show SsOk [(172, flat [(1, [(vi 0)]), (32, (List.replicate 32 (0 : UInt8)).map vu8), (1, [(vi 0)]), (128, (List.replicate 128 (0 : UInt8)).map vu8), (1, [(vu64 0)]), (8, (List.replicate 8 (0 : UInt64)).map vu64), (1, [(.bool false)])])] from SsOk.cons ⟨((sC sV (sC (s8 lr) (sC sV (sC (s8 lr) (sC sV (sC (SOk.u64 lr) (sC sV sN)))))))).len, ((sC sV (sC (s8 lr) (sC sV (sC (s8 lr) (sC sV (sC (SOk.u64 lr) (sC sV sN)))))))).one⟩ sN) (show SsOk [(172, flat [(1, [(vi 2)]), (32, (List.replicate 32 (0 : UInt8)).map vu8), (1, [(vi 0)]), (128, (List.replicate 128 (0 : UInt8)).map vu8), (1, [(vu64 0)]), (8, (List.replicate 8 (0 : UInt64)).map vu64), (1, [(.bool false)])])] from SsOk.cons ⟨((sC sV (sC (s8 lr) (sC sV (sC (s8 lr) (sC sV (sC (SOk.u64 lr) (sC sV sN)))))))).len, ((sC sV (sC (s8 lr) (sC sV (sC (s8 lr) (sC sV (sC (SOk.u64 lr) (sC sV sN)))))))).one⟩ sN)) ((show SsOk [(172, flat [(1, [(vi 2)]), (32, (List.replicate 32 (0 : UInt8)).map vu8), (1, [(vi 0)]), (128, (List.replicate 128 (0 : UInt8)).map vu8), (1, [(vu64 0)]), (8, (List.replicate 8 (0 : UInt64)).map vu64), (1, [(.bool false)])])] from SsOk.cons ⟨((sC sV (sC (s8 lr) (sC sV (sC (s8 lr) (sC sV (sC (SOk.u64 lr) (sC sV sN)))))))).len, ((sC sV (sC (s8 lr) (sC sV (sC (s8 lr) (sC sV (sC (SOk.u64 lr) (sC sV sN)))))))).one⟩ sN)).head.len ((show SsOk [(172, flat [(1, [(vi 2)]), (32, (List.replicate 32 (0 : UInt8)).map vu8), (1, [(vi 0)]), (128, (List.replicate 128 (0 : UInt8)).map vu8), (1, [(vu64 0)]), (8, (List.replicate 8 (0 : UInt64)).map vu64), (1, [(.bool false)])])] from SsOk.cons ⟨((sC sV (sC (s8 lr) (sC sV (sC (s8 lr) (sC sV (sC (SOk.u64 lr) (sC sV sN)))))))).len, ((sC sV (sC (s8 lr) (sC sV (sC (s8 lr) (sC sV (sC (SOk.u64 lr) (sC sV sN)))))))).one⟩ sN)).head.one rfl rfl (fun b_66 w_67 h_68 => ?_)
 have h_69 := HP_reseg (segs' := [(1, [(vi 2)]), (32, (List.replicate 32 (0 : UInt8)).map vu8), (1, [(vi 0)]), (128, (List.replicate 128 (0 : UInt8)).map vu8), (1, [(vu64 0)]), (8, (List.replicate 8 (0 : UInt64)).map vu64), (1, [(.bool false)])]) h_68 .h (by decide) rfl (sC sV (sC (s8 lr) (sC sV (sC (s8 lr) (sC sV (sC (SOk.u64 lr) (sC sV sN)))))))
 refine WL.call Tryz.call38 rfl rfl (c_Replay_2g true b_12 b_13 (List.replicate 32 (0 : UInt8)) lr a_14 2 c_15 (anU true (anU true 0 ([] : Lg) (1, (List.replicate 32 (0 : UInt8)), 1, [List.replicate 32 (0 : UInt8)].flatten)) (anL true (([1, 0, 0, 0, 0, 0, 0, 0, 0, 0, 0, 0, 0, 0, 0, 0, 0, 0, 0, 0, 0, 0, 0, 0, 0, 0, 0, 0, 0, 0, 0, 2] : List UInt8) ++ ([2, 0, 0, 0, 0, 0, 0, 0, 0, 0, 0, 0, 0, 0, 0, 0, 0, 0, 0, 0, 0, 0, 0, 0, 0, 0, 0, 0, 0, 0, 0, 2] : List UInt8)) 2 0 ([] : Lg) (1, (List.replicate 32 (0 : UInt8)), 1, [List.replicate 32 (0 : UInt8)].flatten)) (1, (List.replicate 32 (0 : UInt8)), 2, [anD true (([1, 0, 0, 0, 0, 0, 0, 0, 0, 0, 0, 0, 0, 0, 0, 0, 0, 0, 0, 0, 0, 0, 0, 0, 0, 0, 0, 0, 0, 0, 0, 2] : List UInt8) ++ ([2, 0, 0, 0, 0, 0, 0, 0, 0, 0, 0, 0, 0, 0, 0, 0, 0, 0, 0, 0, 0, 0, 0, 0, 0, 0, 0, 0, 0, 0, 0, 2] : List UInt8)) 2 0 ([] : Lg) (1, (List.replicate 32 (0 : UInt8)), 1, [List.replicate 32 (0 : UInt8)].flatten), leN 8 (UInt64.ofNat 3).toNat, List.replicate 128 (0 : UInt8)].flatten)) la_39 ((anL true (([1, 0, 0, 0, 0, 0, 0, 0, 0, 0, 0, 0, 0, 0, 0, 0, 0, 0, 0, 0, 0, 0, 0, 0, 0, 0, 0, 0, 0, 0, 0, 2] : List UInt8) ++ ([2, 0, 0, 0, 0, 0, 0, 0, 0, 0, 0, 0, 0, 0, 0, 0, 0, 0, 0, 0, 0, 0, 0, 0, 0, 0, 0, 0, 0, 0, 0, 2] : List UInt8)) 2 (anU true 0 ([] : Lg) (1, (List.replicate 32 (0 : UInt8)), 1, [List.replicate 32 (0 : UInt8)].flatten)) (anL true (([1, 0, 0, 0, 0, 0, 0, 0, 0, 0, 0, 0, 0, 0, 0, 0, 0, 0, 0, 0, 0, 0, 0, 0, 0, 0, 0, 0, 0, 0, 0, 2] : List UInt8) ++ ([2, 0, 0, 0, 0, 0, 0, 0, 0, 0, 0, 0, 0, 0, 0, 0, 0, 0, 0, 0, 0, 0, 0, 0, 0, 0, 0, 0, 0, 0, 0, 2] : List UInt8)) 2 0 ([] : Lg) (1, (List.replicate 32 (0 : UInt8)), 1, [List.replicate 32 (0 : UInt8)].flatten)) (1, (List.replicate 32 (0 : UInt8)), 2, [anD true (([1, 0, 0, 0, 0, 0, 0, 0, 0, 0, 0, 0, 0, 0, 0, 0, 0, 0, 0, 0, 0, 0, 0, 0, 0, 0, 0, 0, 0, 0, 0, 2] : List UInt8) ++ ([2, 0, 0, 0, 0, 0, 0, 0, 0, 0, 0, 0, 0, 0, 0, 0, 0, 0, 0, 0, 0, 0, 0, 0, 0, 0, 0, 0, 0, 0, 0, 2] : List UInt8)) 2 0 ([] : Lg) (1, (List.replicate 32 (0 : UInt8)), 1, [List.replicate 32 (0 : UInt8)].flatten), leN 8 (UInt64.ofNat 3).toNat, List.replicate 128 (0 : UInt8)].flatten)).length) lc_40 b_66 _ (h_69.argR M4) (h_69.argR M0)) rfl ?_
 rintro _ w_71 ⟨rfl, hc_70⟩
 have h_72 := h_69.same hc_70
 refine qM (.tuple [(.agg ⟨(List.replicate 32 (0 : UInt8)).map vu8⟩), (vi 2)].toArray) rfl rfl (qV rfl (R.extract rfl rfl) (qV rfl (R.extract rfl rfl) ?_))
 refine WL.alloc (segs := [(32, (List.replicate 32 (0 : UInt8)).map vu8)]) h_72 (zv typeInfo23 rfl) rfl (sC (s8 lr) sN) rfl (fun b_73 w_74 h_75 => ?_)
 refine WL.storeA (b := b_73) (off := 0) [] [(32, (List.replicate 32 (0 : UInt8)).map vu8)] [(32, (List.replicate 32 (0 : UInt8)).map vu8)] [] (ys := (List.replicate 32 (0 : UInt8)).map vu8) h_75 rfl rfl sizeOf23 At.h (by decide) rfl rfl rfl rfl rfl rfl (sC (s8 lr) sN) (fun w_76 h_77 => ?_)
 refine qA (vi 2) rfl rfl ?_
 refine WL.nil (thn_n (WP.seq ?_))
 refine WP.drawT (SL w.heap.size [.blk b_73 .nw 23 [(32, (List.replicate 32 (0 : UInt8)).map vu8)], .blk b_66 .nw 70 [(1, [(vi 2)]), (32, (List.replicate 32 (0 : UInt8)).map vu8), (1, [(vi 0)]), (128, (List.replicate 128 (0 : UInt8)).map vu8), (1, [(vu64 0)]), (8, (List.replicate 8 (0 : UInt64)).map vu64), (1, [(.bool false)])], .blk b_60 .nw 23 [(32, (List.replicate 32 (0 : UInt8)).map vu8)], .blk b_52 .nw 23 [(32, (List.replicate 32 (0 : UInt8)).map vu8)], .blk b_44 .nw 23 [(32, (anD true (([1, 0, 0, 0, 0, 0, 0, 0, 0, 0, 0, 0, 0, 0, 0, 0, 0, 0, 0, 0, 0, 0, 0, 0, 0, 0, 0, 0, 0, 0, 0, 2] : List UInt8) ++ ([2, 0, 0, 0, 0, 0, 0, 0, 0, 0, 0, 0, 0, 0, 0, 0, 0, 0, 0, 0, 0, 0, 0, 0, 0, 0, 0, 0, 0, 0, 0, 2] : List UInt8)) 2 (anU true 0 ([] : Lg) (1, (List.replicate 32 (0 : UInt8)), 1, [List.replicate 32 (0 : UInt8)].flatten)) (anL true (([1, 0, 0, 0, 0, 0, 0, 0, 0, 0, 0, 0, 0, 0, 0, 0, 0, 0, 0, 0, 0, 0, 0, 0, 0, 0, 0, 0, 0, 0, 0, 2] : List UInt8) ++ ([2, 0, 0, 0, 0, 0, 0, 0, 0, 0, 0, 0, 0, 0, 0, 0, 0, 0, 0, 0, 0, 0, 0, 0, 0, 0, 0, 0, 0, 0, 0, 2] : List UInt8)) 2 0 ([] : Lg) (1, (List.replicate 32 (0 : UInt8)), 1, [List.replicate 32 (0 : UInt8)].flatten)) (1, (List.replicate 32 (0 : UInt8)), 2, [anD true (([1, 0, 0, 0, 0, 0, 0, 0, 0, 0, 0, 0, 0, 0, 0, 0, 0, 0, 0, 0, 0, 0, 0, 0, 0, 0, 0, 0, 0, 0, 0, 2] : List UInt8) ++ ([2, 0, 0, 0, 0, 0, 0, 0, 0, 0, 0, 0, 0, 0, 0, 0, 0, 0, 0, 0, 0, 0, 0, 0, 0, 0, 0, 0, 0, 0, 0, 2] : List UInt8)) 2 0 ([] : Lg) (1, (List.replicate 32 (0 : UInt8)), 1, [List.replicate 32 (0 : UInt8)].flatten), leN 8 (UInt64.ofNat 3).toNat, List.replicate 128 (0 : UInt8)].flatten)).map vu8)], .blk b_12 .nw 118 [(1, [(.bool true)]), (32, (List.replicate 32 (0 : UInt8)).map vu8), (1, [(.slice a_14 2 c_15)]), (1, [(vn (anU true (anU true 0 ([] : Lg) (1, (List.replicate 32 (0 : UInt8)), 1, [List.replicate 32 (0 : UInt8)].flatten)) (anL true (([1, 0, 0, 0, 0, 0, 0, 0, 0, 0, 0, 0, 0, 0, 0, 0, 0, 0, 0, 0, 0, 0, 0, 0, 0, 0, 0, 0, 0, 0, 0, 2] : List UInt8) ++ ([2, 0, 0, 0, 0, 0, 0, 0, 0, 0, 0, 0, 0, 0, 0, 0, 0, 0, 0, 0, 0, 0, 0, 0, 0, 0, 0, 0, 0, 0, 0, 2] : List UInt8)) 2 0 ([] : Lg) (1, (List.replicate 32 (0 : UInt8)), 1, [List.replicate 32 (0 : UInt8)].flatten)) (1, (List.replicate 32 (0 : UInt8)), 2, [anD true (([1, 0, 0, 0, 0, 0, 0, 0, 0, 0, 0, 0, 0, 0, 0, 0, 0, 0, 0, 0, 0, 0, 0, 0, 0, 0, 0, 0, 0, 0, 0, 2] : List UInt8) ++ ([2, 0, 0, 0, 0, 0, 0, 0, 0, 0, 0, 0, 0, 0, 0, 0, 0, 0, 0, 0, 0, 0, 0, 0, 0, 0, 0, 0, 0, 0, 0, 2] : List UInt8)) 2 0 ([] : Lg) (1, (List.replicate 32 (0 : UInt8)), 1, [List.replicate 32 (0 : UInt8)].flatten), leN 8 (UInt64.ofNat 3).toNat, List.replicate 128 (0 : UInt8)].flatten)))]), (1, [(.map (some b_13))]), (1, [(.slice la_39 ((anL true (([1, 0, 0, 0, 0, 0, 0, 0, 0, 0, 0, 0, 0, 0, 0, 0, 0, 0, 0, 0, 0, 0, 0, 0, 0, 0, 0, 0, 0, 0, 0, 2] : List UInt8) ++ ([2, 0, 0, 0, 0, 0, 0, 0, 0, 0, 0, 0, 0, 0, 0, 0, 0, 0, 0, 0, 0, 0, 0, 0, 0, 0, 0, 0, 0, 0, 0, 2] : List UInt8)) 2 (anU true 0 ([] : Lg) (1, (List.replicate 32 (0 : UInt8)), 1, [List.replicate 32 (0 : UInt8)].flatten)) (anL true (([1, 0, 0, 0, 0, 0, 0, 0, 0, 0, 0, 0, 0, 0, 0, 0, 0, 0, 0, 0, 0, 0, 0, 0, 0, 0, 0, 0, 0, 0, 0, 2] : List UInt8) ++ ([2, 0, 0, 0, 0, 0, 0, 0, 0, 0, 0, 0, 0, 0, 0, 0, 0, 0, 0, 0, 0, 0, 0, 0, 0, 0, 0, 0, 0, 0, 0, 2] : List UInt8)) 2 0 ([] : Lg) (1, (List.replicate 32 (0 : UInt8)), 1, [List.replicate 32 (0 : UInt8)].flatten)) (1, (List.replicate 32 (0 : UInt8)), 2, [anD true (([1, 0, 0, 0, 0, 0, 0, 0, 0, 0, 0, 0, 0, 0, 0, 0, 0, 0, 0, 0, 0, 0, 0, 0, 0, 0, 0, 0, 0, 0, 0, 2] : List UInt8) ++ ([2, 0, 0, 0, 0, 0, 0, 0, 0, 0, 0, 0, 0, 0, 0, 0, 0, 0, 0, 0, 0, 0, 0, 0, 0, 0, 0, 0, 0, 0, 0, 2] : List UInt8)) 2 0 ([] : Lg) (1, (List.replicate 32 (0 : UInt8)), 1, [List.replicate 32 (0 : UInt8)].flatten), leN 8 (UInt64.ofNat 3).toNat, List.replicate 128 (0 : UInt8)].flatten)).length) lc_40)])], .row la_39 ((anL true (([1, 0, 0, 0, 0, 0, 0, 0, 0, 0, 0, 0, 0, 0, 0, 0, 0, 0, 0, 0, 0, 0, 0, 0, 0, 0, 0, 0, 0, 0, 0, 2] : List UInt8) ++ ([2, 0, 0, 0, 0, 0, 0, 0, 0, 0, 0, 0, 0, 0, 0, 0, 0, 0, 0, 0, 0, 0, 0, 0, 0, 0, 0, 0, 0, 0, 0, 2] : List UInt8)) 2 (anU true 0 ([] : Lg) (1, (List.replicate 32 (0 : UInt8)), 1, [List.replicate 32 (0 : UInt8)].flatten)) (anL true (([1, 0, 0, 0, 0, 0, 0, 0, 0, 0, 0, 0, 0, 0, 0, 0, 0, 0, 0, 0, 0, 0, 0, 0, 0, 0, 0, 0, 0, 0, 0, 2] : List UInt8) ++ ([2, 0, 0, 0, 0, 0, 0, 0, 0, 0, 0, 0, 0, 0, 0, 0, 0, 0, 0, 0, 0, 0, 0, 0, 0, 0, 0, 0, 0, 0, 0, 2] : List UInt8)) 2 0 ([] : Lg) (1, (List.replicate 32 (0 : UInt8)), 1, [List.replicate 32 (0 : UInt8)].flatten)) (1, (List.replicate 32 (0 : UInt8)), 2, [anD true (([1, 0, 0, 0, 0, 0, 0, 0, 0, 0, 0, 0, 0, 0, 0, 0, 0, 0, 0, 0, 0, 0, 0, 0, 0, 0, 0, 0, 0, 0, 0, 2] : List UInt8) ++ ([2, 0, 0, 0, 0, 0, 0, 0, 0, 0, 0, 0, 0, 0, 0, 0, 0, 0, 0, 0, 0, 0, 0, 0, 0, 0, 0, 0, 0, 0, 0, 2] : List UInt8)) 2 0 ([] : Lg) (1, (List.replicate 32 (0 : UInt8)), 1, [List.replicate 32 (0 : UInt8)].flatten), leN 8 (UInt64.ofNat 3).toNat, List.replicate 128 (0 : UInt8)].flatten)).length) lc_40 96 67 lx_41, .obj b_13 .nw (.map (mArr (anL true (([1, 0, 0, 0, 0, 0, 0, 0, 0, 0, 0, 0, 0, 0, 0, 0, 0, 0, 0, 0, 0, 0, 0, 0, 0, 0, 0, 0, 0, 0, 0, 2] : List UInt8) ++ ([2, 0, 0, 0, 0, 0, 0, 0, 0, 0, 0, 0, 0, 0, 0, 0, 0, 0, 0, 0, 0, 0, 0, 0, 0, 0, 0, 0, 0, 0, 0, 2] : List UInt8)) 2 (anU true 0 ([] : Lg) (1, (List.replicate 32 (0 : UInt8)), 1, [List.replicate 32 (0 : UInt8)].flatten)) (anL true (([1, 0, 0, 0, 0, 0, 0, 0, 0, 0, 0, 0, 0, 0, 0, 0, 0, 0, 0, 0, 0, 0, 0, 0, 0, 0, 0, 0, 0, 0, 0, 2] : List UInt8) ++ ([2, 0, 0, 0, 0, 0, 0, 0, 0, 0, 0, 0, 0, 0, 0, 0, 0, 0, 0, 0, 0, 0, 0, 0, 0, 0, 0, 0, 0, 0, 0, 2] : List UInt8)) 2 0 ([] : Lg) (1, (List.replicate 32 (0 : UInt8)), 1, [List.replicate 32 (0 : UInt8)].flatten)) (1, (List.replicate 32 (0 : UInt8)), 2, [anD true (([1, 0, 0, 0, 0, 0, 0, 0, 0, 0, 0, 0, 0, 0, 0, 0, 0, 0, 0, 0, 0, 0, 0, 0, 0, 0, 0, 0, 0, 0, 0, 2] : List UInt8) ++ ([2, 0, 0, 0, 0, 0, 0, 0, 0, 0, 0, 0, 0, 0, 0, 0, 0, 0, 0, 0, 0, 0, 0, 0, 0, 0, 0, 0, 0, 0, 0, 2] : List UInt8)) 2 0 ([] : Lg) (1, (List.replicate 32 (0 : UInt8)), 1, [List.replicate 32 (0 : UInt8)].flatten), leN 8 (UInt64.ofNat 3).toNat, List.replicate 128 (0 : UInt8)].flatten))) ((anL true (([1, 0, 0, 0, 0, 0, 0, 0, 0, 0, 0, 0, 0, 0, 0, 0, 0, 0, 0, 0, 0, 0, 0, 0, 0, 0, 0, 0, 0, 0, 0, 2] : List UInt8) ++ ([2, 0, 0, 0, 0, 0, 0, 0, 0, 0, 0, 0, 0, 0, 0, 0, 0, 0, 0, 0, 0, 0, 0, 0, 0, 0, 0, 0, 0, 0, 0, 2] : List UInt8)) 2 (anU true 0 ([] : Lg) (1, (List.replicate 32 (0 : UInt8)), 1, [List.replicate 32 (0 : UInt8)].flatten)) (anL true (([1, 0, 0, 0, 0, 0, 0, 0, 0, 0, 0, 0, 0, 0, 0, 0, 0, 0, 0, 0, 0, 0, 0, 0, 0, 0, 0, 0, 0, 0, 0, 2] : List UInt8) ++ ([2, 0, 0, 0, 0, 0, 0, 0, 0, 0, 0, 0, 0, 0, 0, 0, 0, 0, 0, 0, 0, 0, 0, 0, 0, 0, 0, 0, 0, 0, 0, 2] : List UInt8)) 2 0 ([] : Lg) (1, (List.replicate 32 (0 : UInt8)), 1, [List.replicate 32 (0 : UInt8)].flatten)) (1, (List.replicate 32 (0 : UInt8)), 2, [anD true (([1, 0, 0, 0, 0, 0, 0, 0, 0, 0, 0, 0, 0, 0, 0, 0, 0, 0, 0, 0, 0, 0, 0, 0, 0, 0, 0, 0, 0, 0, 0, 2] : List UInt8) ++ ([2, 0, 0, 0, 0, 0, 0, 0, 0, 0, 0, 0, 0, 0, 0, 0, 0, 0, 0, 0, 0, 0, 0, 0, 0, 0, 0, 0, 0, 0, 0, 2] : List UInt8)) 2 0 ([] : Lg) (1, (List.replicate 32 (0 : UInt8)), 1, [List.replicate 32 (0 : UInt8)].flatten), leN 8 (UInt64.ofNat 3).toNat, List.replicate 128 (0 : UInt8)].flatten)).length)), .pin (sblks lx_41) (fun w => Lgs w lx_41 (anL true (([1, 0, 0, 0, 0, 0, 0, 0, 0, 0, 0, 0, 0, 0, 0, 0, 0, 0, 0, 0, 0, 0, 0, 0, 0, 0, 0, 0, 0, 0, 0, 2] : List UInt8) ++ ([2, 0, 0, 0, 0, 0, 0, 0, 0, 0, 0, 0, 0, 0, 0, 0, 0, 0, 0, 0, 0, 0, 0, 0, 0, 0, 0, 0, 0, 0, 0, 2] : List UInt8)) 2 (anU true 0 ([] : Lg) (1, (List.replicate 32 (0 : UInt8)), 1, [List.replicate 32 (0 : UInt8)].flatten)) (anL true (([1, 0, 0, 0, 0, 0, 0, 0, 0, 0, 0, 0, 0, 0, 0, 0, 0, 0, 0, 0, 0, 0, 0, 0, 0, 0, 0, 0, 0, 0, 0, 2] : List UInt8) ++ ([2, 0, 0, 0, 0, 0, 0, 0, 0, 0, 0, 0, 0, 0, 0, 0, 0, 0, 0, 0, 0, 0, 0, 0, 0, 0, 0, 0, 0, 0, 0, 2] : List UInt8)) 2 0 ([] : Lg) (1, (List.replicate 32 (0 : UInt8)), 1, [List.replicate 32 (0 : UInt8)].flatten)) (1, (List.replicate 32 (0 : UInt8)), 2, [anD true (([1, 0, 0, 0, 0, 0, 0, 0, 0, 0, 0, 0, 0, 0, 0, 0, 0, 0, 0, 0, 0, 0, 0, 0, 0, 0, 0, 0, 0, 0, 0, 2] : List UInt8) ++ ([2, 0, 0, 0, 0, 0, 0, 0, 0, 0, 0, 0, 0, 0, 0, 0, 0, 0, 0, 0, 0, 0, 0, 0, 0, 0, 0, 0, 0, 0, 0, 2] : List UInt8)) 2 0 ([] : Lg) (1, (List.replicate 32 (0 : UInt8)), 1, [List.replicate 32 (0 : UInt8)].flatten), leN 8 (UInt64.ofNat 3).toNat, List.replicate 128 (0 : UInt8)].flatten))), .view a_14 ((([1, 0, 0, 0, 0, 0, 0, 0, 0, 0, 0, 0, 0, 0, 0, 0, 0, 0, 0, 0, 0, 0, 0, 0, 0, 0, 0, 0, 0, 0, 0, 2] : List UInt8) ++ ([2, 0, 0, 0, 0, 0, 0, 0, 0, 0, 0, 0, 0, 0, 0, 0, 0, 0, 0, 0, 0, 0, 0, 0, 0, 0, 0, 0, 0, 0, 0, 2] : List UInt8)).map vu8), .blk b_29 .nw 23 [(32, (anD true (([1, 0, 0, 0, 0, 0, 0, 0, 0, 0, 0, 0, 0, 0, 0, 0, 0, 0, 0, 0, 0, 0, 0, 0, 0, 0, 0, 0, 0, 0, 0, 2] : List UInt8) ++ ([2, 0, 0, 0, 0, 0, 0, 0, 0, 0, 0, 0, 0, 0, 0, 0, 0, 0, 0, 0, 0, 0, 0, 0, 0, 0, 0, 0, 0, 0, 0, 2] : List UInt8)) 2 0 ([] : Lg) (1, (List.replicate 32 (0 : UInt8)), 1, [List.replicate 32 (0 : UInt8)].flatten)).map vu8)], .view (some ⟨b_7, 0, none⟩) ((([1, 0, 0, 0, 0, 0, 0, 0, 0, 0, 0, 0, 0, 0, 0, 0, 0, 0, 0, 0, 0, 0, 0, 0, 0, 0, 0, 0, 0, 0, 0, 2] : List UInt8) ++ ([2, 0, 0, 0, 0, 0, 0, 0, 0, 0, 0, 0, 0, 0, 0, 0, 0, 0, 0, 0, 0, 0, 0, 0, 0, 0, 0, 0, 0, 0, 0, 2] : List UInt8)).map vu8)]) (.q 0 (.s 1 (.q 2 (.q 3 (.q 4 (.s 5 (.q 6 (.q 7 (.q 8 (.q 9 (.q 11 (.s 10 (.s 12 (.q 13 (.q 14 (.q 15 (.q 16 (.q 17 (.s 18 (.q 19 (.q 20 (.q 21 (.q 22 (.s 23 (.q 24 (.q 25 (.q 26 (.q 27 (.s 28 (.q 29 (.q 30 (.q 31 .nil)))))))))))))))))))))))))))))))) (by kernel_rfl) (by kernel_rfl) rfl (by kernel_rfl) (fun w_78 hc_80 => (SL.cons ((h_77.same hc_80).ok _ M0) (SL.cons ((h_77.same hc_80).ok _ M1) (SL.cons ((h_77.same hc_80).ok _ M2) (SL.cons ((h_77.same hc_80).ok _ M3) (SL.cons ((h_77.same hc_80).ok _ M4) (SL.cons ((h_77.same hc_80).ok _ M5) (SL.cons ((h_77.same hc_80).ok _ M6) (SL.cons ((h_77.same hc_80).ok _ M7) (SL.cons ((h_77.same hc_80).ok _ M8) (SL.cons ((h_77.same hc_80).ok _ M9) (SL.cons ((h_77.same hc_80).ok _ M10) (SL.cons ((h_77.same hc_80).ok _ M11) (SL.nil _ _)))))))))))))) (fun w_78 hc_80 => ?_)
 have h_79 := h_77.same hc_80
 refine qT rfl rfl (fun wq hS => R.loadA [] [(32, (anD true (([1, 0, 0, 0, 0, 0, 0, 0, 0, 0, 0, 0, 0, 0, 0, 0, 0, 0, 0, 0, 0, 0, 0, 0, 0, 0, 0, 0, 0, 0, 0, 2] : List UInt8) ++ ([2, 0, 0, 0, 0, 0, 0, 0, 0, 0, 0, 0, 0, 0, 0, 0, 0, 0, 0, 0, 0, 0, 0, 0, 0, 0, 0, 0, 0, 0, 0, 2] : List UInt8)) 2 0 ([] : Lg) (1, (List.replicate 32 (0 : UInt8)), 1, [List.replicate 32 (0 : UInt8)].flatten)).map vu8)] [] (cs := (anD true (([1, 0, 0, 0, 0, 0, 0, 0, 0, 0, 0, 0, 0, 0, 0, 0, 0, 0, 0, 0, 0, 0, 0, 0, 0, 0, 0, 0, 0, 0, 0, 2] : List UInt8) ++ ([2, 0, 0, 0, 0, 0, 0, 0, 0, 0, 0, 0, 0, 0, 0, 0, 0, 0, 0, 0, 0, 0, 0, 0, 0, 0, 0, 0, 0, 0, 0, 2] : List UInt8)) 2 0 ([] : Lg) (1, (List.replicate 32 (0 : UInt8)), 1, [List.replicate 32 (0 : UInt8)].flatten)).map vu8) rfl isAgg23 sizeOf23 (hS _ M10) rfl rfl rfl rfl) ?_
 refine WT.s (oN rfl ?_)
 refine WL.call Tryz.call71 rfl rfl (c_dr1  _ ) rfl ?_
 rintro _ w_82 ⟨rfl, hc_81⟩
 have h_83 := h_79.same hc_81
 refine WL.nil ?_
 refine ⟨(N0_1_2_3_4_5_6_7_8_9_10_11 h_83.ok), ?_⟩
 refine qT rfl rfl (fun wq hS => R.eqA (xs := (anD true (([1, 0, 0, 0, 0, 0, 0, 0, 0, 0, 0, 0, 0, 0, 0, 0, 0, 0, 0, 0, 0, 0, 0, 0, 0, 0, 0, 0, 0, 0, 0, 2] : List UInt8) ++ ([2, 0, 0, 0, 0, 0, 0, 0, 0, 0, 0, 0, 0, 0, 0, 0, 0, 0, 0, 0, 0, 0, 0, 0, 0, 0, 0, 0, 0, 0, 0, 2] : List UInt8)) 2 0 ([] : Lg) (1, (List.replicate 32 (0 : UInt8)), 1, [List.replicate 32 (0 : UInt8)].flatten)).map vu8) (ys := ([1, 0, 0, 0, 0, 0, 0, 0, 0, 0, 0, 0, 0, 0, 0, 0, 0, 0, 0, 0, 0, 0, 0, 0, 0, 0, 0, 0, 0, 0, 0, 2] : List UInt8).map vu8) (r := true) rfl rfl eqGuardType23 kt23 (by decide) ag23 (Typ.u8s underlying23 ce23 underlying5 ce5 (anD_len (rfl : List.length (([1, 0, 0, 0, 0, 0, 0, 0, 0, 0, 0, 0, 0, 0, 0, 0, 0, 0, 0, 0, 0, 0, 0, 0, 0, 0, 0, 0, 0, 0, 0, 2] : List UInt8) ++ ([2, 0, 0, 0, 0, 0, 0, 0, 0, 0, 0, 0, 0, 0, 0, 0, 0, 0, 0, 0, 0, 0, 0, 0, 0, 0, 0, 0, 0, 0, 0, 2] : List UInt8)) = 64) h32_w_27)) (Typ.u8s underlying23 ce23 underlying5 ce5 (rfl : List.length ([1, 0, 0, 0, 0, 0, 0, 0, 0, 0, 0, 0, 0, 0, 0, 0, 0, 0, 0, 0, 0, 0, 0, 0, 0, 0, 0, 0, 0, 0, 0, 2] : List UInt8) = 32)) (eqT (congrArg (List.map vu8) (by decide +kernel)))) ?_
 refine qT rfl rfl (fun wq hS => R.move (v := (.bool true)) rfl) ?_
 refine WT.q rfl (Wn.yes rfl rfl rfl) rfl rfl (fun wq hS => R.loadA [] [(32, (anD true (([1, 0, 0, 0, 0, 0, 0, 0, 0, 0, 0, 0, 0, 0, 0, 0, 0, 0, 0, 0, 0, 0, 0, 0, 0, 0, 0, 0, 0, 0, 0, 2] : List UInt8) ++ ([2, 0, 0, 0, 0, 0, 0, 0, 0, 0, 0, 0, 0, 0, 0, 0, 0, 0, 0, 0, 0, 0, 0, 0, 0, 0, 0, 0, 0, 0, 0, 2] : List UInt8)) 2 (anU true 0 ([] : Lg) (1, (List.replicate 32 (0 : UInt8)), 1, [List.replicate 32 (0 : UInt8)].flatten)) (anL true (([1, 0, 0, 0, 0, 0, 0, 0, 0, 0, 0, 0, 0, 0, 0, 0, 0, 0, 0, 0, 0, 0, 0, 0, 0, 0, 0, 0, 0, 0, 0, 2] : List UInt8) ++ ([2, 0, 0, 0, 0, 0, 0, 0, 0, 0, 0, 0, 0, 0, 0, 0, 0, 0, 0, 0, 0, 0, 0, 0, 0, 0, 0, 0, 0, 0, 0, 2] : List UInt8)) 2 0 ([] : Lg) (1, (List.replicate 32 (0 : UInt8)), 1, [List.replicate 32 (0 : UInt8)].flatten)) (1, (List.replicate 32 (0 : UInt8)), 2, [anD true (([1, 0, 0, 0, 0, 0, 0, 0, 0, 0, 0, 0, 0, 0, 0, 0, 0, 0, 0, 0, 0, 0, 0, 0, 0, 0, 0, 0, 0, 0, 0, 2] : List UInt8) ++ ([2, 0, 0, 0, 0, 0, 0, 0, 0, 0, 0, 0, 0, 0, 0, 0, 0, 0, 0, 0, 0, 0, 0, 0, 0, 0, 0, 0, 0, 0, 0, 2] : List UInt8)) 2 0 ([] : Lg) (1, (List.replicate 32 (0 : UInt8)), 1, [List.replicate 32 (0 : UInt8)].flatten), leN 8 (UInt64.ofNat 3).toNat, List.replicate 128 (0 : UInt8)].flatten)).map vu8)] [] (cs := (anD true (([1, 0, 0, 0, 0, 0, 0, 0, 0, 0, 0, 0, 0, 0, 0, 0, 0, 0, 0, 0, 0, 0, 0, 0, 0, 0, 0, 0, 0, 0, 0, 2] : List UInt8) ++ ([2, 0, 0, 0, 0, 0, 0, 0, 0, 0, 0, 0, 0, 0, 0, 0, 0, 0, 0, 0, 0, 0, 0, 0, 0, 0, 0, 0, 0, 0, 0, 2] : List UInt8)) 2 (anU true 0 ([] : Lg) (1, (List.replicate 32 (0 : UInt8)), 1, [List.replicate 32 (0 : UInt8)].flatten)) (anL true (([1, 0, 0, 0, 0, 0, 0, 0, 0, 0, 0, 0, 0, 0, 0, 0, 0, 0, 0, 0, 0, 0, 0, 0, 0, 0, 0, 0, 0, 0, 0, 2] : List UInt8) ++ ([2, 0, 0, 0, 0, 0, 0, 0, 0, 0, 0, 0, 0, 0, 0, 0, 0, 0, 0, 0, 0, 0, 0, 0, 0, 0, 0, 0, 0, 0, 0, 2] : List UInt8)) 2 0 ([] : Lg) (1, (List.replicate 32 (0 : UInt8)), 1, [List.replicate 32 (0 : UInt8)].flatten)) (1, (List.replicate 32 (0 : UInt8)), 2, [anD true (([1, 0, 0, 0, 0, 0, 0, 0, 0, 0, 0, 0, 0, 0, 0, 0, 0, 0, 0, 0, 0, 0, 0, 0, 0, 0, 0, 0, 0, 0, 0, 2] : List UInt8) ++ ([2, 0, 0, 0, 0, 0, 0, 0, 0, 0, 0, 0, 0, 0, 0, 0, 0, 0, 0, 0, 0, 0, 0, 0, 0, 0, 0, 0, 0, 0, 0, 2] : List UInt8)) 2 0 ([] : Lg) (1, (List.replicate 32 (0 : UInt8)), 1, [List.replicate 32 (0 : UInt8)].flatten), leN 8 (UInt64.ofNat 3).toNat, List.replicate 128 (0 : UInt8)].flatten)).map vu8) rfl isAgg23 sizeOf23 (hS _ M4) rfl rfl rfl rfl) ?_
 refine WT.s ?_
 refine Op1.one rfl (Wn.yes rfl rfl rfl) ?_
 refine WL.call Tryz.call71 rfl rfl (c_dr2  _ ) rfl ?_
 rintro _ w_85 ⟨rfl, hc_84⟩
 have h_86 := h_83.same hc_84
 refine WL.nil ?_
 refine ⟨(N0_1_2_3_4_5_6_7_8_9_10_11 h_86.ok), ?_⟩
 refine WT.q rfl (Wn.yes rfl rfl rfl) rfl rfl (fun wq hS => R.eqA (xs := (anD true (([1, 0, 0, 0, 0, 0, 0, 0, 0, 0, 0, 0, 0, 0, 0, 0, 0, 0, 0, 0, 0, 0, 0, 0, 0, 0, 0, 0, 0, 0, 0, 2] : List UInt8) ++ ([2, 0, 0, 0, 0, 0, 0, 0, 0, 0, 0, 0, 0, 0, 0, 0, 0, 0, 0, 0, 0, 0, 0, 0, 0, 0, 0, 0, 0, 0, 0, 2] : List UInt8)) 2 (anU true 0 ([] : Lg) (1, (List.replicate 32 (0 : UInt8)), 1, [List.replicate 32 (0 : UInt8)].flatten)) (anL true (([1, 0, 0, 0, 0, 0, 0, 0, 0, 0, 0, 0, 0, 0, 0, 0, 0, 0, 0, 0, 0, 0, 0, 0, 0, 0, 0, 0, 0, 0, 0, 2] : List UInt8) ++ ([2, 0, 0, 0, 0, 0, 0, 0, 0, 0, 0, 0, 0, 0, 0, 0, 0, 0, 0, 0, 0, 0, 0, 0, 0, 0, 0, 0, 0, 0, 0, 2] : List UInt8)) 2 0 ([] : Lg) (1, (List.replicate 32 (0 : UInt8)), 1, [List.replicate 32 (0 : UInt8)].flatten)) (1, (List.replicate 32 (0 : UInt8)), 2, [anD true (([1, 0, 0, 0, 0, 0, 0, 0, 0, 0, 0, 0, 0, 0, 0, 0, 0, 0, 0, 0, 0, 0, 0, 0, 0, 0, 0, 0, 0, 0, 0, 2] : List UInt8) ++ ([2, 0, 0, 0, 0, 0, 0, 0, 0, 0, 0, 0, 0, 0, 0, 0, 0, 0, 0, 0, 0, 0, 0, 0, 0, 0, 0, 0, 0, 0, 0, 2] : List UInt8)) 2 0 ([] : Lg) (1, (List.replicate 32 (0 : UInt8)), 1, [List.replicate 32 (0 : UInt8)].flatten), leN 8 (UInt64.ofNat 3).toNat, List.replicate 128 (0 : UInt8)].flatten)).map vu8) (ys := ([2, 0, 0, 0, 0, 0, 0, 0, 0, 0, 0, 0, 0, 0, 0, 0, 0, 0, 0, 0, 0, 0, 0, 0, 0, 0, 0, 0, 0, 0, 0, 2] : List UInt8).map vu8) (r := true) rfl rfl eqGuardType23 kt23 (by decide) ag23 (Typ.u8s underlying23 ce23 underlying5 ce5 (anD_len (rfl : List.length (([1, 0, 0, 0, 0, 0, 0, 0, 0, 0, 0, 0, 0, 0, 0, 0, 0, 0, 0, 0, 0, 0, 0, 0, 0, 0, 0, 0, 0, 0, 0, 2] : List UInt8) ++ ([2, 0, 0, 0, 0, 0, 0, 0, 0, 0, 0, 0, 0, 0, 0, 0, 0, 0, 0, 0, 0, 0, 0, 0, 0, 0, 0, 0, 0, 0, 0, 2] : List UInt8)) = 64) h32_w_42)) (Typ.u8s underlying23 ce23 underlying5 ce5 (rfl : List.length ([2, 0, 0, 0, 0, 0, 0, 0, 0, 0, 0, 0, 0, 0, 0, 0, 0, 0, 0, 0, 0, 0, 0, 0, 0, 0, 0, 0, 0, 0, 0, 2] : List UInt8) = 32)) (eqT (congrArg (List.map vu8) (by decide +kernel)))) ?_
 refine qT rfl rfl (fun wq hS => R.pickT (v := (.bool true)) rfl rfl) ?_
 refine qT rfl rfl (fun wq hS => R.move (v := (.bool true)) rfl) ?_
 refine WT.q rfl (Wn.yes rfl rfl rfl) rfl rfl (fun wq hS => R.move (v := (vi 0)) rfl) ?_
 refine WT.q rfl (Wn.yes rfl rfl rfl) rfl rfl (fun wq hS => R.move (v := (vi 0)) rfl) ?_
 refine WT.s ?_
 refine Op1.one rfl (Wn.yes rfl rfl rfl) ?_
 refine WL.call Tryz.call26 rfl rfl (c_num12 0 (by omega) _ ) rfl ?_
 rintro _ w_88 ⟨rfl, hc_87⟩
 have h_89 := h_86.same hc_87
 refine WL.nil ?_
 refine ⟨(N0_1_2_3_4_5_6_7_8_9_10_11 h_89.ok), ?_⟩
 refine WT.s ?_
 refine Op1.one rfl (Wn.yes rfl rfl rfl) ?_
 refine WL.call Tryz.call26 rfl rfl (c_num12 0 (by omega) _ ) rfl ?_
 rintro _ w_91 ⟨rfl, hc_90⟩
 have h_92 := h_89.same hc_90
 refine WL.nil ?_
 refine ⟨(N0_1_2_3_4_5_6_7_8_9_10_11 h_92.ok), ?_⟩
 refine WT.q rfl (Wn.yes rfl rfl rfl) rfl rfl (fun wq hS => R.bin rfl rfl (bi_add (c := 0) (by omega) (by omega))) ?_
 refine WT.q rfl (Wn.yes rfl rfl rfl) rfl rfl (fun wq hS => R.bin rfl rfl (bi_eql (r := true) (by decide))) ?_
 refine qT rfl rfl (fun wq hS => R.pickT (v := (.bool true)) rfl rfl) ?_
 refine qT rfl rfl (fun wq hS => R.move (v := (.bool true)) rfl) ?_
 refine WT.q rfl (Wn.yes rfl rfl rfl) rfl rfl (fun wq hS => R.move (v := (vi 2)) rfl) ?_
 refine WT.s ?_
 refine Op1.one rfl (Wn.yes rfl rfl rfl) ?_
 refine WL.call Tryz.call26 rfl rfl (c_num12 2 (by omega) _ ) rfl ?_
 rintro _ w_94 ⟨rfl, hc_93⟩
 have h_95 := h_92.same hc_93
 refine WL.nil ?_
 refine ⟨(N0_1_2_3_4_5_6_7_8_9_10_11 h_95.ok), ?_⟩
 refine WT.q rfl (Wn.yes rfl rfl rfl) rfl rfl (fun wq hS => R.bin rfl rfl (bi_eql (r := true) (by decide))) ?_
 refine qT rfl rfl (fun wq hS => R.pickT (v := (.bool true)) rfl rfl) ?_
 refine qT rfl rfl (fun wq hS => R.move (v := (.bool true)) rfl) ?_
 refine WT.q rfl (Wn.yes rfl rfl rfl) rfl rfl (fun wq hS => R.move (v := (vi 2)) rfl) ?_
 refine WT.s ?_
 refine Op1.one rfl (Wn.yes rfl rfl rfl) ?_
 refine WL.call Tryz.call26 rfl rfl (c_num12 2 (by omega) _ ) rfl ?_
 rintro _ w_97 ⟨rfl, hc_96⟩
 have h_98 := h_95.same hc_96
 refine WL.nil ?_
 refine ⟨(N0_1_2_3_4_5_6_7_8_9_10_11 h_98.ok), ?_⟩
 refine WT.q rfl (Wn.yes rfl rfl rfl) rfl rfl (fun wq hS => R.bin rfl rfl (bi_eql (r := true) (by decide))) ?_
 refine qT rfl rfl (fun wq hS => R.pickT (v := (.bool true)) rfl rfl) ?_
 refine qT rfl rfl (fun wq hS => R.move (v := (.bool true)) rfl) ?_
 refine WT.q rfl (Wn.yes rfl rfl rfl) rfl rfl (fun wq hS => R.move (v := (vi 2)) rfl) ?_
 refine WT.s ?_
 refine Op1.one rfl (Wn.yes rfl rfl rfl) ?_
 refine WL.call Tryz.call26 rfl rfl (c_num12 2 (by omega) _ ) rfl ?_
 rintro _ w_100 ⟨rfl, hc_99⟩
 have h_101 := h_98.same hc_99
 refine WL.nil ?_
 refine ⟨(N0_1_2_3_4_5_6_7_8_9_10_11 h_101.ok), ?_⟩
 refine WT.q rfl (Wn.yes rfl rfl rfl) rfl rfl (fun wq hS => R.bin rfl rfl (bi_eql (r := true) (by decide))) ?_
 refine qT rfl rfl (fun wq hS => R.pickT (v := (.bool true)) rfl rfl) ?_
 refine qT rfl rfl (fun wq hS => R.assign (v := (.bool true)) rfl) ?_
 refine WT.nil (thn_n (WP.ret ?_))
 refine ret_of results23 (RV.tmp (v := (.bool true)) rfl RV.nil) ?_
 exact ⟨rfl, h_101.chgS⟩
end Go.Proofs.YteclkcpdclimnaaGreat
