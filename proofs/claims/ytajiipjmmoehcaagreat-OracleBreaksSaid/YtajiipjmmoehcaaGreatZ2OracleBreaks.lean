/- Rules for walks and contracts of the functions that the law reaches, one behind the other. Conditions: none beyond what each theorem states. -/
import Derived.Test.YtajiipjmmoehcaaGreatZ1OracleBreaks
set_option linter.unusedVariables false
set_option linter.unusedSimpArgs false
set_option linter.unusedSectionVars false
namespace Go.Proofs.YtajiipjmmoehcaaGreat
open Go.Proofs.Tryz
open Go.Vc Go.Orc Go.Sh Go.RowKit
set_option maxRecDepth 20000
theorem ce5 : Tryz.prog.cellsOf 5 = 1 := by kernel_rfl
theorem ce9 : Tryz.prog.cellsOf 9 = 1 := by kernel_rfl
theorem ce29 : Tryz.prog.cellsOf 29 = 32 := by kernel_rfl
theorem ce35 : Tryz.prog.cellsOf 35 = 1 := by kernel_rfl
theorem ce36 : Tryz.prog.cellsOf 36 = 1 := by kernel_rfl
theorem ce73 : Tryz.prog.cellsOf 73 = 35 := by kernel_rfl
theorem el31 : ElT Tryz.prog 31 47 67 104 := ElT.mk' underlying31 (i := Tryz.t47) rfl rfl rfl rfl rfl rfl
theorem kt73 : Tryz.prog.keyTypeAt 3 73 = true := by kernel_rfl
theorem ag73 : aggB Tryz.prog 73 = true := by unfold aggB; rw [underlying73]
theorem pl47 : ∀ fs, Tryz.prog.underlying 47 = some (.struct fs) → Places Tryz.prog fs [(0, 35), (35, 32)] := by
 intro fs h w; rw [underlying47] at h; cases h; simp
theorem pl73 : ∀ fs, Tryz.prog.underlying 73 = some (.struct fs) → Places Tryz.prog fs [(0, 1), (1, 32), (33, 1), (34, 1)] := by
 intro fs h w; rw [underlying73] at h; cases h; simp
theorem typQ (q : Qn) (h : okQ q) : Typ Tryz.prog 3 73 (kC q) := by
 obtain ⟨h0, h1, h2, h3⟩ := h
 have h : okQ q := ⟨h0, h1, h2, h3⟩
 exact (Typ.struct (h := 2) (r := [(1, [(vi q.1)]), (32, q.2.1.map vu8), (1, [(vi q.2.2.1)]), (1, [(.string (bstr q.2.2.2))])]) (cs := flat [(1, [(vi q.1)]), (32, q.2.1.map vu8), (1, [(vi q.2.2.1)]), (1, [(.string (bstr q.2.2.2))])]) underlying73 (TypF.cons (k := 1) rfl rfl (by decide) rfl (Typ.int underlying35 ce35 (WalkArith.wf_i64 (by omega))) (TypF.cons (k := 32) rfl rfl (by decide) (len_map h.1) (Typ.u8s underlying29 ce29 underlying5 ce5 h.1) (TypF.cons (k := 1) rfl rfl (by decide) rfl (Typ.int underlying36 ce36 (WalkArith.wf_i64 (by omega))) (TypF.cons (k := 1) rfl rfl (by decide) rfl (Typ.str underlying9 ce9 (by rw [bstr_size]; simp only [maxLen]; omega)) TypF.nil)))) rfl (((sC sV (sC (s8 h.1) (sC sV (sC sV sN))))).len.trans ce73.symm))

theorem c_ans_hit {w00 : World} {L : List Ent} (id : Bool) (ob mp : Nat) (ms df : List UInt8) (hms : ms.length = 32) (da : Option Addr) (dn dc u : Nat) (hdf : df.length = 32 * dn) (la : Option Addr) (lc : Nat) (lx : List Value) (lg : Lg) (hu : u ≤ 1000000) (hlg : lg.length ≤ 1000000) (kd dm : Int) (key data : List UInt8) (qa : Option Addr) (qn qc : Nat) (hq : okQ (kd, key, dm, data)) (hdl : data.length = qn) (cv : Value) (i : Nat) (hfd : fdq (kd, key, dm, data) lg 0 = some i) (w : World) (h_0 : HP w00 w (Ent.blk ob .nw 66 [(1, [(.bool id)]), (32, ms.map vu8), (1, [(.slice da dn dc)]), (1, [(vi ((u : Nat) : Int))]), (1, [(.map (some mp))]), (1, [(.slice la lg.length lc)])] :: Ent.row la lg.length lc 47 67 lx :: Ent.obj mp .nw (.map (mArr lg) lg.length) :: Ent.pin (sblks lx) (fun w => Lgs w lx lg) :: Ent.view da (df.map vu8) :: Ent.view qa (data.map vu8) :: L)) :
  Cs Tryz.prog 29 [(.pointer (some ⟨ob, 0, none⟩)), (.agg ⟨flat [(1, [(vi kd)]), (32, key.map vu8), (1, [(vi dm)]), (1, [(.slice qa qn qc)])]⟩), cv].toArray w (fun v w1 => ∃ la' lc' lx', v = (.agg ⟨(anD id df dn u lg (kd, key, dm, data)).map vu8⟩) ∧ HP w00 w1 (Ent.blk ob .nw 66 [(1, [(.bool id)]), (32, ms.map vu8), (1, [(.slice da dn dc)]), (1, [(vi (((anU id u lg (kd, key, dm, data)) : Nat) : Int))]), (1, [(.map (some mp))]), (1, [(.slice la' ((anL id df dn u lg (kd, key, dm, data)).length) lc')])] :: Ent.row la' ((anL id df dn u lg (kd, key, dm, data)).length) lc' 47 67 lx' :: Ent.obj mp .nw (.map (mArr (anL id df dn u lg (kd, key, dm, data))) ((anL id df dn u lg (kd, key, dm, data)).length)) :: Ent.pin (sblks lx') (fun w => Lgs w lx' (anL id df dn u lg (kd, key, dm, data))) :: Ent.view da (df.map vu8) :: Ent.view qa (data.map vu8) :: L)) := by
 have hlgs : Lgs w lx lg := (h_0.ok _ M3).1
 have hlo := hlgs.ok
 have hqn : data.length ≤ 1000000000 := hq.2.2.2
 have hil : i < lg.length := by have := fdq_lt hfd; omega
 refine Cs.of (n := 74) (args := [(pO ob 0), (.agg ⟨flat [(1, [(vi kd)]), (32, key.map vu8), (1, [(vi dm)]), (1, [(.slice qa qn qc)])]⟩), cv]) Tryz.func29 rfl rfl rfl ?_
 refine WP.seq (WP.reg ?_)
 refine WL.box (segs := [(1, [(vi kd)]), (32, key.map vu8), (1, [(vi dm)]), (1, [(.slice qa qn qc)])]) h_0 rfl rfl (sC sV (sC (s8 hq.1) (sC sV (sC sV sN)))) rfl (fun b_1 w_2 h_3 => ?_)
 refine WL.alloc (segs := [(32, (zB 32).map vu8)]) h_3 (zv typeInfo29 rfl) rfl (sC (s8 lr) sN) rfl (fun b_4 w_5 h_6 => ?_)
 refine WL.nil (thn_n (WP.seq (WP.reg ?_)))
 refine qV rfl (R.fieldAddr (off' := 0) rfl underlying39 rfl sizeOf35 rfl rfl) (qV rfl (R.load1 rfl isAgg35 (h_6.ok _ M1) Sg.h) (qV rfl (R.fieldAddr (off' := 1) rfl underlying39 rfl sizeOf29 rfl rfl) (qV rfl (R.loadA [(1, [(vi kd)])] [(32, key.map vu8)] [(1, [(vi dm)]), (1, [(.slice qa qn qc)])] (cs := key.map vu8) rfl isAgg29 sizeOf29 (h_6.ok _ M1) rfl rfl rfl rfl) (qV rfl (R.fieldAddr (off' := 33) rfl underlying39 rfl sizeOf36 rfl rfl) (qV rfl (R.load1 rfl isAgg36 (h_6.ok _ M1) (Sg.t rfl (Sg.t rfl Sg.h))) (qV rfl (R.fieldAddr (off' := 34) rfl underlying39 rfl sizeOf37 rfl rfl) (qV rfl (R.load1 rfl isAgg37 (h_6.ok _ M1) (Sg.t rfl (Sg.t rfl (Sg.t rfl Sg.h)))) (qV rfl (R.toStr (bs := data) rfl underlying37 underlying5 underlying9 (viewV (h_6.ok _ M7)) hdl) (qV rfl (R.buildS (pl := [(0, 1), (1, 32), (33, 1), (34, 1)]) (zs := [(1, [(vi 0)]), (32, (zB 32).map vu8), (1, [(vi 0)]), (1, [(.string (bstr ([] : List UInt8)))])]) (vs := [(0, (vi kd)), (1, (.agg ⟨key.map vu8⟩)), (2, (vi dm)), (3, (.string (bstr data)))]) (out := [(1, [(vi kd)]), (32, key.map vu8), (1, [(vi dm)]), (1, [(.string (bstr data))])]) underlying73 (zv typeInfo73 rfl) rfl (sC sV (sC (s8 lr) (sC sV (sC sV sN)))) (pl73 _ underlying73) rfl (FillR.cons [] [(1, [(vi 0)])] [(1, [(vi kd)])] [(32, (zB 32).map vu8), (1, [(vi 0)]), (1, [(.string (bstr ([] : List UInt8)))])] rfl rfl rfl rfl (sC sV sN) rfl rfl rfl (FillR.cons [(1, [(vi kd)])] [(32, (zB 32).map vu8)] [(32, key.map vu8)] [(1, [(vi 0)]), (1, [(.string (bstr ([] : List UInt8)))])] rfl rfl rfl rfl (sC (s8 hq.1) sN) rfl rfl rfl (FillR.cons [(1, [(vi kd)]), (32, key.map vu8)] [(1, [(vi 0)])] [(1, [(vi dm)])] [(1, [(.string (bstr ([] : List UInt8)))])] rfl rfl rfl rfl (sC sV sN) rfl rfl rfl (FillR.cons [(1, [(vi kd)]), (32, key.map vu8), (1, [(vi dm)])] [(1, [(.string (bstr ([] : List UInt8)))])] [(1, [(.string (bstr data))])] [] rfl rfl rfl rfl (sC sV sN) rfl rfl rfl FillR.nil)))) rfl) ?_)))))))))
 refine WL.alloc (segs := [(1, [(vi 0)]), (32, (zB 32).map vu8), (1, [(vi 0)]), (1, [(.string (bstr ([] : List UInt8)))])]) h_6 (zv typeInfo73 rfl) rfl (sC sV (sC (s8 lr) (sC sV (sC sV sN)))) rfl (fun b_8 w_9 h_10 => ?_)
 refine WL.storeA [] [(1, [(vi 0)]), (32, (zB 32).map vu8), (1, [(vi 0)]), (1, [(.string (bstr ([] : List UInt8)))])] [(1, [(vi kd)]), (32, key.map vu8), (1, [(vi dm)]), (1, [(.string (bstr data))])] [] h_10 rfl rfl sizeOf73 At.h (by decide) rfl rfl rfl rfl rfl rfl (sC sV (sC (s8 hq.1) (sC sV (sC sV sN)))) (fun w_11 h_12 => ?_)
 refine WL.nil (thn_n (WP.seq (WP.seq ?_)))
 refine WP.drawT (SL w00.heap.size [.blk b_8 .nw 73 [(1, [(vi kd)]), (32, key.map vu8), (1, [(vi dm)]), (1, [(.string (bstr data))])], .blk b_4 .nw 29 [(32, (zB 32).map vu8)], .blk b_1 .nw 39 [(1, [(vi kd)]), (32, key.map vu8), (1, [(vi dm)]), (1, [(.slice qa qn qc)])], .blk ob .nw 66 [(1, [(.bool id)]), (32, ms.map vu8), (1, [(.slice da dn dc)]), (1, [(vn u)]), (1, [(.map (some mp))]), (1, [(.slice la lg.length lc)])], .row la lg.length lc 47 67 lx, .obj mp .nw (.map (mArr lg) lg.length), .pin (sblks lx) (fun w => Lgs w lx lg), .view da (df.map vu8), .view qa (data.map vu8)]) (.q 0 (.q 1 (.q 2 (.q 3 (.q 4 (.s 5 (.q 6 (.q 7 (.q 8 (.q 9 (.q 10 .nil))))))))))) (by kernel_rfl) (by kernel_rfl) rfl (by kernel_rfl) (fun w_13 hc_15 => (SL.cons ((h_12.same hc_15).ok _ M0) (SL.cons ((h_12.same hc_15).ok _ M1) (SL.cons ((h_12.same hc_15).ok _ M2) (SL.cons ((h_12.same hc_15).ok _ M3) (SL.cons ((h_12.same hc_15).ok _ M4) (SL.cons ((h_12.same hc_15).ok _ M5) (SL.cons ((h_12.same hc_15).ok _ M6) (SL.cons ((h_12.same hc_15).ok _ M7) (SL.cons ((h_12.same hc_15).ok _ M8) (SL.nil _ _))))))))))) (fun w_13 hc_15 => ?_)
 have h_14 := h_12.same hc_15
 refine qT rfl rfl (fun wq hS => R.move (v := (pO ob 0)) rfl) ?_
 refine qT rfl rfl (fun wq hS => R.nilCheck rfl) ?_
 refine qT rfl rfl (fun wq hS => R.fieldAddr (off' := 35) rfl underlying66 rfl sizeOf64 rfl rfl) ?_
 refine qT rfl rfl (fun wq hS => R.load1 rfl isAgg64 (hS _ M3) (Sg.t rfl (Sg.t rfl (Sg.t rfl (Sg.t rfl Sg.h))))) ?_
 refine qT rfl rfl (fun wq hS => R.loadA [] [(1, [(vi kd)]), (32, key.map vu8), (1, [(vi dm)]), (1, [(.string (bstr data))])] [] rfl isAgg73 sizeOf73 (hS _ M0) rfl rfl rfl rfl) ?_
 refine WT.s (oN rfl ?_)
 refine qV rfl (R.lookup (r := some (i, vi (i : Int))) (z := (vi 0)) (v := (vn i)) (ok := true) rfl rfl underlying64 (h_14.ok _ M5) (Ck.agg kt73 (by decide) ag73 (typQ (kd, key, dm, data) hq)) (log_hit kt73 (by decide) ag73 typQ hq hlo hfd) (zv typeInfo3 rfl) rfl rfl) ?_
 refine WL.nil ?_
 refine ⟨(N0_1_2_3_4_5_6_7_8 h_14.ok), ?_⟩
 refine qT rfl rfl (fun wq hS => R.move (v := (.tuple [(vn i), (.bool true)].toArray)) rfl) ?_
 refine qT rfl rfl (fun wq hS => R.extract rfl rfl) ?_
 refine qT rfl rfl (fun wq hS => R.extract rfl rfl) ?_
 refine qT rfl rfl (fun wq hS => R.assign (v := (vn i)) rfl) ?_
 refine qT rfl rfl (fun wq hS => R.assign (v := (.bool true)) rfl) ?_
 refine WT.nil (thn_n (WP.seq (WP.reg ?_)))
 refine qM (.bool true) rfl rfl ?_
 refine WL.nil (thn_n ?_)
 refine WP.condT rfl ?_
 refine WP.seq (WP.reg ?_)
 refine qM (pO ob 0) rfl rfl (qV rfl (R.nilCheck rfl) (qV rfl (R.fieldAddr (off' := 36) rfl underlying66 rfl sizeOf31 rfl rfl) (qV rfl (R.load1 rfl isAgg31 (h_14.ok _ M3) (Sg.t rfl (Sg.t rfl (Sg.t rfl (Sg.t rfl (Sg.t rfl Sg.h)))))) (qM (vn i) rfl rfl (qV rfl (R.indexS (a := la) (i := i) (off := i * 67) (xs := lx) rfl rfl rfl (by omega) (ownView (h_14.ok _ M4)) (by rw [Lgs.len hlgs]; omega) underlying31 sizeOf47 rfl) (qV rfl (R.fieldG (a := la) (i := i * 67) (off' := i * 67 + 35) rfl underlying47 rfl sizeOf29 rfl rfl) (qV rfl (R.loadGA (a := la) (i := i * 67 + 35) (xs := lx) (cs := ((lg.getD i ((kd, key, dm, data), [])).2).map vu8) rfl (ownView (h_14.ok _ M4)) isAgg29 sizeOf29 (Lgs.ans (z := ((kd, key, dm, data), [])) hlgs (i := i) hil).1 (len_map (Lgs.ans (z := ((kd, key, dm, data), [])) hlgs (i := i) hil).2) (by decide)) ?_)))))))
 refine WL.storeA [] [(32, (zB 32).map vu8)] [(32, ((lg.getD i ((kd, key, dm, data), [])).2).map vu8)] [] h_14 rfl rfl sizeOf29 Y1 (by decide) rfl rfl rfl rfl rfl rfl (sC (s8 ((Lgs.ans (z := ((kd, key, dm, data), [])) hlgs (i := i) hil).2)) sN) (fun w_16 h_17 => ?_)
 refine WL.nil (thn_n (WP.ret (thn_r ?_)))
 refine ret_of results29 (RV.cell rfl (h_17.loadA (cs := ((lg.getD i ((kd, key, dm, data), [])).2).map vu8) isAgg29 sizeOf29 M1 rfl rfl) RV.nil) ?_
 have h_26 := ((((((((h_17.drop rfl).drop rfl).drop rfl).up J5).up J5).up J5).up J5).up J5).up J5
 exact ⟨la, lc, lx, by rw [anD_hit hfd]; rfl, by rw [anU_hit hfd, anL_hit hfd]; exact h_26⟩

theorem c_ans_missT {w00 : World} {L : List Ent} (ob mp : Nat) (ms df : List UInt8) (hms : ms.length = 32) (da : Option Addr) (dn dc u : Nat) (hdf : df.length = 32 * dn) (la : Option Addr) (lc : Nat) (lx : List Value) (lg : Lg) (hu : u ≤ 1000000) (hlg : lg.length ≤ 1000000) (kd dm : Int) (key data : List UInt8) (qa : Option Addr) (qn qc : Nat) (hq : okQ (kd, key, dm, data)) (hdl : data.length = qn) (cv : Value) (hfd : fdq (kd, key, dm, data) lg 0 = none) (w : World) (h_0 : HP w00 w (Ent.blk ob .nw 66 [(1, [(.bool true)]), (32, ms.map vu8), (1, [(.slice da dn dc)]), (1, [(vi ((u : Nat) : Int))]), (1, [(.map (some mp))]), (1, [(.slice la lg.length lc)])] :: Ent.row la lg.length lc 47 67 lx :: Ent.obj mp .nw (.map (mArr lg) lg.length) :: Ent.pin (sblks lx) (fun w => Lgs w lx lg) :: Ent.view da (df.map vu8) :: Ent.view qa (data.map vu8) :: L)) :
  Cs Tryz.prog 29 [(.pointer (some ⟨ob, 0, none⟩)), (.agg ⟨flat [(1, [(vi kd)]), (32, key.map vu8), (1, [(vi dm)]), (1, [(.slice qa qn qc)])]⟩), cv].toArray w (fun v w1 => ∃ la' lc' lx', v = (.agg ⟨(anD true df dn u lg (kd, key, dm, data)).map vu8⟩) ∧ HP w00 w1 (Ent.blk ob .nw 66 [(1, [(.bool true)]), (32, ms.map vu8), (1, [(.slice da dn dc)]), (1, [(vi (((anU true u lg (kd, key, dm, data)) : Nat) : Int))]), (1, [(.map (some mp))]), (1, [(.slice la' ((anL true df dn u lg (kd, key, dm, data)).length) lc')])] :: Ent.row la' ((anL true df dn u lg (kd, key, dm, data)).length) lc' 47 67 lx' :: Ent.obj mp .nw (.map (mArr (anL true df dn u lg (kd, key, dm, data))) ((anL true df dn u lg (kd, key, dm, data)).length)) :: Ent.pin (sblks lx') (fun w => Lgs w lx' (anL true df dn u lg (kd, key, dm, data))) :: Ent.view da (df.map vu8) :: Ent.view qa (data.map vu8) :: L)) := by
 have hlgs : Lgs w lx lg := (h_0.ok _ M3).1
 have hlo := hlgs.ok
 have hqn : data.length ≤ 1000000000 := hq.2.2.2
 refine Cs.of (n := 74) (args := [(pO ob 0), (.agg ⟨flat [(1, [(vi kd)]), (32, key.map vu8), (1, [(vi dm)]), (1, [(.slice qa qn qc)])]⟩), cv]) Tryz.func29 rfl rfl rfl ?_
 refine WP.seq (WP.reg ?_)
 refine WL.box (segs := [(1, [(vi kd)]), (32, key.map vu8), (1, [(vi dm)]), (1, [(.slice qa qn qc)])]) h_0 rfl rfl (sC sV (sC (s8 hq.1) (sC sV (sC sV sN)))) rfl (fun b_1 w_2 h_3 => ?_)
 refine WL.alloc (segs := [(32, (zB 32).map vu8)]) h_3 (zv typeInfo29 rfl) rfl (sC (s8 lr) sN) rfl (fun b_4 w_5 h_6 => ?_)
 refine WL.nil (thn_n (WP.seq (WP.reg ?_)))
 refine qV rfl (R.fieldAddr (off' := 0) rfl underlying39 rfl sizeOf35 rfl rfl) (qV rfl (R.load1 rfl isAgg35 (h_6.ok _ M1) Sg.h) (qV rfl (R.fieldAddr (off' := 1) rfl underlying39 rfl sizeOf29 rfl rfl) (qV rfl (R.loadA [(1, [(vi kd)])] [(32, key.map vu8)] [(1, [(vi dm)]), (1, [(.slice qa qn qc)])] (cs := key.map vu8) rfl isAgg29 sizeOf29 (h_6.ok _ M1) rfl rfl rfl rfl) (qV rfl (R.fieldAddr (off' := 33) rfl underlying39 rfl sizeOf36 rfl rfl) (qV rfl (R.load1 rfl isAgg36 (h_6.ok _ M1) (Sg.t rfl (Sg.t rfl Sg.h))) (qV rfl (R.fieldAddr (off' := 34) rfl underlying39 rfl sizeOf37 rfl rfl) (qV rfl (R.load1 rfl isAgg37 (h_6.ok _ M1) (Sg.t rfl (Sg.t rfl (Sg.t rfl Sg.h)))) (qV rfl (R.toStr (bs := data) rfl underlying37 underlying5 underlying9 (viewV (h_6.ok _ M7)) hdl) (qV rfl (R.buildS (pl := [(0, 1), (1, 32), (33, 1), (34, 1)]) (zs := [(1, [(vi 0)]), (32, (zB 32).map vu8), (1, [(vi 0)]), (1, [(.string (bstr ([] : List UInt8)))])]) (vs := [(0, (vi kd)), (1, (.agg ⟨key.map vu8⟩)), (2, (vi dm)), (3, (.string (bstr data)))]) (out := [(1, [(vi kd)]), (32, key.map vu8), (1, [(vi dm)]), (1, [(.string (bstr data))])]) underlying73 (zv typeInfo73 rfl) rfl (sC sV (sC (s8 lr) (sC sV (sC sV sN)))) (pl73 _ underlying73) rfl (FillR.cons [] [(1, [(vi 0)])] [(1, [(vi kd)])] [(32, (zB 32).map vu8), (1, [(vi 0)]), (1, [(.string (bstr ([] : List UInt8)))])] rfl rfl rfl rfl (sC sV sN) rfl rfl rfl (FillR.cons [(1, [(vi kd)])] [(32, (zB 32).map vu8)] [(32, key.map vu8)] [(1, [(vi 0)]), (1, [(.string (bstr ([] : List UInt8)))])] rfl rfl rfl rfl (sC (s8 hq.1) sN) rfl rfl rfl (FillR.cons [(1, [(vi kd)]), (32, key.map vu8)] [(1, [(vi 0)])] [(1, [(vi dm)])] [(1, [(.string (bstr ([] : List UInt8)))])] rfl rfl rfl rfl (sC sV sN) rfl rfl rfl (FillR.cons [(1, [(vi kd)]), (32, key.map vu8), (1, [(vi dm)])] [(1, [(.string (bstr ([] : List UInt8)))])] [(1, [(.string (bstr data))])] [] rfl rfl rfl rfl (sC sV sN) rfl rfl rfl FillR.nil)))) rfl) ?_)))))))))
 refine WL.alloc (segs := [(1, [(vi 0)]), (32, (zB 32).map vu8), (1, [(vi 0)]), (1, [(.string (bstr ([] : List UInt8)))])]) h_6 (zv typeInfo73 rfl) rfl (sC sV (sC (s8 lr) (sC sV (sC sV sN)))) rfl (fun b_8 w_9 h_10 => ?_)
 refine WL.storeA [] [(1, [(vi 0)]), (32, (zB 32).map vu8), (1, [(vi 0)]), (1, [(.string (bstr ([] : List UInt8)))])] [(1, [(vi kd)]), (32, key.map vu8), (1, [(vi dm)]), (1, [(.string (bstr data))])] [] h_10 rfl rfl sizeOf73 At.h (by decide) rfl rfl rfl rfl rfl rfl (sC sV (sC (s8 hq.1) (sC sV (sC sV sN)))) (fun w_11 h_12 => ?_)
 refine WL.nil (thn_n (WP.seq (WP.seq ?_)))
 refine WP.drawT (SL w00.heap.size [.blk b_8 .nw 73 [(1, [(vi kd)]), (32, key.map vu8), (1, [(vi dm)]), (1, [(.string (bstr data))])], .blk b_4 .nw 29 [(32, (zB 32).map vu8)], .blk b_1 .nw 39 [(1, [(vi kd)]), (32, key.map vu8), (1, [(vi dm)]), (1, [(.slice qa qn qc)])], .blk ob .nw 66 [(1, [(.bool true)]), (32, ms.map vu8), (1, [(.slice da dn dc)]), (1, [(vn u)]), (1, [(.map (some mp))]), (1, [(.slice la lg.length lc)])], .row la lg.length lc 47 67 lx, .obj mp .nw (.map (mArr lg) lg.length), .pin (sblks lx) (fun w => Lgs w lx lg), .view da (df.map vu8), .view qa (data.map vu8)]) (.q 0 (.q 1 (.q 2 (.q 3 (.q 4 (.s 5 (.q 6 (.q 7 (.q 8 (.q 9 (.q 10 .nil))))))))))) (by kernel_rfl) (by kernel_rfl) rfl (by kernel_rfl) (fun w_13 hc_15 => (SL.cons ((h_12.same hc_15).ok _ M0) (SL.cons ((h_12.same hc_15).ok _ M1) (SL.cons ((h_12.same hc_15).ok _ M2) (SL.cons ((h_12.same hc_15).ok _ M3) (SL.cons ((h_12.same hc_15).ok _ M4) (SL.cons ((h_12.same hc_15).ok _ M5) (SL.cons ((h_12.same hc_15).ok _ M6) (SL.cons ((h_12.same hc_15).ok _ M7) (SL.cons ((h_12.same hc_15).ok _ M8) (SL.nil _ _))))))))))) (fun w_13 hc_15 => ?_)
 have h_14 := h_12.same hc_15
 refine qT rfl rfl (fun wq hS => R.move (v := (pO ob 0)) rfl) ?_
 refine qT rfl rfl (fun wq hS => R.nilCheck rfl) ?_
 refine qT rfl rfl (fun wq hS => R.fieldAddr (off' := 35) rfl underlying66 rfl sizeOf64 rfl rfl) ?_
 refine qT rfl rfl (fun wq hS => R.load1 rfl isAgg64 (hS _ M3) (Sg.t rfl (Sg.t rfl (Sg.t rfl (Sg.t rfl Sg.h))))) ?_
 refine qT rfl rfl (fun wq hS => R.loadA [] [(1, [(vi kd)]), (32, key.map vu8), (1, [(vi dm)]), (1, [(.string (bstr data))])] [] rfl isAgg73 sizeOf73 (hS _ M0) rfl rfl rfl rfl) ?_
 refine WT.s (oN rfl ?_)
 refine qV rfl (R.lookup (r := none) (z := (vi 0)) (v := (vi 0)) (ok := false) rfl rfl underlying64 (h_14.ok _ M5) (Ck.agg kt73 (by decide) ag73 (typQ (kd, key, dm, data) hq)) (log_miss kt73 (by decide) ag73 typQ hq hlo hfd) (zv typeInfo3 rfl) rfl rfl) ?_
 refine WL.nil ?_
 refine ⟨(N0_1_2_3_4_5_6_7_8 h_14.ok), ?_⟩
 refine qT rfl rfl (fun wq hS => R.move (v := (.tuple [(vi 0), (.bool false)].toArray)) rfl) ?_
 refine qT rfl rfl (fun wq hS => R.extract rfl rfl) ?_
 refine qT rfl rfl (fun wq hS => R.extract rfl rfl) ?_
 refine qT rfl rfl (fun wq hS => R.assign (v := (vi 0)) rfl) ?_
 refine qT rfl rfl (fun wq hS => R.assign (v := (.bool false)) rfl) ?_
 refine WT.nil (thn_n (WP.seq (WP.reg ?_)))
 refine qM (.bool false) rfl rfl ?_
 refine WL.nil (thn_n ?_)
 refine WP.condF rfl ?_
 refine WP.skip (thn_n (WP.seq (WP.reg ?_)))
 refine WL.alloc (segs := [(32, (zB 32).map vu8)]) h_14 (zv typeInfo29 rfl) rfl (sC (s8 lr) sN) rfl (fun b_16 w_17 h_18 => ?_)
 refine WL.nil (thn_n (WP.seq (WP.seq (WP.reg ?_))))
 refine qM (pO ob 0) rfl rfl (qV rfl (R.nilCheck rfl) (qV rfl (R.fieldAddr (off' := 0) rfl underlying66 rfl sizeOf4 rfl rfl) (qV rfl (R.load1 rfl isAgg4 (h_18.ok _ M4) Sg.h) ?_)))
 refine WL.nil (thn_n ?_)
 refine WP.condT rfl ?_
 refine WP.reg ?_
 refine qM (pO ob 0) rfl rfl ?_
 have h_20 := (h_18.up J8).up J5
 refine WL.call Tryz.call46 rfl rfl (c_draw true ob mp ms df hms da dn dc u hdf la lc lx lg (by omega) (by omega) _ h_20) rfl ?_
 rintro _ w_21 ⟨rfl, h_22⟩
 refine WL.storeA [] [(32, (zB 32).map vu8)] [(32, (drawF df dn u).map vu8)] [] h_22 rfl rfl sizeOf29 Y2 (by decide) rfl rfl rfl rfl rfl rfl (sC (s8 (drawF_len hdf)) sN) (fun w_23 h_24 => ?_)
 refine WL.nil (thn_n (WP.seq (WP.reg ?_)))
 refine qV rfl (R.fieldAddr (off' := 34) rfl underlying39 rfl sizeOf37 rfl rfl) (qV rfl (R.load1 rfl isAgg37 (h_24.ok _ M5) (Sg.t rfl (Sg.t rfl (Sg.t rfl Sg.h)))) ?_)
 refine WL.call Tryz.call27 rfl rfl (c_Clone qa qn qc data hdl (by omega) _ (viewV (h_24.ok _ M9))) rfl ?_
 rintro _ w_27 ⟨a_25, cap_26, rfl, hc_28, ho_29⟩
 have h_30 := h_24.gotRow hc_28 ho_29
 refine qV rfl (R.fieldAddr (off' := 34) rfl underlying39 rfl sizeOf37 rfl rfl) ?_
 refine WL.store1 h_30 rfl rfl sizeOf37 rfl Y6 (by decide) (Sg.t rfl (Sg.t rfl (Sg.t rfl Sg.h))) (fun w_31 h_32 => ?_)
 refine WL.nil (thn_n (WP.seq ?_))
 refine WP.drawT (SL w00.heap.size [.row a_25 qn cap_26 5 1 (data.map vu8), .blk ob .nw 66 [(1, [(.bool true)]), (32, ms.map vu8), (1, [(.slice da dn dc)]), (1, [(vn ((u + 1)))]), (1, [(.map (some mp))]), (1, [(.slice la lg.length lc)])], .view da (df.map vu8), .blk b_16 .nw 29 [(32, (drawF df dn u).map vu8)], .blk b_8 .nw 73 [(1, [(vi kd)]), (32, key.map vu8), (1, [(vi dm)]), (1, [(.string (bstr data))])], .blk b_4 .nw 29 [(32, (zB 32).map vu8)], .blk b_1 .nw 39 [(1, [(vi kd)]), (32, key.map vu8), (1, [(vi dm)]), (1, [(.slice a_25 qn cap_26)])], .row la lg.length lc 47 67 lx, .pin (sblks lx) (fun w => Lgs w lx lg), .view qa (data.map vu8)]) (.q 0 (.q 1 (.q 2 (.q 3 (.q 4 (.q 5 (.q 6 (.q 7 (.q 8 (.q 9 (.s 10 .nil))))))))))) (by kernel_rfl) (by kernel_rfl) rfl (by kernel_rfl) (fun w_33 hc_35 => (SL.cons ((h_32.same hc_35).ok _ M0) (SL.cons ((h_32.same hc_35).ok _ M1) (SL.cons ((h_32.same hc_35).ok _ M2) (SL.cons ((h_32.same hc_35).ok _ M3) (SL.cons ((h_32.same hc_35).ok _ M4) (SL.cons ((h_32.same hc_35).ok _ M5) (SL.cons ((h_32.same hc_35).ok _ M6) (SL.cons ((h_32.same hc_35).ok _ M7) (SL.cons ((h_32.same hc_35).ok _ M9) (SL.cons ((h_32.same hc_35).ok _ M10) (SL.nil _ _)))))))))))) (fun w_33 hc_35 => ?_)
 have h_34 := h_32.same hc_35
 refine qT rfl rfl (fun wq hS => R.move (v := (pO ob 0)) rfl) ?_
 refine qT rfl rfl (fun wq hS => R.nilCheck rfl) ?_
 refine qT rfl rfl (fun wq hS => R.fieldAddr (off' := 35) rfl underlying66 rfl sizeOf64 rfl rfl) ?_
 refine qT rfl rfl (fun wq hS => R.load1 rfl isAgg64 (hS _ M1) (Sg.t rfl (Sg.t rfl (Sg.t rfl (Sg.t rfl Sg.h))))) ?_
 refine qT rfl rfl (fun wq hS => R.loadA [] [(1, [(vi kd)]), (32, key.map vu8), (1, [(vi dm)]), (1, [(.string (bstr data))])] [] rfl isAgg73 sizeOf73 (hS _ M4) rfl rfl rfl rfl) ?_
 refine qT rfl rfl (fun wq hS => R.move (v := (pO ob 0)) rfl) ?_
 refine qT rfl rfl (fun wq hS => R.nilCheck rfl) ?_
 refine qT rfl rfl (fun wq hS => R.fieldAddr (off' := 36) rfl underlying66 rfl sizeOf31 rfl rfl) ?_
 refine qT rfl rfl (fun wq hS => R.load1 rfl isAgg31 (hS _ M1) (Sg.t rfl (Sg.t rfl (Sg.t rfl (Sg.t rfl (Sg.t rfl Sg.h)))))) ?_
 refine qT rfl rfl (fun wq hS => R.lenS (a := la) (m := lg.length) rfl rfl underlying31) ?_
 refine WT.s (oN rfl ?_)
 refine WL.mapUpdate (k := (.agg ⟨flat [(1, [(vi kd)]), (32, key.map vu8), (1, [(vi dm)]), (1, [(.string (bstr data))])]⟩)) (v := (vn (lg.length))) h_34 rfl rfl rfl underlying64 Y8 (by decide) (Ck.agg kt73 (by decide) ag73 (typQ (kd, key, dm, data) hq)) (log_miss kt73 (by decide) ag73 typQ hq hlo hfd) (fun w_36 h_37 => ?_)
 refine WL.nil ?_
 refine ⟨(SL.cons (h_37.ok _ M0) (SL.cons (h_37.ok _ M1) (SL.cons (h_37.ok _ M2) (SL.cons (h_37.ok _ M3) (SL.cons (h_37.ok _ M4) (SL.cons (h_37.ok _ M5) (SL.cons (h_37.ok _ M6) (SL.cons (h_37.ok _ M7) (SL.cons (h_37.ok _ M9) (SL.cons (h_37.ok _ M10) (SL.nil _ _))))))))))), ?_⟩
 refine WT.nil (thn_n (WP.seq ?_))
 refine WP.cutG (G := Nat × Option Addr × Nat) [61, 62, 63, 64, 65, 66, 67, 68, 69, 70, 71, 72] (fun (bY11Y8Y0Y0, aY11Y9Y0Y0, cY11Y9Y0Y0) => [(61, (pO ob 0)), (62, (pO ob 0)), (63, (pO ob 0)), (64, (pO ob 36)), (66, (.agg ⟨flat [(1, [(vi kd)]), (32, key.map vu8), (1, [(vi dm)]), (1, [(.slice a_25 qn cap_26)])]⟩)), (67, (.agg ⟨(drawF df dn u).map vu8⟩)), (68, (.agg ⟨flat [(1, [(vi kd)]), (32, key.map vu8), (1, [(vi dm)]), (1, [(.slice a_25 qn cap_26)]), (32, (drawF df dn u).map vu8)]⟩)), (65, (.slice la lg.length lc)), (69, (.slice (some ⟨bY11Y8Y0Y0, 0, none⟩) 1 1)), (70, (.slice aY11Y9Y0Y0 (lg.length + 1) cY11Y9Y0Y0)), (71, (pO ob 0)), (72, (pO ob 36))]) (fun (bY11Y8Y0Y0, aY11Y9Y0Y0, cY11Y9Y0Y0) w1 => HP w00 w1 (Ent.blk bY11Y8Y0Y0 .nw 47 [(67, aC (kd, key, dm, data) (.slice a_25 qn cap_26) (drawF df dn u))] :: Ent.row a_25 qn cap_26 5 1 (data.map vu8) :: Ent.blk ob .nw 66 [(1, [(.bool true)]), (32, ms.map vu8), (1, [(.slice da dn dc)]), (1, [(vn ((u + 1)))]), (1, [(.map (some mp))]), (1, [(.slice aY11Y9Y0Y0 (lg.length + 1) cY11Y9Y0Y0)])] :: Ent.view da (df.map vu8) :: Ent.blk b_16 .nw 29 [(32, (drawF df dn u).map vu8)] :: Ent.blk b_8 .nw 73 [(1, [(vi kd)]), (32, key.map vu8), (1, [(vi dm)]), (1, [(.string (bstr data))])] :: Ent.blk b_4 .nw 29 [(32, (zB 32).map vu8)] :: Ent.blk b_1 .nw 39 [(1, [(vi kd)]), (32, key.map vu8), (1, [(vi dm)]), (1, [(.slice a_25 qn cap_26)])] :: Ent.row aY11Y9Y0Y0 (lg.length + 1) cY11Y9Y0Y0 47 67 (lx ++ aC (kd, key, dm, data) (.slice a_25 qn cap_26) (drawF df dn u)) :: Ent.obj mp .nw (.map ((mArr lg).push { key := (.agg ⟨flat [(1, [(vi kd)]), (32, key.map vu8), (1, [(vi dm)]), (1, [(.string (bstr data))])]⟩), val := (vn (lg.length)), born := lg.length }) (lg.length + 1)) :: Ent.pin (sblks lx) (fun w => Lgs w lx lg) :: Ent.view qa (data.map vu8) :: L)) ?_ ?_
 ·refine WP.drawT (SL w00.heap.size [.row a_25 qn cap_26 5 1 (data.map vu8), .view da (df.map vu8), .blk b_16 .nw 29 [(32, (drawF df dn u).map vu8)], .blk b_8 .nw 73 [(1, [(vi kd)]), (32, key.map vu8), (1, [(vi dm)]), (1, [(.string (bstr data))])], .blk b_4 .nw 29 [(32, (zB 32).map vu8)], .blk b_1 .nw 39 [(1, [(vi kd)]), (32, key.map vu8), (1, [(vi dm)]), (1, [(.slice a_25 qn cap_26)])], .obj mp .nw (.map ((mArr lg).push { key := (.agg ⟨flat [(1, [(vi kd)]), (32, key.map vu8), (1, [(vi dm)]), (1, [(.string (bstr data))])]⟩), val := (vn (lg.length)), born := lg.length }) (lg.length + 1)), .pin (sblks lx) (fun w => Lgs w lx lg), .view qa (data.map vu8)]) (.q 0 (.q 1 (.q 2 (.q 3 (.q 5 (.q 6 (.q 7 (.s2 4 8 (.s 8 (.s 9 (.q 10 (.q 11 (.s 12 .nil))))) (.s 4 (.s 9 (.q 10 (.q 11 (.s 12 .nil))))))))))))) (by kernel_rfl) (by kernel_rfl) rfl (by kernel_rfl) (fun w_38 hc_40 => (SL.cons ((h_37.same hc_40).ok _ M0) (SL.cons ((h_37.same hc_40).ok _ M2) (SL.cons ((h_37.same hc_40).ok _ M3) (SL.cons ((h_37.same hc_40).ok _ M4) (SL.cons ((h_37.same hc_40).ok _ M5) (SL.cons ((h_37.same hc_40).ok _ M6) (SL.cons ((h_37.same hc_40).ok _ M8) (SL.cons ((h_37.same hc_40).ok _ M9) (SL.cons ((h_37.same hc_40).ok _ M10) (SL.nil _ _))))))))))) (fun w_38 hc_40 => ?_)
  have h_39 := h_37.same hc_40
  refine qT rfl rfl (fun wq hS => R.move (v := (pO ob 0)) rfl) ?_
  refine qT rfl rfl (fun wq hS => R.move (v := (pO ob 0)) rfl) ?_
  refine qT rfl rfl (fun wq hS => R.nilCheck rfl) ?_
  refine qT rfl rfl (fun wq hS => R.fieldAddr (off' := 36) rfl underlying66 rfl sizeOf31 rfl rfl) ?_
  refine qT rfl rfl (fun wq hS => R.loadA [] [(1, [(vi kd)]), (32, key.map vu8), (1, [(vi dm)]), (1, [(.slice a_25 qn cap_26)])] [] rfl isAgg39 sizeOf39 (hS _ M5) rfl rfl rfl rfl) ?_
  refine qT rfl rfl (fun wq hS => R.loadA [] [(32, (drawF df dn u).map vu8)] [] (cs := (drawF df dn u).map vu8) rfl isAgg29 sizeOf29 (hS _ M2) rfl rfl rfl rfl) ?_
  refine qT rfl rfl (fun wq hS => R.buildS (pl := [(0, 35), (35, 32)]) (zs := [(1, [(vi 0)]), (32, (zB 32).map vu8), (1, [(vi 0)]), (1, [(.slice none 0 0)]), (32, (zB 32).map vu8)]) (vs := [(0, (.agg ⟨flat [(1, [(vi kd)]), (32, key.map vu8), (1, [(vi dm)]), (1, [(.slice a_25 qn cap_26)])]⟩)), (1, (.agg ⟨(drawF df dn u).map vu8⟩))]) (out := [(1, [(vi kd)]), (32, key.map vu8), (1, [(vi dm)]), (1, [(.slice a_25 qn cap_26)]), (32, (drawF df dn u).map vu8)]) underlying47 (zv typeInfo47 rfl) rfl (sC sV (sC (s8 lr) (sC sV (sC sV (sC (s8 lr) sN))))) (pl47 _ underlying47) rfl (FillR.cons [] [(1, [(vi 0)]), (32, (zB 32).map vu8), (1, [(vi 0)]), (1, [(.slice none 0 0)])] [(1, [(vi kd)]), (32, key.map vu8), (1, [(vi dm)]), (1, [(.slice a_25 qn cap_26)])] [(32, (zB 32).map vu8)] rfl rfl rfl rfl (sC sV (sC (s8 hq.1) (sC sV (sC sV sN)))) rfl rfl rfl (FillR.cons [(1, [(vi kd)]), (32, key.map vu8), (1, [(vi dm)]), (1, [(.slice a_25 qn cap_26)])] [(32, (zB 32).map vu8)] [(32, (drawF df dn u).map vu8)] [] rfl rfl rfl rfl (sC (s8 (drawF_len hdf)) sN) rfl rfl rfl FillR.nil)) rfl) ?_
  refine WT.s2 ?_ ?_
  ·refine oN rfl ?_
   refine qV rfl (R.load1 rfl isAgg31 (h_39.ok _ M1) (Sg.t rfl (Sg.t rfl (Sg.t rfl (Sg.t rfl (Sg.t rfl Sg.h)))))) ?_
   refine WL.nil ?_
   refine ⟨(SL.cons (h_39.ok _ M0) (SL.cons (h_39.ok _ M2) (SL.cons (h_39.ok _ M3) (SL.cons (h_39.ok _ M4) (SL.cons (h_39.ok _ M5) (SL.cons (h_39.ok _ M6) (SL.cons (h_39.ok _ M8) (SL.cons (h_39.ok _ M9) (SL.cons (h_39.ok _ M10) (SL.nil _ _)))))))))), ?_⟩
   refine WT.s (oN rfl ?_)
   refine WL.buildSl (vs := [(0, (.agg ⟨flat [(1, [(vi kd)]), (32, key.map vu8), (1, [(vi dm)]), (1, [(.slice a_25 qn cap_26)]), (32, (drawF df dn u).map vu8)]⟩))]) (cs := aC (kd, key, dm, data) (.slice a_25 qn cap_26) (drawF df dn u)) h_39 underlying31 sizeOf47 (zv typeInfo47 rfl) rfl rfl (fill_1 (zc := flat [(1, [vi 0]), (32, List.replicate 32 (vu8 0)), (1, [vi 0]), (1, [.slice none 0 0]), (32, List.replicate 32 (vu8 0))]) (by kernel_rfl) (sC (s := (67, flat [(1, [vi 0]), (32, List.replicate 32 (vu8 0)), (1, [vi 0]), (1, [.slice none 0 0]), (32, List.replicate 32 (vu8 0))])) ⟨by decide, SsOk.one (sC sV (sC (SOk.rep rfl) (sC sV (sC sV (sC (SOk.rep rfl) sN)))))⟩ sN) (aC_ok (q := (kd, key, dm, data)) (s := (.slice a_25 qn cap_26)) (d := drawF df dn u) hq.1 (drawF_len hdf) rfl)) ((aC_ok (q := (kd, key, dm, data)) (s := (.slice a_25 qn cap_26)) (d := drawF df dn u) hq.1 (drawF_len hdf) rfl)).head.len ((aC_ok (q := (kd, key, dm, data)) (s := (.slice a_25 qn cap_26)) (d := drawF df dn u) hq.1 (drawF_len hdf) rfl)).head.one rfl rfl (fun b_42 w_43 h_44 => ?_)
   refine WL.nil ?_
   refine ⟨(N1_3_4_5_6_7_9_10_11 h_44.ok), ?_⟩
   refine WT.s (oN rfl ?_)
   refine WL.append (km := lg.length + 1) (xs := lx) (ys := aC (kd, key, dm, data) (.slice a_25 qn cap_26) (drawF df dn u)) (zs := lx ++ aC (kd, key, dm, data) (.slice a_25 qn cap_26) (drawF df dn u)) h_44 rfl rfl el31 (viewB (h_44.ok _ M0) Sg.h) ((aC_ok (q := (kd, key, dm, data)) (s := (.slice a_25 qn cap_26)) (d := drawF df dn u) hq.1 (drawF_len hdf) rfl)).head.len ((aC_ok (q := (kd, key, dm, data)) (s := (.slice a_25 qn cap_26)) (d := drawF df dn u) hq.1 (drawF_len hdf) rfl)).head.one rfl (by omega) (by omega) (by omega) (fun _ _ => Y8) rfl (fun a_45 c_46 w_47 h_48 => ?_)
   refine WL.nil ?_
   refine ⟨(N1_3_4_5_6_7_9_10_11 h_48.ok), ?_⟩
   refine qT rfl rfl (fun wq hS => R.nilCheck rfl) ?_
   refine qT rfl rfl (fun wq hS => R.fieldAddr (off' := 36) rfl underlying66 rfl sizeOf31 rfl rfl) ?_
   refine WT.s (oN rfl ?_)
   refine WL.store1 h_48 rfl rfl sizeOf31 rfl Y2 (by decide) (Sg.t rfl (Sg.t rfl (Sg.t rfl (Sg.t rfl (Sg.t rfl Sg.h))))) (fun w_49 h_50 => ?_)
   refine WL.nil ?_
   refine ⟨(N1_3_4_5_6_7_9_10_11 h_50.ok), ?_⟩
   refine WT.nil (thn_n ?_)
   exact ⟨(b_42, a_45, c_46), (U4 rfl rfl rfl rfl (U4 rfl rfl rfl rfl (U4 rfl rfl rfl rfl (Ag.refl _ _)))), ⟨rfl, rfl, rfl, rfl, rfl, rfl, rfl, rfl, rfl, rfl, rfl, rfl, trivial⟩, h_50⟩
  ·refine oN rfl ?_
   refine WL.buildSl (vs := [(0, (.agg ⟨flat [(1, [(vi kd)]), (32, key.map vu8), (1, [(vi dm)]), (1, [(.slice a_25 qn cap_26)]), (32, (drawF df dn u).map vu8)]⟩))]) (cs := aC (kd, key, dm, data) (.slice a_25 qn cap_26) (drawF df dn u)) h_39 underlying31 sizeOf47 (zv typeInfo47 rfl) rfl rfl (fill_1 (zc := flat [(1, [vi 0]), (32, List.replicate 32 (vu8 0)), (1, [vi 0]), (1, [.slice none 0 0]), (32, List.replicate 32 (vu8 0))]) (by kernel_rfl) (sC (s := (67, flat [(1, [vi 0]), (32, List.replicate 32 (vu8 0)), (1, [vi 0]), (1, [.slice none 0 0]), (32, List.replicate 32 (vu8 0))])) ⟨by decide, SsOk.one (sC sV (sC (SOk.rep rfl) (sC sV (sC sV (sC (SOk.rep rfl) sN)))))⟩ sN) (aC_ok (q := (kd, key, dm, data)) (s := (.slice a_25 qn cap_26)) (d := drawF df dn u) hq.1 (drawF_len hdf) rfl)) ((aC_ok (q := (kd, key, dm, data)) (s := (.slice a_25 qn cap_26)) (d := drawF df dn u) hq.1 (drawF_len hdf) rfl)).head.len ((aC_ok (q := (kd, key, dm, data)) (s := (.slice a_25 qn cap_26)) (d := drawF df dn u) hq.1 (drawF_len hdf) rfl)).head.one rfl rfl (fun b_51 w_52 h_53 => ?_)
   refine WL.nil ?_
   refine ⟨(N1_3_4_5_6_7_9_10_11 h_53.ok), ?_⟩
   refine WT.s (oN rfl ?_)
   refine qV rfl (R.load1 rfl isAgg31 (h_53.ok _ M2) (Sg.t rfl (Sg.t rfl (Sg.t rfl (Sg.t rfl (Sg.t rfl Sg.h)))))) ?_
   refine WL.nil ?_
   refine ⟨(N1_3_4_5_6_7_9_10_11 h_53.ok), ?_⟩
   refine WT.s (oN rfl ?_)
   refine WL.append (km := lg.length + 1) (xs := lx) (ys := aC (kd, key, dm, data) (.slice a_25 qn cap_26) (drawF df dn u)) (zs := lx ++ aC (kd, key, dm, data) (.slice a_25 qn cap_26) (drawF df dn u)) h_53 rfl rfl el31 (viewB (h_53.ok _ M0) Sg.h) ((aC_ok (q := (kd, key, dm, data)) (s := (.slice a_25 qn cap_26)) (d := drawF df dn u) hq.1 (drawF_len hdf) rfl)).head.len ((aC_ok (q := (kd, key, dm, data)) (s := (.slice a_25 qn cap_26)) (d := drawF df dn u) hq.1 (drawF_len hdf) rfl)).head.one rfl (by omega) (by omega) (by omega) (fun _ _ => Y8) rfl (fun a_54 c_55 w_56 h_57 => ?_)
   refine WL.nil ?_
   refine ⟨(N1_3_4_5_6_7_9_10_11 h_57.ok), ?_⟩
   refine qT rfl rfl (fun wq hS => R.nilCheck rfl) ?_
   refine qT rfl rfl (fun wq hS => R.fieldAddr (off' := 36) rfl underlying66 rfl sizeOf31 rfl rfl) ?_
   refine WT.s (oN rfl ?_)
   refine WL.store1 h_57 rfl rfl sizeOf31 rfl Y2 (by decide) (Sg.t rfl (Sg.t rfl (Sg.t rfl (Sg.t rfl (Sg.t rfl Sg.h))))) (fun w_58 h_59 => ?_)
   refine WL.nil ?_
   refine ⟨(N1_3_4_5_6_7_9_10_11 h_59.ok), ?_⟩
   refine WT.nil (thn_n ?_)
   exact ⟨(b_51, a_54, c_55), (U4 rfl rfl rfl rfl (U4 rfl rfl rfl rfl (U4 rfl rfl rfl rfl (Ag.refl _ _)))), ⟨rfl, rfl, rfl, rfl, rfl, rfl, rfl, rfl, rfl, rfl, rfl, rfl, trivial⟩, h_59⟩
 ·rintro ⟨b_63, a_64, c_65⟩ J_60 w_61 h_62
  refine thn_n (WP.seq (WP.reg ?_))
  refine qV rfl (R.loadA [] [(32, (drawF df dn u).map vu8)] [] (cs := (drawF df dn u).map vu8) rfl isAgg29 sizeOf29 (h_62.ok _ M4) rfl rfl rfl rfl) ?_
  refine WL.storeA [] [(32, (zB 32).map vu8)] [(32, (drawF df dn u).map vu8)] [] h_62 rfl rfl sizeOf29 Y6 (by decide) rfl rfl rfl rfl rfl rfl (sC (s8 (drawF_len hdf)) sN) (fun w_66 h_67 => ?_)
  refine WL.nil (thn_n (WP.ret ?_))
  refine ret_of results29 (RV.cell rfl (h_67.loadA (cs := (drawF df dn u).map vu8) isAgg29 sizeOf29 M6 rfl rfl) RV.nil) ?_
  have h_83 := (((((((((((((((h_67.drop rfl).up J3).drop rfl).up J3).drop rfl).up J3).drop rfl).up J3).drop rfl).up J6).up J3).up J5).up J5).up J5).up J6).up J6
  have h_84 := HP_logPush (q := (kd, key, dm, data)) (d := drawF df dn u) h_83 hq (drawF_len hdf) hdl
  have h_95 := (((((((((h_84.up J1).drop rfl).up J1).drop rfl).up J5).up J5).up J2).up J5).up J5).up J5
  have hse : lg.length + 1 = (lg ++ [((kd, key, dm, data), drawF df dn u)]).length := snoc_len.symm
  have hme := mArr_push lg (kd, key, dm, data) (drawF df dn u)
  have h_85 := h_95
  rw [hse] at h_85
  exact ⟨_, _, _, by rw [anD_miss hfd]; rfl, by rw [anU_miss hfd, anL_miss hfd]; show HP _ _ (_ :: _ :: .obj _ _ (.map (mArr (lg ++ [((kd, key, dm, data), drawF df dn u)])) _) :: _); rw [hme]; exact h_85⟩

theorem c_ans {w00 : World} {L : List Ent} (ob mp : Nat) (ms df : List UInt8) (hms : ms.length = 32) (da : Option Addr) (dn dc u : Nat) (hdf : df.length = 32 * dn) (la : Option Addr) (lc : Nat) (lx : List Value) (lg : Lg) (hu : u ≤ 1000000) (hlg : lg.length ≤ 1000000) (kd dm : Int) (key data : List UInt8) (qa : Option Addr) (qn qc : Nat) (hq : okQ (kd, key, dm, data)) (hdl : data.length = qn) (cv : Value) (w : World) (h_0 : HP w00 w (Ent.blk ob .nw 66 [(1, [(.bool true)]), (32, ms.map vu8), (1, [(.slice da dn dc)]), (1, [(vi ((u : Nat) : Int))]), (1, [(.map (some mp))]), (1, [(.slice la lg.length lc)])] :: Ent.row la lg.length lc 47 67 lx :: Ent.obj mp .nw (.map (mArr lg) lg.length) :: Ent.pin (sblks lx) (fun w => Lgs w lx lg) :: Ent.view da (df.map vu8) :: Ent.view qa (data.map vu8) :: L)) :
  Cs Tryz.prog 29 [(.pointer (some ⟨ob, 0, none⟩)), (.agg ⟨flat [(1, [(vi kd)]), (32, key.map vu8), (1, [(vi dm)]), (1, [(.slice qa qn qc)])]⟩), cv].toArray w (fun v w1 => ∃ la' lc' lx', v = (.agg ⟨(anD true df dn u lg (kd, key, dm, data)).map vu8⟩) ∧ HP w00 w1 (Ent.blk ob .nw 66 [(1, [(.bool true)]), (32, ms.map vu8), (1, [(.slice da dn dc)]), (1, [(vi (((anU true u lg (kd, key, dm, data)) : Nat) : Int))]), (1, [(.map (some mp))]), (1, [(.slice la' ((anL true df dn u lg (kd, key, dm, data)).length) lc')])] :: Ent.row la' ((anL true df dn u lg (kd, key, dm, data)).length) lc' 47 67 lx' :: Ent.obj mp .nw (.map (mArr (anL true df dn u lg (kd, key, dm, data))) ((anL true df dn u lg (kd, key, dm, data)).length)) :: Ent.pin (sblks lx') (fun w => Lgs w lx' (anL true df dn u lg (kd, key, dm, data))) :: Ent.view da (df.map vu8) :: Ent.view qa (data.map vu8) :: L)) := by
 cases hfd : fdq (kd, key, dm, data) lg 0 with
 | none => exact c_ans_missT ob mp ms df hms da dn dc u hdf la lc lx lg hu hlg kd dm key data qa qn qc hq hdl cv hfd w h_0
 | some i => exact c_ans_hit true ob mp ms df hms da dn dc u hdf la lc lx lg hu hlg kd dm key data qa qn qc hq hdl cv i hfd w h_0

end Go.Proofs.YtajiipjmmoehcaaGreat

namespace Go.Proofs.YtajiipjmmoehcaaGreat
open Go.Proofs.Tryz
open Go.Vc Go.Orc Go.Sh Go.RowKit
set_option maxRecDepth 20000
theorem kt29 : Tryz.prog.keyTypeAt 2 29 = true := by kernel_rfl
theorem ag29 : aggB Tryz.prog 29 = true := by unfold aggB; rw [underlying29]
theorem c_othere (id : Bool) (ob mp : Nat) (ms : List UInt8) (hms : ms.length = 32) (da : Option Addr) (dn dc u : Nat) (la : Option Addr) (ln lc : Nat) (w : World) (hcb : (Ent.blk ob .ro 66 [(1, [(.bool id)]), (32, ms.map vu8), (1, [(.slice da dn dc)]), (1, [(vi ((u : Nat) : Int))]), (1, [(.map (some mp))]), (1, [(.slice la ln lc)])]).ok w.heap.size w) :
  Cs Tryz.prog 25 [(.pointer (some ⟨ob, 0, none⟩))].toArray w (fun v w1 => v = (.bool true) ∧ Chg w w1 []) := by
 refine Cs.of (n := 12) (args := [(pO ob 0)]) Tryz.func25 rfl rfl rfl ?_
 have h_0 := HP.init w
 have h_00 := h_0.old hcb (fun f hf => by cases hf)
 refine WP.seq (WP.reg ?_)
 refine qA (.bool false) rfl rfl ?_
 refine WL.nil (thn_n (WP.seq (WP.reg ?_)))
 refine qM (pO ob 0) rfl rfl (qV rfl (R.neNilP rfl rfl underlying26) (qM (.bool true) rfl rfl ?_))
 refine WL.want rfl rfl ?_
 refine qM (pO ob 0) rfl rfl ?_
 refine WL.want rfl rfl ?_
 refine qV rfl (R.nilCheck rfl) ?_
 refine WL.want rfl rfl ?_
 refine qV rfl (R.fieldAddr (off' := 35) rfl underlying66 rfl sizeOf64 rfl rfl) ?_
 refine WL.want rfl rfl ?_
 refine qV rfl (R.load1 rfl isAgg64 (h_00.ok _ M0) (Sg.t rfl (Sg.t rfl (Sg.t rfl (Sg.t rfl Sg.h))))) ?_
 refine WL.want rfl rfl ?_
 refine qV rfl (R.neNilM rfl rfl underlying64) (qV rfl (R.pickT (v := (.bool true)) rfl rfl) (qA (.bool true) rfl rfl ?_))
 refine WL.nil (thn_n (WP.ret ?_))
 refine ret_of results25 (RV.tmp (v := (.bool true)) rfl RV.nil) ?_
 exact ⟨rfl, h_00.chgS⟩

theorem c_may (kd dm : Int) (key : List UInt8) (qa : Option Addr) (qn qc : Nat) (hk : key.length = 32) (h1 : 1 ≤ kd ∧ kd ≤ 4) (h2 : 1 ≤ dm ∧ dm ≤ 16) (hz : kd = 1 → key = List.replicate 32 0) (w : World) :
  Cs Tryz.prog 28 [(.agg ⟨flat [(1, [(vi kd)]), (32, key.map vu8), (1, [(vi dm)]), (1, [(.slice qa qn qc)])]⟩)].toArray w (fun v w1 => v = (.bool true) ∧ Chg w w1 []) := by
 refine Cs.of (n := 32) (args := [(.agg ⟨flat [(1, [(vi kd)]), (32, key.map vu8), (1, [(vi dm)]), (1, [(.slice qa qn qc)])]⟩)]) Tryz.func28 rfl rfl rfl ?_
 have h_0 := HP.init w
 refine WP.seq (WP.reg ?_)
 refine WL.box (segs := [(1, [(vi kd)]), (32, key.map vu8), (1, [(vi dm)]), (1, [(.slice qa qn qc)])]) h_0 rfl rfl (sC sV (sC (s8 hk) (sC sV (sC sV sN)))) rfl (fun b_1 w_2 h_3 => ?_)
 refine qA (.bool false) rfl rfl ?_
 refine WL.nil (thn_n (WP.seq (WP.reg ?_)))
 refine qV rfl (R.fieldAddr (off' := 0) rfl underlying39 rfl sizeOf35 rfl rfl) (qV rfl (R.load1 rfl isAgg35 (h_3.ok _ M0) Sg.h) (qV rfl (R.bin rfl rfl (bi_geq (r := decide ((kd : Int) ≥ 1)) rfl)) (qM (.bool (decide ((kd : Int) ≥ 1))) rfl rfl ?_)))
 refine WL.want rfl (congrArg Value.bool (decide_eq_true (by omega))) ?_
 refine qV rfl (R.fieldAddr (off' := 0) rfl underlying39 rfl sizeOf35 rfl rfl) ?_
 refine WL.want rfl (congrArg Value.bool (decide_eq_true (by omega))) ?_
 refine qV rfl (R.load1 rfl isAgg35 (h_3.ok _ M0) Sg.h) ?_
 refine WL.want rfl (congrArg Value.bool (decide_eq_true (by omega))) ?_
 refine qV rfl (R.bin rfl rfl (bi_leq (r := decide ((kd : Int) ≤ 4)) rfl)) (qV rfl (R.pickT (v := (.bool (decide ((kd : Int) ≤ 4)))) (congrArg Value.bool (decide_eq_true (by omega))) rfl) (qM (.bool (decide ((kd : Int) ≤ 4))) rfl rfl ?_))
 refine WL.want rfl (congrArg Value.bool (decide_eq_true (by omega))) ?_
 refine qV rfl (R.fieldAddr (off' := 33) rfl underlying39 rfl sizeOf36 rfl rfl) ?_
 refine WL.want rfl (congrArg Value.bool (decide_eq_true (by omega))) ?_
 refine qV rfl (R.load1 rfl isAgg36 (h_3.ok _ M0) (Sg.t rfl (Sg.t rfl Sg.h))) ?_
 refine WL.want rfl (congrArg Value.bool (decide_eq_true (by omega))) ?_
 refine qV rfl (R.bin rfl rfl (bi_geq (r := decide ((dm : Int) ≥ 1)) rfl)) (qV rfl (R.pickT (v := (.bool (decide ((dm : Int) ≥ 1)))) (congrArg Value.bool (decide_eq_true (by omega))) rfl) (qM (.bool (decide ((dm : Int) ≥ 1))) rfl rfl ?_))
 refine WL.want rfl (congrArg Value.bool (decide_eq_true (by omega))) ?_
 refine qV rfl (R.fieldAddr (off' := 33) rfl underlying39 rfl sizeOf36 rfl rfl) ?_
 refine WL.want rfl (congrArg Value.bool (decide_eq_true (by omega))) ?_
 refine qV rfl (R.load1 rfl isAgg36 (h_3.ok _ M0) (Sg.t rfl (Sg.t rfl Sg.h))) ?_
 refine WL.want rfl (congrArg Value.bool (decide_eq_true (by omega))) ?_
 refine qV rfl (R.bin rfl rfl (bi_leq (r := decide ((dm : Int) ≤ 16)) rfl)) (qV rfl (R.pickT (v := (.bool (decide ((dm : Int) ≤ 16)))) (congrArg Value.bool (decide_eq_true (by omega))) rfl) (qM (.bool (decide ((dm : Int) ≤ 16))) rfl rfl ?_))
 refine WL.want rfl (congrArg Value.bool (decide_eq_true (by omega))) ?_
 refine qV rfl (R.fieldAddr (off' := 0) rfl underlying39 rfl sizeOf35 rfl rfl) ?_
 refine WL.want rfl (congrArg Value.bool (decide_eq_true (by omega))) ?_
 refine qV rfl (R.load1 rfl isAgg35 (h_3.ok _ M0) Sg.h) ?_
 refine WL.want rfl (congrArg Value.bool (decide_eq_true (by omega))) ?_
 refine qV rfl (R.bin rfl rfl (bi_neq (r := decide ((kd : Int) ≠ 1)) rfl)) ?_
 refine WL.want rfl (congrArg Value.bool (decide_eq_true (by omega))) ?_
 refine qM (.bool (decide ((kd : Int) ≠ 1))) rfl rfl ?_
 rcases Bool.eq_false_or_eq_true (decide ((kd : Int) ≠ 1)) with c_4 | c_4
 ·have p_5 := of_decide_eq_true c_4
  refine WL.skip rfl (congrArg Value.bool c_4) rfl ?_
  refine WL.skip rfl (congrArg Value.bool c_4) rfl ?_
  refine WL.skip rfl (congrArg Value.bool c_4) rfl ?_
  refine WL.skip rfl (congrArg Value.bool c_4) rfl ?_
  refine WL.want rfl (congrArg Value.bool (decide_eq_true (by omega))) ?_
  refine qV rfl (R.pickT (v := (.bool true)) (congrArg Value.bool c_4) rfl) (qV rfl (R.pickT (v := (.bool true)) (congrArg Value.bool (decide_eq_true (by omega))) rfl) (qA (.bool true) rfl rfl ?_))
  refine WL.nil (thn_n (WP.ret ?_))
  refine ret_of results28 (RV.tmp (v := (.bool true)) rfl RV.nil) ?_
  exact ⟨rfl, h_3.chgS⟩
 ·have p_6 := of_decide_eq_false c_4
  refine WL.want rfl (congrArg Value.bool c_4) ?_
  refine qV rfl (R.fieldAddr (off' := 1) rfl underlying39 rfl sizeOf29 rfl rfl) ?_
  refine WL.want rfl (congrArg Value.bool c_4) ?_
  refine qV rfl (R.loadA [(1, [(vi kd)])] [(32, key.map vu8)] [(1, [(vi dm)]), (1, [(.slice qa qn qc)])] (cs := key.map vu8) rfl isAgg29 sizeOf29 (h_3.ok _ M0) rfl rfl rfl rfl) ?_
  refine WL.want rfl (congrArg Value.bool c_4) ?_
  refine qV rfl (R.buildA (vs := []) (cs := (zB 32).map vu8) underlying29 sizeOf5 (zv typeInfo29 rfl) rfl rfl) ?_
  refine WL.want rfl (congrArg Value.bool c_4) ?_
  refine qV rfl (R.eqA (xs := key.map vu8) (ys := (zB 32).map vu8) (r := true) rfl rfl eqGuardType29 kt29 (by decide) ag29 (Typ.u8s underlying29 ce29 underlying5 ce5 hk) (Typ.u8s underlying29 ce29 underlying5 ce5 lr) (eqT (by rw [hz (by omega)]))) ?_
  refine WL.want rfl (congrArg Value.bool (decide_eq_true (by omega))) ?_
  refine qV rfl (R.pickF (v := (.bool true)) (congrArg Value.bool c_4) rfl) (qV rfl (R.pickT (v := (.bool true)) (congrArg Value.bool (decide_eq_true (by omega))) rfl) (qA (.bool true) rfl rfl ?_))
  refine WL.nil (thn_n (WP.ret ?_))
  refine ret_of results28 (RV.tmp (v := (.bool true)) rfl RV.nil) ?_
  exact ⟨rfl, h_3.chgS⟩

end Go.Proofs.YtajiipjmmoehcaaGreat

namespace Go.Proofs.YtajiipjmmoehcaaGreat
open Go.Proofs.Tryz
open Go.Vc Go.Orc Go.Sh Go.RowKit
set_option maxRecDepth 20000
theorem pl39 : ∀ fs, Tryz.prog.underlying 39 = some (.struct fs) → Places Tryz.prog fs [(0, 1), (1, 32), (33, 1), (34, 1)] := by
 intro fs h w; rw [underlying39] at h; cases h; simp
theorem pl66 : ∀ fs, Tryz.prog.underlying 66 = some (.struct fs) → Places Tryz.prog fs [(0, 1), (1, 32), (33, 1), (34, 1), (35, 1), (36, 1)] := by
 intro fs h w; rw [underlying66] at h; cases h; simp
theorem c_ONew {w00 : World} {L : List Ent} (id : Bool) (ms df : List UInt8) (hms : ms.length = 32) (a : Option Addr) (n cap : Nat) (hl : df.length = 32 * n) (hn : n ≤ 1000000) (w : World) (h_0 : HP w00 w (Ent.view a (df.map vu8) :: L)) :
  Cs Tryz.prog 7 [(.bool id), (.agg ⟨ms.map vu8⟩), (.slice a n cap)].toArray w (fun v w1 => ∃ ob mp da dc, v = .pointer (some ⟨ob, 0, none⟩) ∧ HP w00 w1 (Ent.blk ob .nw 66 [(1, [(.bool id)]), (32, ms.map vu8), (1, [(.slice da n dc)]), (1, [(vi 0)]), (1, [(.map (some mp))]), (1, [(.slice none 0 0)])] :: Ent.row none 0 0 47 67 [] :: Ent.obj mp .nw (.map (mArr ([] : Lg)) 0) :: Ent.pin (sblks []) (fun w => Lgs w [] ([] : Lg)) :: Ent.view da (df.map vu8) :: Ent.view a (df.map vu8) :: L)) := by
 refine Cs.of (n := 14) (args := [(.bool id), (.agg ⟨ms.map vu8⟩), (.slice a n cap)]) Tryz.func7 rfl rfl rfl ?_
 refine WP.seq (WP.reg ?_)
 refine WL.box (segs := [(32, ms.map vu8)]) h_0 rfl rfl (sC (s8 hms) sN) rfl (fun b_1 w_2 h_3 => ?_)
 refine qA (.pointer none) rfl rfl ?_
 refine WL.nil (thn_n (WP.seq ?_))
 refine WP.cutG (G := Nat × Option Addr × Nat × Nat) [6, 7, 8, 9, 10, 11, 12, 13] (fun (bY1Y6Y0Y0, aY1Y3Y0Y0, capY1Y3Y0Y0, bY1Y4Y0Y0) => [(6, (pO bY1Y6Y0Y0 0)), (7, (.bool id)), (8, (.agg ⟨ms.map vu8⟩)), (9, (.slice a n cap)), (10, (.slice aY1Y3Y0Y0 n capY1Y3Y0Y0)), (11, (.map (some bY1Y4Y0Y0))), (12, (.agg ⟨flat [(1, [(.bool id)]), (32, ms.map vu8), (1, [(.slice aY1Y3Y0Y0 n capY1Y3Y0Y0)]), (1, [(vi 0)]), (1, [(.map (some bY1Y4Y0Y0))]), (1, [(.slice none 0 0)])]⟩)), (13, (pO bY1Y6Y0Y0 0))]) (fun (bY1Y6Y0Y0, aY1Y3Y0Y0, capY1Y3Y0Y0, bY1Y4Y0Y0) w1 => HP w00 w1 (Ent.blk bY1Y6Y0Y0 .nw 66 [(1, [(.bool id)]), (32, ms.map vu8), (1, [(.slice aY1Y3Y0Y0 n capY1Y3Y0Y0)]), (1, [(vi 0)]), (1, [(.map (some bY1Y4Y0Y0))]), (1, [(.slice none 0 0)])] :: Ent.obj bY1Y4Y0Y0 .nw (.map (#[]) 0) :: Ent.row aY1Y3Y0Y0 n capY1Y3Y0Y0 29 32 (df.map vu8) :: Ent.blk b_1 .nw 29 [(32, ms.map vu8)] :: Ent.view a (df.map vu8) :: L)) ?_ ?_
 ·refine WP.drawT (SL w00.heap.size [.blk b_1 .nw 29 [(32, ms.map vu8)], .view a (df.map vu8)]) (.q 0 (.q 1 (.q 2 (.s2 3 4 (.s 4 (.q 5 (.s 6 (.q 7 .nil)))) (.s 3 (.q 5 (.s 6 (.q 7 .nil)))))))) (by kernel_rfl) (by kernel_rfl) rfl (by kernel_rfl) (fun w_4 hc_6 => (SL.cons ((h_3.same hc_6).ok _ M0) (SL.cons ((h_3.same hc_6).ok _ M1) (SL.nil _ _)))) (fun w_4 hc_6 => ?_)
  have h_5 := h_3.same hc_6
  refine qT rfl rfl (fun wq hS => R.move (v := (.bool id)) rfl) ?_
  refine qT rfl rfl (fun wq hS => R.loadA [] [(32, ms.map vu8)] [] (cs := ms.map vu8) rfl isAgg29 sizeOf29 (hS _ M0) rfl rfl rfl rfl) ?_
  refine qT rfl rfl (fun wq hS => R.move (v := (.slice a n cap)) rfl) ?_
  refine WT.s2 ?_ ?_
  ·refine oN rfl ?_
   refine WL.call Tryz.call19 rfl rfl (c_CloneD a n cap df hl (by omega) _ (viewV (h_5.ok _ M1))) rfl ?_
   rintro _ w_9 ⟨a_7, cap_8, rfl, hc_10, ho_11⟩
   have h_12 := h_5.gotRow hc_10 ho_11
   refine WL.nil ?_
   refine ⟨(N1_2 h_12.ok), ?_⟩
   refine WT.s (oN rfl ?_)
   refine WL.makeMap h_12 rfl (fun b_13 w_14 h_15 => ?_)
   refine WL.nil ?_
   refine ⟨(N2_3 h_15.ok), ?_⟩
   refine qT rfl rfl (fun wq hS => R.buildS (pl := [(0, 1), (1, 32), (33, 1), (34, 1), (35, 1), (36, 1)]) (zs := [(1, [(.bool false)]), (32, (zB 32).map vu8), (1, [(.slice none 0 0)]), (1, [(vi 0)]), (1, [(.map none)]), (1, [(.slice none 0 0)])]) (vs := [(0, (.bool id)), (1, (.agg ⟨ms.map vu8⟩)), (2, (.slice a_7 n cap_8)), (4, (.map (some b_13)))]) (out := [(1, [(.bool id)]), (32, ms.map vu8), (1, [(.slice a_7 n cap_8)]), (1, [(vi 0)]), (1, [(.map (some b_13))]), (1, [(.slice none 0 0)])]) underlying66 (zv typeInfo66 rfl) rfl (sC sV (sC (s8 lr) (sC sV (sC sV (sC sV (sC sV sN)))))) (pl66 _ underlying66) rfl (FillR.cons [] [(1, [(.bool false)])] [(1, [(.bool id)])] [(32, (zB 32).map vu8), (1, [(.slice none 0 0)]), (1, [(vi 0)]), (1, [(.map none)]), (1, [(.slice none 0 0)])] rfl rfl rfl rfl (sC sV sN) rfl rfl rfl (FillR.cons [(1, [(.bool id)])] [(32, (zB 32).map vu8)] [(32, ms.map vu8)] [(1, [(.slice none 0 0)]), (1, [(vi 0)]), (1, [(.map none)]), (1, [(.slice none 0 0)])] rfl rfl rfl rfl (sC (s8 hms) sN) rfl rfl rfl (FillR.cons [(1, [(.bool id)]), (32, ms.map vu8)] [(1, [(.slice none 0 0)])] [(1, [(.slice a_7 n cap_8)])] [(1, [(vi 0)]), (1, [(.map none)]), (1, [(.slice none 0 0)])] rfl rfl rfl rfl (sC sV sN) rfl rfl rfl (FillR.cons [(1, [(.bool id)]), (32, ms.map vu8), (1, [(.slice a_7 n cap_8)]), (1, [(vi 0)])] [(1, [(.map none)])] [(1, [(.map (some b_13))])] [(1, [(.slice none 0 0)])] rfl rfl rfl rfl (sC sV sN) rfl rfl rfl FillR.nil)))) rfl) ?_
   refine WT.s (oN rfl ?_)
   refine WL.box (segs := [(1, [(.bool id)]), (32, ms.map vu8), (1, [(.slice a_7 n cap_8)]), (1, [(vi 0)]), (1, [(.map (some b_13))]), (1, [(.slice none 0 0)])]) h_15 rfl rfl (sC sV (sC (s8 hms) (sC sV (sC sV (sC sV (sC sV sN)))))) rfl (fun b_17 w_18 h_19 => ?_)
   refine WL.nil ?_
   refine ⟨(N3_4 h_19.ok), ?_⟩
   refine qT rfl rfl (fun wq hS => R.assign (v := (pO b_17 0)) rfl) ?_
   refine WT.nil (thn_n ?_)
   exact ⟨(b_17, a_7, cap_8, b_13), (U4 rfl rfl rfl rfl (U4 rfl rfl rfl rfl (Ag.refl _ _))), ⟨rfl, rfl, rfl, rfl, rfl, rfl, rfl, rfl, trivial⟩, h_19⟩
  ·refine oN rfl ?_
   refine WL.makeMap h_5 rfl (fun b_20 w_21 h_22 => ?_)
   refine WL.nil ?_
   refine ⟨(N1_2 h_22.ok), ?_⟩
   refine WT.s (oN rfl ?_)
   refine WL.call Tryz.call19 rfl rfl (c_CloneD a n cap df hl (by omega) _ (viewV (h_22.ok _ M2))) rfl ?_
   rintro _ w_25 ⟨a_23, cap_24, rfl, hc_26, ho_27⟩
   have h_28 := h_22.gotRow hc_26 ho_27
   refine WL.nil ?_
   refine ⟨(N2_3 h_28.ok), ?_⟩
   refine qT rfl rfl (fun wq hS => R.buildS (pl := [(0, 1), (1, 32), (33, 1), (34, 1), (35, 1), (36, 1)]) (zs := [(1, [(.bool false)]), (32, (zB 32).map vu8), (1, [(.slice none 0 0)]), (1, [(vi 0)]), (1, [(.map none)]), (1, [(.slice none 0 0)])]) (vs := [(0, (.bool id)), (1, (.agg ⟨ms.map vu8⟩)), (2, (.slice a_23 n cap_24)), (4, (.map (some b_20)))]) (out := [(1, [(.bool id)]), (32, ms.map vu8), (1, [(.slice a_23 n cap_24)]), (1, [(vi 0)]), (1, [(.map (some b_20))]), (1, [(.slice none 0 0)])]) underlying66 (zv typeInfo66 rfl) rfl (sC sV (sC (s8 lr) (sC sV (sC sV (sC sV (sC sV sN)))))) (pl66 _ underlying66) rfl (FillR.cons [] [(1, [(.bool false)])] [(1, [(.bool id)])] [(32, (zB 32).map vu8), (1, [(.slice none 0 0)]), (1, [(vi 0)]), (1, [(.map none)]), (1, [(.slice none 0 0)])] rfl rfl rfl rfl (sC sV sN) rfl rfl rfl (FillR.cons [(1, [(.bool id)])] [(32, (zB 32).map vu8)] [(32, ms.map vu8)] [(1, [(.slice none 0 0)]), (1, [(vi 0)]), (1, [(.map none)]), (1, [(.slice none 0 0)])] rfl rfl rfl rfl (sC (s8 hms) sN) rfl rfl rfl (FillR.cons [(1, [(.bool id)]), (32, ms.map vu8)] [(1, [(.slice none 0 0)])] [(1, [(.slice a_23 n cap_24)])] [(1, [(vi 0)]), (1, [(.map none)]), (1, [(.slice none 0 0)])] rfl rfl rfl rfl (sC sV sN) rfl rfl rfl (FillR.cons [(1, [(.bool id)]), (32, ms.map vu8), (1, [(.slice a_23 n cap_24)]), (1, [(vi 0)])] [(1, [(.map none)])] [(1, [(.map (some b_20))])] [(1, [(.slice none 0 0)])] rfl rfl rfl rfl (sC sV sN) rfl rfl rfl FillR.nil)))) rfl) ?_
   refine WT.s (oN rfl ?_)
   refine WL.box (segs := [(1, [(.bool id)]), (32, ms.map vu8), (1, [(.slice a_23 n cap_24)]), (1, [(vi 0)]), (1, [(.map (some b_20))]), (1, [(.slice none 0 0)])]) h_28 rfl rfl (sC sV (sC (s8 hms) (sC sV (sC sV (sC sV (sC sV sN)))))) rfl (fun b_30 w_31 h_32 => ?_)
   refine WL.nil ?_
   refine ⟨(N3_4 h_32.ok), ?_⟩
   refine qT rfl rfl (fun wq hS => R.assign (v := (pO b_30 0)) rfl) ?_
   refine WT.nil (thn_n ?_)
   have h_37 := ((((h_32.up J4).up J4).up J3).up J4).up J4
   exact ⟨(b_30, a_23, cap_24, b_20), (U4 rfl rfl rfl rfl (U4 rfl rfl rfl rfl (Ag.refl _ _))), ⟨rfl, rfl, rfl, rfl, rfl, rfl, rfl, rfl, trivial⟩, h_37⟩
 ·rintro ⟨b_41, a_42, cap_43, b_44⟩ J_38 w_39 h_40
  refine thn_n (WP.ret ?_)
  refine ret_of results7 (RV.tmp (v := (pO b_41 0)) rfl RV.nil) ?_
  have h_45 := h_40.up J2
  have h_46 := h_45.rowView
  have h_47 := h_46.rowNil 47 67
  have h_48 := HP_logNil h_47
  have h_56 := (((((((h_48.up J5).drop rfl).up J5).up J3).up J2).up J5).up J4).up J5
  exact ⟨_, _, _, _, rfl, h_56⟩

theorem c_oStream {w00 : World} {L : List Ent} (ob mp : Nat) (ms df : List UInt8) (hms : ms.length = 32) (da : Option Addr) (dn dc u : Nat) (hdf : df.length = 32 * dn) (la : Option Addr) (lc : Nat) (lx : List Value) (lg : Lg) (hu : u ≤ 500000) (hlg : lg.length ≤ 500000) (dm : Int) (key data : List UInt8) (qa : Option Addr) (qn qc : Nat) (hk : key.length = 32) (hdm : 1 ≤ dm ∧ dm ≤ 16) (hdl : data.length = qn) (hqn : qn ≤ 100000) (sn : Nat) (hsn : sn ≤ 1024) (w : World) (h_0 : HP w00 w (Ent.blk ob .nw 66 [(1, [(.bool true)]), (32, ms.map vu8), (1, [(.slice da dn dc)]), (1, [(vi ((u : Nat) : Int))]), (1, [(.map (some mp))]), (1, [(.slice la lg.length lc)])] :: Ent.row la lg.length lc 47 67 lx :: Ent.obj mp .nw (.map (mArr lg) lg.length) :: Ent.pin (sblks lx) (fun w => Lgs w lx lg) :: Ent.view da (df.map vu8) :: Ent.view qa (data.map vu8) :: L)) :
  Cs Tryz.prog 18 [(.pointer (some ⟨ob, 0, none⟩)), (.agg ⟨flat [(1, [(vi 4)]), (32, key.map vu8), (1, [(vi dm)]), (1, [(.slice qa qn qc)])]⟩), (vi ((sn : Nat) : Int))].toArray w (fun v w1 => ∃ a la' lc' lx', v = .tuple [.slice a sn sn, vi 0].toArray ∧ HP w00 w1 (.row a sn sn 5 1 ((((sT df dn key dm data u lg ((sn + 31) / 32)).2.2).take sn).map vu8) :: Ent.blk ob .nw 66 [(1, [(.bool true)]), (32, ms.map vu8), (1, [(.slice da dn dc)]), (1, [(vi (((sT df dn key dm data u lg ((sn + 31) / 32)).1 : Nat) : Int))]), (1, [(.map (some mp))]), (1, [(.slice la' ((sT df dn key dm data u lg ((sn + 31) / 32)).2.1.length) lc')])] :: Ent.row la' ((sT df dn key dm data u lg ((sn + 31) / 32)).2.1.length) lc' 47 67 lx' :: Ent.obj mp .nw (.map (mArr ((sT df dn key dm data u lg ((sn + 31) / 32)).2.1)) ((sT df dn key dm data u lg ((sn + 31) / 32)).2.1.length)) :: Ent.pin (sblks lx') (fun w => Lgs w lx' ((sT df dn key dm data u lg ((sn + 31) / 32)).2.1)) :: Ent.view da (df.map vu8) :: Ent.view qa (data.map vu8) :: L)) := by
 have h32 : ok32 lg := Lgs.ok32 (h_0.ok _ M3).1
 refine Cs.of (n := 88) (args := [(pO ob 0), (.agg ⟨flat [(1, [(vi 4)]), (32, key.map vu8), (1, [(vi dm)]), (1, [(.slice qa qn qc)])]⟩), (vn sn)]) Tryz.func18 rfl rfl rfl ?_
 refine WP.seq (WP.reg ?_)
 refine WL.box (segs := [(1, [(vi 4)]), (32, key.map vu8), (1, [(vi dm)]), (1, [(.slice qa qn qc)])]) h_0 rfl rfl (sC sV (sC (s8 hk) (sC sV (sC sV sN)))) rfl (fun b_1 w_2 h_3 => ?_)
 refine WL.box (segs := [(1, [(vn sn)])]) h_3 rfl rfl (sC sV sN) rfl (fun b_4 w_5 h_6 => ?_)
 refine qA (.slice none 0 0) rfl rfl (qA (vi 0) rfl rfl ?_)
 refine WL.nil (thn_n (WP.seq (WP.block (WP.seq (WP.reg ?_)))))
 refine qM (pO ob 0) rfl rfl ?_
 refine WL.call Tryz.call25 rfl rfl (c_othere true ob mp ms hms da dn dc u la lg.length lc _ (h_6.argR M2)) rfl ?_
 rintro _ w_8 ⟨rfl, hc_7⟩
 have h_9 := h_6.same hc_7
 refine qV rfl (R.not (b := true) rfl) (qA (.bool false) rfl rfl ?_)
 refine WL.nil (thn_n ?_)
 refine WP.condF rfl ?_
 refine WP.seq (WP.reg ?_)
 refine qV rfl (R.loadA [] [(1, [(vi 4)]), (32, key.map vu8), (1, [(vi dm)]), (1, [(.slice qa qn qc)])] [] rfl isAgg39 sizeOf39 (h_9.ok _ M1) rfl rfl rfl rfl) ?_
 refine WL.call Tryz.call28 rfl rfl (c_may 4 dm key qa qn qc hk (by omega) hdm (fun h => by omega) _ ) rfl ?_
 rintro _ w_11 ⟨rfl, hc_10⟩
 have h_12 := h_9.same hc_10
 refine qV rfl (R.not (b := true) rfl) (qM (.bool false) rfl rfl ?_)
 refine WL.want rfl rfl ?_
 refine qV rfl (R.fieldAddr (off' := 0) rfl underlying39 rfl sizeOf35 rfl rfl) ?_
 refine WL.want rfl rfl ?_
 refine qV rfl (R.load1 rfl isAgg35 (h_12.ok _ M1) Sg.h) ?_
 refine WL.want rfl rfl ?_
 refine qV rfl (R.bin rfl rfl (bi_neq (r := false) (by decide))) (qV rfl (R.pickF (v := (.bool false)) rfl rfl) (qM (.bool false) rfl rfl ?_))
 refine WL.want rfl rfl ?_
 refine qV rfl (R.load1 rfl isAgg3 (h_12.ok _ M0) Sg.h) ?_
 refine WL.want rfl rfl ?_
 refine qV rfl (R.bin rfl rfl (bi_lss (r := decide ((((sn : Nat) : Int) : Int) < 0)) rfl)) (qV rfl (R.pickF (v := (.bool (decide ((((sn : Nat) : Int) : Int) < 0)))) rfl rfl) (qM (.bool (decide ((((sn : Nat) : Int) : Int) < 0))) rfl rfl ?_))
 refine WL.want rfl (congrArg Value.bool (decide_eq_false (by omega))) ?_
 refine qV rfl (R.load1 rfl isAgg3 (h_12.ok _ M0) Sg.h) ?_
 refine WL.want rfl (congrArg Value.bool (decide_eq_false (by omega))) ?_
 refine qV rfl (R.bin rfl rfl (bi_gtr (r := decide ((((sn : Nat) : Int) : Int) > 1024)) rfl)) (qV rfl (R.pickF (v := (.bool (decide ((((sn : Nat) : Int) : Int) > 1024)))) (congrArg Value.bool (decide_eq_false (by omega))) rfl) (qA (.bool (decide ((((sn : Nat) : Int) : Int) > 1024))) rfl rfl ?_))
 refine WL.nil (thn_n ?_)
 refine WP.condF (congrArg Value.bool (decide_eq_false (by omega))) ?_
 refine WP.skip (inb_n (thn_n (WP.seq (WP.seq (WP.reg ?_)))))
 refine qM (pO ob 0) rfl rfl (qV rfl (R.nilCheck rfl) (qV rfl (R.fieldAddr (off' := 0) rfl underlying66 rfl sizeOf4 rfl rfl) (qV rfl (R.load1 rfl isAgg4 (h_12.ok _ M2) Sg.h) ?_)))
 refine WL.nil (thn_n ?_)
 refine WP.condT rfl ?_
 refine WP.seq (WP.reg ?_)
 refine qA (.slice none 0 0) rfl rfl ?_
 refine WL.nil (thn_n (WP.seq (WP.seq (WP.reg ?_))))
 refine qA (vu64 0) rfl rfl ?_
 refine WL.nil (thn_n (WP.block ?_))
 have h_13 := h_12.rowNil 5 1
 have h_22 := ((((((((h_13.up J8).up J3).up J3).up J3).up J8).up J8).up J8).up J8).up J8
 refine WP.loopG (G := Nat × Option Addr × Nat × Option Addr × Nat × List Value) [8, 9, 10, 11, 40, 41, 42, 43, 44, 45, 46, 47, 48, 49, 50, 51, 52, 53, 54, 55, 56, 57, 58, 59] (fun (k, oa, oc, la2, lc2, lx2) => [(8, (.slice oa (32 * k) oc)), (9, (vu64 (UInt64.ofNat k)))]) (fun (k, oa, oc, la2, lc2, lx2) m w1 => HP w00 w1 (Ent.blk ob .nw 66 [(1, [(.bool true)]), (32, ms.map vu8), (1, [(.slice da dn dc)]), (1, [(vn ((sT df dn key dm data u lg k).1))]), (1, [(.map (some mp))]), (1, [(.slice la2 ((sT df dn key dm data u lg k).2.1.length) lc2)])] :: Ent.row la2 ((sT df dn key dm data u lg k).2.1.length) lc2 47 67 lx2 :: Ent.obj mp .nw (.map (mArr ((sT df dn key dm data u lg k).2.1)) ((sT df dn key dm data u lg k).2.1.length)) :: Ent.pin (sblks lx2) (fun w => Lgs w lx2 ((sT df dn key dm data u lg k).2.1)) :: Ent.view da (df.map vu8) :: Ent.row oa (32 * k) oc 5 1 (((sT df dn key dm data u lg k).2.2).map vu8) :: Ent.blk b_4 .nw 3 [(1, [(vn sn)])] :: Ent.blk b_1 .nw 39 [(1, [(vi 4)]), (32, key.map vu8), (1, [(vi dm)]), (1, [(.slice qa qn qc)])] :: Ent.view qa (data.map vu8) :: L) ∧ (32 * k ≤ sn + 31) ∧ m = sn + 32 - 32 * k) ⟨(0, none, 0, la, lc, lx), _, ⟨rfl, rfl, trivial⟩, h_22, (by omega), rfl⟩ ?_
 rintro ⟨k, oa, oc, la2, lc2, lx2⟩ m_25 J_26 w_23 ⟨h_24, hkk, rfl⟩
 have hsu := sT_u (df := df) (dn := dn) (key := key) (dm := dm) (data := data) (u := u) (lg := lg) k
 have hsl := sT_l (df := df) (dn := dn) (key := key) (dm := dm) (data := data) (u := u) (lg := lg) k
 have hs32 := sT_32 (key := key) (dm := dm) (data := data) (u := u) hdf h32 k
 have hk8 : k < 100 → (UInt64.ofNat k).toNat = k := fun _ => by simp; omega
 refine WP.seq (WP.seq (WP.reg ?_))
 refine qM (.slice oa (32 * k) oc) rfl rfl (qV rfl (R.lenS (a := oa) (m := 32 * k) rfl rfl underlying37) (qV rfl (R.load1 rfl isAgg3 (h_24.ok _ M6) Sg.h) (qV rfl (R.bin rfl rfl (bi_lss (r := decide ((((32 * k : Nat) : Int) : Int) < ((sn : Nat) : Int))) rfl)) ?_)))
 refine WL.nil (thn_n ?_)
 refine WP.cond (b := decide ((((32 * k : Nat) : Int) : Int) < ((sn : Nat) : Int))) rfl (fun c_27 => ?_) (fun c_27 => ?_)
 ·have p_28 := of_decide_eq_true c_27
  refine WP.skip (thn_n (WP.seq (WP.block (WP.seq (WP.reg ?_)))))
  refine qV rfl (R.loadA [] [(1, [(vi 4)]), (32, key.map vu8), (1, [(vi dm)]), (1, [(.slice qa qn qc)])] [] rfl isAgg39 sizeOf39 (h_24.ok _ M7) rfl rfl rfl rfl) ?_
  refine WL.alloc (segs := [(1, [(vi 0)]), (32, (zB 32).map vu8), (1, [(vi 0)]), (1, [(.slice none 0 0)])]) h_24 (zv typeInfo39 rfl) rfl (sC sV (sC (s8 lr) (sC sV (sC sV sN)))) rfl (fun b_29 w_30 h_31 => ?_)
  refine WL.storeA [] [(1, [(vi 0)]), (32, (zB 32).map vu8), (1, [(vi 0)]), (1, [(.slice none 0 0)])] [(1, [(vi 4)]), (32, key.map vu8), (1, [(vi dm)]), (1, [(.slice qa qn qc)])] [] h_31 rfl rfl sizeOf39 At.h (by decide) rfl rfl rfl rfl rfl rfl (sC sV (sC (s8 hk) (sC sV (sC sV sN)))) (fun w_32 h_33 => ?_)
  refine WL.nil (thn_n (WP.seq (WP.reg ?_)))
  refine qV rfl (R.fieldAddr (off' := 34) rfl underlying39 rfl sizeOf37 rfl rfl) (qV rfl (R.load1 rfl isAgg37 (h_33.ok _ M8) (Sg.t rfl (Sg.t rfl (Sg.t rfl Sg.h)))) ?_)
  refine WL.call Tryz.call27 rfl rfl (c_Clone qa qn qc data hdl (by omega) _ (viewV (h_33.ok _ M9))) rfl ?_
  rintro _ w_36 ⟨a_34, cap_35, rfl, hc_37, ho_38⟩
  have h_39 := h_33.gotRow hc_37 ho_38
  refine qM (vu64 (UInt64.ofNat k)) rfl rfl ?_
  refine WL.call Tryz.call37 rfl rfl (c_oword (UInt64.ofNat k) _) rfl ?_
  rintro _ w_42 ⟨a_40, cap_41, rfl, hc_43, ho_44⟩
  have h_45 := h_39.gotRow hc_43 ho_44
  refine WL.append (km := qn + 8) (xs := data.map vu8) (ys := (leN 8 (UInt64.ofNat k).toNat).map vu8) (zs := (data ++ (leN 8 (UInt64.ofNat k).toNat)).map vu8) h_45 rfl rfl el37 (ownView (h_45.ok _ M0)) ((len_map (leN_len ..)).trans (Nat.mul_one _).symm) (one_u8 _) (by simp only [List.map_append, List.map_nil]) (by omega) (by omega) (by omega) (fun _ _ => Y1) rfl (fun a_46 c_47 w_48 h_49 => ?_)
  refine qV rfl (R.fieldAddr (off' := 34) rfl underlying39 rfl sizeOf37 rfl rfl) ?_
  refine WL.store1 h_49 rfl rfl sizeOf37 rfl Y2 (by decide) (Sg.t rfl (Sg.t rfl (Sg.t rfl Sg.h))) (fun w_50 h_51 => ?_)
  refine WL.nil (thn_n (WP.seq (WP.reg ?_)))
  refine qM (pO ob 0) rfl rfl (qV rfl (R.loadA [] [(1, [(vi 4)]), (32, key.map vu8), (1, [(vi dm)]), (1, [(.slice a_46 (qn + 8) c_47)])] [] rfl isAgg39 sizeOf39 (h_51.ok _ M2) rfl rfl rfl rfl) ?_)
  have h_52 := h_51.up J1
  have h_53 := h_52.rowView
  have h_58 := ((((h_53.up J7).up J7).up J7).up J7).up J7
  have h32_w_62 := hs32
  refine WL.call Tryz.call29 rfl rfl (c_ans ob mp ms df hms da dn dc ((sT df dn key dm data u lg k).1) hdf la2 lc2 lx2 ((sT df dn key dm data u lg k).2.1) (by omega) (by omega) 4 dm key (data ++ (leN 8 (UInt64.ofNat k).toNat)) a_46 (qn + 8) c_47 ⟨hk, by show (1 : Int) ≤ 4 ∧ (4 : Int) ≤ 4; decide, hdm, by simp only [List.length_append, leN_len]; omega⟩ (lenApp (a := qn) (b := 8) hdl (leN_len ..) (by omega) : List.length (data ++ (leN 8 (UInt64.ofNat k).toNat)) = qn + 8) .nilFunc _ h_58) rfl ?_
  rintro _ w_62 ⟨la_59, lc_60, lx_61, rfl, h_63⟩
  refine WL.alloc (segs := [(32, (zB 32).map vu8)]) h_63 (zv typeInfo29 rfl) rfl (sC (s8 lr) sN) rfl (fun b_64 w_65 h_66 => ?_)
  refine WL.storeA [] [(32, (zB 32).map vu8)] [(32, (anD true df dn ((sT df dn key dm data u lg k).1) ((sT df dn key dm data u lg k).2.1) (4, key, dm, (data ++ (leN 8 (UInt64.ofNat k).toNat)))).map vu8)] [] h_66 rfl rfl sizeOf29 At.h (by decide) rfl rfl rfl rfl rfl rfl (sC (s8 (anD_len hdf h32_w_62)) sN) (fun w_67 h_68 => ?_)
  refine WL.nil (thn_n (WP.reg ?_))
  refine qM (.slice oa (32 * k) oc) rfl rfl (qV rfl (R.sliceA (b := b_64) (off := 0) (off' := 0) (l := 0) (h := 32) rfl EvB.dflt EvB.dflt (by decide) (by decide) underlying29 sizeOf5 rfl) ?_)
  refine WL.append (km := 32 * k + 32) (xs := ((sT df dn key dm data u lg k).2.2).map vu8) (ys := (anD true df dn ((sT df dn key dm data u lg k).1) ((sT df dn key dm data u lg k).2.1) (4, key, dm, (data ++ (leN 8 (UInt64.ofNat k).toNat)))).map vu8) (zs := (((sT df dn key dm data u lg k).2.2) ++ (anD true df dn ((sT df dn key dm data u lg k).1) ((sT df dn key dm data u lg k).2.1) (4, key, dm, (data ++ (leN 8 (UInt64.ofNat k).toNat))))).map vu8) h_68 rfl rfl el37 (viewB (h_68.ok _ M0) Sg.h) ((len_map (anD_len hdf h32_w_62)).trans (Nat.mul_one _).symm) (one_u8 _) (by simp only [List.map_append, List.map_nil]) (by omega) (by omega) (by omega) (fun _ _ => Y9) rfl (fun a_69 c_70 w_71 h_72 => ?_)
  refine qA (.slice a_69 (32 * k + 32) c_70) rfl rfl ?_
  refine WL.nil (inb_n (thn_n (WP.reg ?_)))
  refine qM (vu64 (UInt64.ofNat k)) rfl rfl (qV rfl (R.bin rfl rfl (b64_add (UInt64.ofNat k) 1)) (qA (vu64 ((UInt64.ofNat k) + 1)) rfl rfl ?_))
  refine WL.nil (thn_n ?_)
  have h_88 := (((((((((((((((h_72.drop rfl).up J5).drop rfl).up J5).drop rfl).up J5).drop rfl).up J8).up J8).up J8).up J8).up J8).up J8).up J8).up J8).up J8
  rw [hk8 (by omega)] at h_88
  exact ⟨(k + 1, a_69, c_70, la_59, lc_60, lx_61), _, (by omega), (U4 rfl rfl rfl rfl (U4 rfl rfl rfl rfl (U4 rfl rfl rfl rfl (U4 rfl rfl rfl rfl (U4 rfl rfl rfl rfl (U4 rfl rfl rfl rfl (Ag.updL rfl (Ag.mix _ _ _)))))))), ⟨rfl, congrArg vu64 (by simp [UInt64.ofNat_add]), trivial⟩, h_88, (by omega), rfl⟩
 ·have p_89 := of_decide_eq_false c_27
  refine WP.exit (thn_x (thn_x (inb_hit (thn_n (WP.seq (WP.reg ?_))))))
  refine qM (.slice oa (32 * k) oc) rfl rfl (qV rfl (R.load1 rfl isAgg3 (h_24.ok _ M6) Sg.h) (qV rfl (R.load1 rfl isAgg3 (h_24.ok _ M6) Sg.h) (qV rfl (R.sliceR3 (h := sn) rfl EvB.dflt rfl rfl rfl rfl (Nat.le_trans (by omega) (h_24.own M5).2.2.1) underlying37 sizeOf5 (h_24.ok _ M5)) ?_)))
  have h_90 := HP.rowCap (k := sn) (ys := (((sT df dn key dm data u lg k).2.2).take sn).map vu8) h_24 Y5 (by omega) (by rw [Nat.mul_one, ← List.map_take])
  refine qA (.slice oa sn sn) rfl rfl (qA (vi 0) rfl rfl ?_)
  refine WL.nil (thn_n (WP.ret (thn_r ?_)))
  refine ret_of results18 (RV.tmp (v := (.slice oa sn sn)) rfl (RV.tmp (v := (vi 0)) rfl RV.nil)) ?_
  have h_101 := ((((((((((h_90.up J6).drop rfl).up J6).drop rfl).up J6).up J5).up J5).up J5).up J5).up J5).up J6
  have hkn : k = (sn + 31) / 32 := by omega
  subst hkn
  exact ⟨_, _, _, _, rfl, by first | exact h_101 | (have hx := h_101; rwa [List.take_of_length_le (by rw [sT_len hdf h32]; omega)])⟩
theorem c_joined (a : Option Addr) (n cap : Nat) (xs : List Value) (ls : List (List UInt8)) (hln : ls.length = n) (hb : ls.flatten.length ≤ 1099511627776) (hnb : n ≤ 1099511627776) (w : World) (hv : View w a xs) (hs : Sls w xs ls) :
  Cs Tryz.prog 36 [(.slice a n cap)].toArray w (fun v w1 => ∃ a cap, v = .slice a ls.flatten.length cap ∧ Chg w w1 [] ∧ Own w.heap.size w1 5 1 a ls.flatten.length cap ((ls.flatten).map vu8)) := by
 refine Cs.of (n := 5) (args := [(.slice a n cap)]) Tryz.func36 rfl rfl rfl ?_
 have h_0 := HP.init w
 have h_01 := h_0.old (View.arg hv) (fun f hf => by cases hf)
 have h_00 := h_01.old hs.pin (fun f hf => by rw [List.mem_singleton] at hf; subst hf; intro hm; simp [Ent.mut] at hm)
 have hxl : xs.length = n := hs.len.trans hln
 refine WP.seq (WP.reg ?_)
 refine qA (.slice none 0 0) rfl rfl ?_
 refine WL.nil (thn_n (WP.seq (WP.reg ?_)))
 refine qM (.slice a n cap) rfl rfl ?_
 refine WL.call Tryz.call52 rfl rfl (c_Concat a n cap xs ls hln (by omega) (by omega) _ (viewV (h_00.ok _ M1)) (h_00.ok _ M0).1) rfl ?_
 rintro _ w_3 ⟨a_1, cap_2, rfl, hc_4, ho_5⟩
 have h_6 := h_00.gotRow hc_4 ho_5
 refine qA (.slice a_1 ls.flatten.length cap_2) rfl rfl ?_
 refine WL.nil (thn_n (WP.ret ?_))
 refine ret_of results36 (RV.tmp (v := (.slice a_1 ls.flatten.length cap_2)) rfl RV.nil) ?_
 exact ⟨_, _, rfl, h_6.chgS, h_6.ok _ M0⟩

end Go.Proofs.YtajiipjmmoehcaaGreat

namespace Go.Orc
open Go.Vc Go.RowKit
def lk (q : Qn) (l : Lg) : Option (List UInt8) := (fdq q l 0).map fun i => (l.getD i (q, [])).2
theorem fdq_app {q : Qn} (x : Qn × List UInt8) : ∀ {l : Lg} {i j : Nat}, fdq q l i = some j → fdq q (l ++ [x]) i = some j
  | p :: r, i, j, h => by
    rw [List.cons_append]
    rw [fdq] at h ⊢
    split
    · rename_i e; rw [if_pos e] at h; exact h
    · rename_i e; rw [if_neg e] at h; exact fdq_app x h
theorem fdq_new {q : Qn} (d : List UInt8) : ∀ {l : Lg} {i : Nat}, fdq q l i = none → fdq q (l ++ [(q, d)]) i = some (i + l.length)
  | [], i, _ => by simp [fdq]
  | p :: r, i, h => by
    rw [List.cons_append]
    rw [fdq] at h ⊢
    split
    · rename_i e; rw [if_pos e] at h; cases h
    · rename_i e; rw [if_neg e] at h; rw [fdq_new d h, List.length_cons]; congr 1; omega
section
variable {id : Bool} {df : List UInt8} {dn u : Nat} {l : Lg} {q q' : Qn} {d : List UInt8}
end
end Go.Orc
namespace Go.Vc
open Go.RowKit Go.ChangeShapes Go.WideShapes Go.ChangeAt
section
variable {P : Program} {w : World} {t : TypeId} {cs : List Value}
theorem cells?_all {a : Addr} {n : Nat} {ys : List Value} (h : w.cells? 0 a n = some ys) : ys.length = n ∧ ∀ (i : Nat) v, ys[i]? = some v → w.cell? (a.add i) = some v := by
  simp only [World.cells?, Nat.zero_le, if_true] at h
  have key : ∀ (f : Nat → Option Value) (L : List Nat) (l : List Value), L.mapM f = some l → l.length = L.length ∧ ∀ (i : Nat) v, l[i]? = some v → ∃ x, L[i]? = some x ∧ f x = some v := by
    intro f L
    induction L with
    | nil => intro l h; simp at h; subst h; exact ⟨rfl, fun i v h => by simp at h⟩
    | cons a L ih =>
      intro l h
      rw [List.mapM_cons] at h
      obtain ⟨y, hy, h⟩ := Option.bind_eq_some_iff.1 h
      obtain ⟨l', hl', h⟩ := Option.bind_eq_some_iff.1 h
      simp at h; subst h
      obtain ⟨h1, h2⟩ := ih l' hl'
      refine ⟨by simp [h1], fun i v hv => ?_⟩
      cases i with
      | zero => simp at hv; subst hv; exact ⟨a, rfl, hy⟩
      | succ i => exact h2 i v (by simpa using hv)
  obtain ⟨h1, h2⟩ := key _ _ _ h
  refine ⟨by simpa using h1, fun i v hv => ?_⟩
  obtain ⟨x, hx, hf⟩ := h2 i v hv
  have hi : i < n := by
    have := (List.getElem?_eq_some_iff.1 hx).1
    simpa using this
  rw [List.getElem?_range hi] at hx
  cases hx
  exact hf
theorem Tr.slA8 {e e8 : TypeId} {s : Nat} (hu : P.underlying t = some (.slice e)) (hce : P.cellsOf e = s) (he : P.underlying e = some (.array s e8)) (hce8 : P.cellsOf e8 = 1) (he8 : P.underlying e8 = some (.int .u8)) (h : Tr P w t cs) :
    ∃ a n cap, ∃ l : List UInt8, cs = [.slice a n cap] ∧ l.length = s * n ∧ n ≤ cap ∧ cap ≤ maxLen ∧ (Ent.view a (l.map vu8)).ok w.heap.size w := by
  rcases Tr.nilOrSlice hu h with rfl | ⟨a, len, cap, rfl, h1, h2, h3⟩
  · exact ⟨none, 0, 0, [], rfl, rfl, Nat.le_refl _, by simp [maxLen], ⟨View.nil _ _, fun ad h => by cases h⟩⟩
  · have key : ∀ k, k ≤ len → ∃ l : List UInt8, l.length = s * k ∧ View w (some a) (l.map vu8) := by
      intro k
      induction k with
      | zero => intro _; exact ⟨[], rfl, View.nil _ _⟩
      | succ k ih =>
        intro hk
        obtain ⟨l, hl, hv⟩ := ih (by omega)
        obtain ⟨ys, hys, ht⟩ := h3 k (by omega)
        rw [hce] at hys
        obtain ⟨hyl, hyc⟩ := cells?_all hys
        obtain ⟨m, rfl, hm⟩ := Tr.arr8 he hce hce8 he8 ht
        refine ⟨l ++ m, by rw [List.length_append, hl, hm, Nat.mul_succ], fun i v hv' => ?_⟩
        rw [List.map_append] at hv'
        by_cases hi : i < l.length
        · refine hv i v ?_
          rw [List.getElem?_append_left (by simpa using hi)] at hv'
          exact hv'
        · rw [List.getElem?_append_right (by simpa using hi)] at hv'
          have h4 := hyc _ v hv'
          rw [add_add, List.length_map, hl, Nat.mul_comm, show s * k + (i - s * k) = i by omega] at h4
          exact ⟨a, rfl, h4⟩
    obtain ⟨l, hl, hv⟩ := key len (Nat.le_refl _)
    refine ⟨some a, len, cap, l, rfl, hl, h1, h2, ⟨hv, fun ad ha hne => ?_⟩⟩
    cases ha
    cases l with
    | nil => simp at hne
    | cons x l =>
      obtain ⟨ad', e, hc⟩ := hv 0 (vu8 x) rfl
      cases e
      have := block_lt_of_cell hc
      rwa [Addr.add_block] at this
end
end Go.Vc

namespace Go.Orc
open Go.Vc Go.RowKit
theorem fdq_at {q : Qn} {z : Qn × List UInt8} : ∀ {l : Lg} {s i : Nat}, i < l.length → (∀ j, j < i → (l.getD j z).1 ≠ q) → (l.getD i z).1 = q → fdq q l s = some (s + i)
  | [], s, i, h, _, _ => by simp at h
  | p :: r, s, 0, _, _, h => by rw [fdq, if_pos (by simpa using h)]; rfl
  | p :: r, s, i + 1, hi, hn, h => by
    rw [fdq, if_neg (by simpa using hn 0 (by omega))]
    rw [fdq_at (l := r) (s := s + 1) (i := i) (by simpa using hi) (fun j hj => by simpa using hn (j + 1) (by omega)) (by simpa using h)]
    congr 1; omega
theorem fdq_no {q : Qn} {z : Qn × List UInt8} : ∀ {l : Lg} {s : Nat}, (∀ j, j < l.length → (l.getD j z).1 ≠ q) → fdq q l s = none
  | [], s, _ => rfl
  | p :: r, s, hn => by
    rw [fdq, if_neg (by simpa using hn 0 (by simp))]
    exact fdq_no (fun j hj => by simpa using hn (j + 1) (by simpa using hj))
theorem aC_take {q : Qn} {s : Value} {d : List UInt8} (h : q.2.1.length = 32) : (aC q s d).take 35 = flat [(1, [vi q.1]), (32, q.2.1.map vu8), (1, [vi q.2.2.1]), (1, [s])] := by
  have e : aC q s d = ([vi q.1] ++ (q.2.1.map vu8 ++ ([vi q.2.2.1] ++ [s]))) ++ d.map vu8 := by simp [aC, flat]
  rw [e, List.take_append_of_le_length (by simp [h]), List.take_of_length_le (by simp [h])]
  simp [flat]
theorem Lgs.qget {w : World} {xs : List Value} {l : Lg} (h : Lgs w xs l) {i : Nat} {z : Qn × List UInt8} (hi : i < l.length) : ∃ a n c, (xs.drop (i * 67)).take 35 = flat [(1, [vi (l.getD i z).1.1]), (32, (l.getD i z).1.2.1.map vu8), (1, [vi (l.getD i z).1.2.2.1]), (1, [.slice a n c])] ∧ okQ (l.getD i z).1 ∧ (l.getD i z).1.2.2.2.length = n ∧ n ≤ c ∧ View w a ((l.getD i z).1.2.2.2.map vu8) ∧ (∀ b ∈ sblk (.slice a n c), b ∈ sblks xs) := by
  obtain ⟨a, n, c, h1, h2, h3, h4, h5, h6⟩ := h.get hi
  have hq := h.ok (l[i]) (List.getElem_mem hi)
  have e : l.getD i z = l[i] := by simp [hi]
  rw [e]
  refine ⟨a, n, c, ?_, hq, h3, h4, h5, h6⟩
  have h7 := congrArg (fun x => x.take 35) h1
  change ((xs.drop (67 * i)).take 67).take 35 = (aC _ _ _).take 35 at h7
  rw [aC_take hq.1, List.take_take, show 67 * i = i * 67 by omega, show min 35 67 = 35 from rfl] at h7
  exact h7
theorem aC_set {q : Qn} {s s' : Value} {d : List UInt8} (h : q.2.1.length = 32) : (aC q s d).set 34 s' = aC q s' d := by
  have e : ∀ s, aC q s d = ([vi q.1] ++ (q.2.1.map vu8 ++ [vi q.2.2.1])) ++ (s :: d.map vu8) := fun s => by simp [aC, flat]
  rw [e, e, List.set_append, if_neg (by simp [h])]
  congr 1
  simp [h]
theorem Lgs.set {w : World} {xs : List Value} {l : Lg} (h : Lgs w xs l) : ∀ {i : Nat} {z : Qn × List UInt8} {a : Option Addr} {n c : Nat}, i < l.length → (l.getD i z).1.2.2.2.length = n → n ≤ c → View w a ((l.getD i z).1.2.2.2.map vu8) → Lgs w (xs.set (i * 67 + 34) (.slice a n c)) l := by
  induction h with
  | nil => intro i z a n c hi; simp at hi
  | @snoc a n c q d xs l r hq hd hl hc hv ih =>
    intro i z a' n' c' hi hn hc' hv'
    have hlen := r.len
    by_cases e : i < l.length
    · have e2 : (l ++ [(q, d)]).getD i z = l.getD i z := by simp [List.getD_eq_getElem?_getD, e, List.getElem?_append_left]
      rw [e2] at hn hv'
      rw [List.set_append, if_pos (by omega)]
      exact .snoc (ih e hn hc' hv') hq hd hl hc hv
    · have : i = l.length := by rw [List.length_append, List.length_singleton] at hi; omega
      subst this
      have e2 : (l ++ [(q, d)]).getD l.length z = (q, d) := by simp
      rw [e2] at hn hv'
      rw [List.set_append, if_neg (by omega), show l.length * 67 + 34 - xs.length = 34 by omega, aC_set hq.1]
      exact .snoc r hq hd hn hc' hv'
theorem sblks_set {v : Value} : ∀ {xs : List Value} {k : Nat} {b : Nat}, b ∈ sblks (xs.set k v) → b ∈ sblks xs ∨ b ∈ sblk v
  | [], k, b, h => by simp [sblks] at h
  | x :: xs, 0, b, h => by
    have h' : b ∈ sblk v ++ sblks xs := h
    rcases List.mem_append.1 h' with h | h
    · exact .inr h
    · exact .inl (show b ∈ sblk x ++ sblks xs from List.mem_append.2 (.inr h))
  | x :: xs, k + 1, b, h => by
    have h' : b ∈ sblk x ++ sblks (xs.set k v) := h
    rcases List.mem_append.1 h' with h | h
    · exact .inl (show b ∈ sblk x ++ sblks xs from List.mem_append.2 (.inl h))
    · rcases sblks_set h with h | h
      · exact .inl (show b ∈ sblk x ++ sblks xs from List.mem_append.2 (.inr h))
      · exact .inr h
theorem HP_logSet {w w0 : World} {L : List Ent} {xs : List Value} {l : Lg} {i : Nat} {z : Qn × List UInt8} {a : Option Addr} {n c : Nat} {E : TypeId} (h : HP w0 w (.row a n c E 1 ((l.getD i z).1.2.2.2.map vu8) :: .pin (sblks xs) (fun w => Lgs w xs l) :: L)) (hi : i < l.length) (hl : (l.getD i z).1.2.2.2.length = n) :
    HP w0 w (.pin (sblks (xs.set (i * 67 + 34) (.slice a n c))) (fun w => Lgs w (xs.set (i * 67 + 34) (.slice a n c)) l) :: .view a ((l.getD i z).1.2.2.2.map vu8) :: .pin (sblks xs) (fun w => Lgs w xs l) :: L) := by
  have hcap := (h.own (List.mem_cons_self ..)).2.2.1
  have h1 := h.rowView
  have hm1 : Ent.pin (sblks xs) (fun w => Lgs w xs l) ∈ (.view a ((l.getD i z).1.2.2.2.map vu8) :: .pin (sblks xs) (fun w => Lgs w xs l) :: L) := List.mem_cons_of_mem _ (List.mem_cons_self ..)
  have hm2 : Ent.view a ((l.getD i z).1.2.2.2.map vu8) ∈ (.view a ((l.getD i z).1.2.2.2.map vu8) :: .pin (sblks xs) (fun w => Lgs w xs l) :: L) := List.mem_cons_self ..
  have hs : Lgs w xs l := (h1.ok _ hm1).1
  have hv := viewV (h1.ok _ hm2)
  refine h1.within2 hm1 hm2 rfl rfl (Lgs.pin (hs.set (z := z) hi hl hcap hv)) rfl rfl fun b hb => ?_
  simp only [Ent.blocks] at hb
  rcases sblks_set hb with hb | hb
  · exact .inl hb
  · exact .inr (sblk_in_view hl b hb)
theorem same4 (p q : Qn) : decide (p = q) = (decide (p.1 = q.1) && (decide (p.2.1 = q.2.1) && (decide (p.2.2.1 = q.2.2.1) && decide (p.2.2.2 = q.2.2.2)))) := by
  obtain ⟨a, b, c, d⟩ := p
  obtain ⟨a', b', c', d'⟩ := q
  simp [Prod.ext_iff]
end Go.Orc
namespace Go.Orc
open Go.Vc Go.RowKit
theorem le_step {x : UInt64} {k : Nat} (h : k < 8) : leN k x.toNat ++ ([UInt8.ofNat (shr64 x ((8 : UInt64) * UInt64.ofNat k).toNat).toNat] : List UInt8) = leN (k + 1) x.toNat := by
  have e : ((8 : UInt64) * UInt64.ofNat k).toNat = 8 * k := by
    rw [UInt64.toNat_mul]; simp; omega
  have hx := x.toNat_lt
  have h1 : x.toNat / 2 ^ (8 * k) ≤ x.toNat := Nat.div_le_self _ _
  rw [leN_snoc, e, shr64, pow256]
  congr 3
  simp; omega
end Go.Orc
namespace Go.Orc
open Go.Vc Go.RowKit
theorem Lgs.one {w : World} {xs : List Value} {l : Lg} (h : Lgs w xs l) : ∀ v ∈ xs, v.oneCell' = true := by
  induction h with
  | nil => intro v hv; cases hv
  | snoc r hq hd hl hc hv ih =>
    intro v hv
    rcases List.mem_append.1 hv with hv | hv
    · exact ih v hv
    · exact (aC_ok hq.1 hd rfl).head.one v hv
theorem q34 {xs : List Value} {i : Nat} {x y s : Value} {key : List UInt8} (hk : key.length = 32) (h : (xs.drop (i * 67)).take 35 = flat [(1, [x]), (32, key.map vu8), (1, [y]), (1, [s])]) : xs[i * 67 + 34]? = some s := by
  have e : flat [(1, [x]), (32, key.map vu8), (1, [y]), (1, [s])] = ([x] ++ (key.map vu8 ++ [y])) ++ [s] := by simp [flat]
  have h2 := congrArg (fun l => l[34]?) h
  simp only [List.getElem?_take, List.getElem?_drop, e] at h2
  rw [if_pos (by omega)] at h2
  rw [h2, List.getElem?_append_right (by simp [hk])]
  simp [hk]
end Go.Orc
namespace Go.Orc
open Go.Vc Go.RowKit
theorem view_noneV {w : World} {a : Option Addr} {xs : List Value} (h : a.isNone = true) (hv : View w a xs) : xs = [] := by
  cases xs with
  | nil => rfl
  | cons x r =>
    obtain ⟨ad, e, _⟩ := hv 0 x rfl
    rw [e] at h; cases h
end Go.Orc
namespace Go.Orc
open Go.Vc Go.RowKit
theorem sub_blk {a : Option Addr} {l m : Nat} {xs ys : List Value} (h : 0 < xs.length) : ∀ b ∈ (Ent.view (slA a l m 1) ys).blocks, b ∈ (Ent.view a xs).blocks := by
  intro b hb
  cases a with
  | none => simp [slA, Ent.blocks] at hb
  | some ad =>
    cases xs with
    | nil => simp at h
    | cons x r =>
      have e : slA (some ad) l m 1 = some ad ∨ slA (some ad) l m 1 = some (ad.add (l * 1)) := by
        unfold slA; split
        · exact .inl rfl
        · exact .inr rfl
      rcases e with e | e <;> rw [e] at hb <;> cases ys <;> simp [Ent.blocks, Addr.add_block] at hb ⊢ <;> exact hb
end Go.Orc

namespace Go.Proofs.YtajiipjmmoehcaaGreat
open Go.Proofs.Tryz
open Go.Vc Go.Orc Go.Sh Go.RowKit
set_option maxRecDepth 20000

theorem c_rLe (x : UInt64) (w : World) :
  Cs Tryz.prog 44 [(vu64 x)].toArray w (fun v w1 => ∃ a cap, v = .slice a 8 cap ∧ Chg w w1 [] ∧ Own w.heap.size w1 5 1 a 8 cap ((leN 8 x.toNat).map vu8)) := by
 refine Cs.of (n := 19) (args := [(vu64 x)]) Tryz.func44 rfl rfl rfl ?_
 have h_0 := HP.init w
 refine WP.seq (WP.reg ?_)
 refine qA (.slice none 0 0) rfl rfl ?_
 refine WL.nil (thn_n (WP.seq (WP.reg ?_)))
 refine qA (.slice none 0 0) rfl rfl ?_
 refine WL.nil (thn_n (WP.seq (WP.seq (WP.reg ?_))))
 refine qA (vi 0) rfl rfl ?_
 refine WL.nil (thn_n (WP.block ?_))
 have h_1 := h_0.rowNil 5 1
 refine WP.loopG (G := Nat × Option Addr × Nat) [3, 4, 5, 6, 7, 8, 9, 10, 11, 12, 13, 14, 15, 16, 17] (fun (k, ra, rc) => [(3, (.slice ra k rc)), (4, (vn k))]) (fun (k, ra, rc) m w1 => HP w w1 [.row ra k rc 5 1 ((leN k x.toNat).map vu8)] ∧ (k ≤ 8) ∧ m = 8 - k) ⟨(0, none, 0), _, ⟨rfl, rfl, trivial⟩, h_1, Nat.zero_le _, rfl⟩ ?_
 rintro ⟨k, ra, rc⟩ m_4 J_5 w_2 ⟨h_3, hk, rfl⟩
 refine WP.seq (WP.seq (WP.reg ?_))
 refine qM (vn k) rfl rfl (qV rfl (R.bin rfl rfl (bi_lss (r := decide ((((k : Nat) : Int) : Int) < 8)) rfl)) ?_)
 refine WL.nil (thn_n ?_)
 refine WP.cond (b := decide ((((k : Nat) : Int) : Int) < 8)) rfl (fun c_6 => ?_) (fun c_6 => ?_)
 ·have p_7 := of_decide_eq_true c_6
  refine WP.skip (thn_n (WP.seq (WP.block (WP.reg ?_))))
  refine qM (.slice ra k rc) rfl rfl (qM (vu64 x) rfl rfl (qM (vn k) rfl rfl (qV rfl (R.conv (b := ((UInt64.ofNat k) : UInt64).toNat) rfl underlying3 underlying109 (w64_nat k)) (qV rfl (R.bin rfl rfl (b64_mul 8 (UInt64.ofNat k))) (qV rfl (R.binR (v := vu64 (shr64 x (((8 : UInt64) * (UInt64.ofNat k)).toNat))) rfl rfl (run_shr64 _ _ _ x _ (((8 : UInt64) * (UInt64.ofNat k)).toNat))) (qV rfl (R.conv (b := ((UInt8.ofNat ((shr64 x (((8 : UInt64) * (UInt64.ofNat k)).toNat)).toNat)) : UInt8).toNat) rfl underlying84 underlying5 (w8_nat ((shr64 x (((8 : UInt64) * (UInt64.ofNat k)).toNat)).toNat))) ?_))))))
  refine WL.buildSl (vs := [(0, (vu8 (UInt8.ofNat ((shr64 x (((8 : UInt64) * (UInt64.ofNat k)).toNat)).toNat))))]) (cs := ([UInt8.ofNat ((shr64 x (((8 : UInt64) * (UInt64.ofNat k)).toNat)).toNat)] : List UInt8).map vu8) h_3 underlying37 sizeOf5 (zv typeInfo5 rfl) rfl rfl (by kernel_rfl) rfl (one_u8 _) rfl rfl (fun b_8 w_9 h_10 => ?_)
  refine WL.append (km := k + 1) (xs := (leN k x.toNat).map vu8) (ys := ([UInt8.ofNat ((shr64 x (((8 : UInt64) * (UInt64.ofNat k)).toNat)).toNat)] : List UInt8).map vu8) (zs := ((leN k x.toNat) ++ ([UInt8.ofNat ((shr64 x (((8 : UInt64) * (UInt64.ofNat k)).toNat)).toNat)] : List UInt8)).map vu8) h_10 rfl rfl el37 (viewB (h_10.ok _ M0) Sg.h) ((len_map (rfl : List.length ([UInt8.ofNat ((shr64 x (((8 : UInt64) * (UInt64.ofNat k)).toNat)).toNat)] : List UInt8) = 1)).trans (Nat.mul_one _).symm) (one_u8 _) (by simp only [List.map_append, List.map_nil]) (by omega) (by omega) (by omega) (fun _ _ => Y1) rfl (fun a_11 c_12 w_13 h_14 => ?_)
  refine qA (.slice a_11 (k + 1) c_12) rfl rfl ?_
  refine WL.nil (inb_n (thn_n (WP.reg ?_)))
  refine qM (vn k) rfl rfl (qV rfl (R.bin rfl rfl (bi_add (c := ((k + 1 : Nat) : Int)) (by omega) (by omega))) (qA (vn (k + 1)) rfl rfl ?_))
  refine WL.nil (thn_n ?_)
  have h_15 := h_14.drop rfl
  rw [le_step (by omega)] at h_15
  exact ⟨(k + 1, a_11, c_12), _, (by omega), (Ag.upd rfl (U2 rfl rfl (U4 rfl rfl rfl rfl (U4 rfl rfl rfl rfl (U4 rfl rfl rfl rfl (Ag.updL rfl (Ag.mix _ _ _))))))), ⟨rfl, rfl, trivial⟩, h_15, (by omega), rfl⟩
 ·have p_16 := of_decide_eq_false c_6
  refine WP.exit (thn_x (thn_x (inb_hit (thn_n (WP.seq (WP.reg ?_))))))
  refine qM (.slice ra k rc) rfl rfl (qA (.slice ra k rc) rfl rfl ?_)
  refine WL.nil (thn_n (WP.ret ?_))
  refine ret_of results44 (RV.tmp (v := (.slice ra k rc)) rfl RV.nil) ?_
  have hk8 : k = 8 := by omega
  subst hk8
  exact ⟨_, _, rfl, h_3.chgS, h_3.own M0⟩

theorem c_rDraw (id : Bool) (ob : Nat) (ms df : List UInt8) (hms : ms.length = 32) (da : Option Addr) (dn dc u u2 : Nat) (hdf : df.length = 32 * dn) (la : Option Addr) (ln lc : Nat) (hu : u ≤ 1000000) (w : World) (hv : View w da (df.map vu8)) (hcb : (Ent.blk ob .ro 33 [(1, [(.bool id)]), (32, ms.map vu8), (1, [(.slice da dn dc)]), (1, [(vi ((u2 : Nat) : Int))]), (1, [(.slice la ln lc)])]).ok w.heap.size w) :
  Cs Tryz.prog 34 [(.pointer (some ⟨ob, 0, none⟩)), (vi ((u : Nat) : Int))].toArray w (fun v w1 => v = (.agg ⟨(drawF df dn u).map vu8⟩) ∧ Chg w w1 []) := by
 refine Cs.of (n := 27) (args := [(pO ob 0), (vn u)]) Tryz.func34 rfl rfl rfl ?_
 have h_0 := HP.init w
 have h_01 := h_0.oldV (View.arg hv) rfl (by simp [Ent.mut])
 have h_00 := h_01.oldV hcb rfl (by simp [Ent.mut])
 refine WP.seq (WP.reg ?_)
 refine WL.alloc (segs := [(32, (zB 32).map vu8)]) h_00 (zv typeInfo29 rfl) rfl (sC (s8 lr) sN) rfl (fun b_1 w_2 h_3 => ?_)
 refine WL.nil (thn_n (WP.seq (WP.seq (WP.reg ?_))))
 refine qM (vn u) rfl rfl (qM (pO ob 0) rfl rfl (qV rfl (R.nilCheck rfl) (qV rfl (R.fieldAddr (off' := 33) rfl underlying33 rfl sizeOf22 rfl rfl) (qV rfl (R.load1 rfl isAgg22 (h_3.ok _ M1) (Sg.t rfl (Sg.t rfl Sg.h))) (qV rfl (R.lenS (a := da) (m := dn) rfl rfl underlying22) (qV rfl (R.bin rfl rfl (bi_lss (r := decide ((((u : Nat) : Int) : Int) < ((dn : Nat) : Int))) rfl)) ?_))))))
 refine WL.nil (thn_n ?_)
 refine WP.cond (b := decide ((((u : Nat) : Int) : Int) < ((dn : Nat) : Int))) rfl (fun c_4 => ?_) (fun c_4 => ?_)
 ·have p_5 := of_decide_eq_true c_4
  refine WP.seq (WP.reg ?_)
  refine qM (pO ob 0) rfl rfl (qV rfl (R.nilCheck rfl) (qV rfl (R.fieldAddr (off' := 33) rfl underlying33 rfl sizeOf22 rfl rfl) (qV rfl (R.load1 rfl isAgg22 (h_3.ok _ M1) (Sg.t rfl (Sg.t rfl Sg.h))) (qM (vn u) rfl rfl (qV rfl (R.indexS (a := da) (i := u) (off := u * 32) (xs := df.map vu8) rfl rfl rfl (by omega) (viewV (h_3.ok _ M2)) (lt_len (K := 32 * dn) (len_map hdf) (by omega)) underlying22 sizeOf29 rfl) (qV rfl (R.loadGA (a := da) (i := u * 32) (xs := df.map vu8) (cs := (((df).drop (u * 32)).take 32).map vu8) rfl (viewV (h_3.ok _ M2)) isAgg29 sizeOf29 (by rw [List.map_take, List.map_drop]) (len_map (subLen (K := 32 * dn) hdf (by omega) : List.length (((df).drop (u * 32)).take 32) = 32)) (by decide)) ?_))))))
  refine WL.storeA [] [(32, (zB 32).map vu8)] [(32, (((df).drop (u * 32)).take 32).map vu8)] [] h_3 rfl rfl sizeOf29 At.h (by decide) rfl rfl rfl rfl rfl rfl (sC (s8 (subLen (K := 32 * dn) hdf (by omega) : List.length (((df).drop (u * 32)).take 32) = 32)) sN) (fun w_6 h_7 => ?_)
  refine WL.nil (thn_n (WP.ret (thn_r ?_)))
  refine ret_of results34 (RV.cell rfl (h_7.loadA (cs := (((df).drop (u * 32)).take 32).map vu8) isAgg29 sizeOf29 M0 rfl rfl) RV.nil) ?_
  exact ⟨by rw [drawF, if_pos (by omega)]; rfl, h_7.chgS⟩
 ·have p_8 := of_decide_eq_false c_4
  refine WP.skip (thn_n (WP.seq (WP.reg ?_)))
  refine WL.alloc (segs := [(32, (zB 32).map vu8)]) h_3 (zv typeInfo29 rfl) rfl (sC (s8 lr) sN) rfl (fun b_9 w_10 h_11 => ?_)
  refine WL.nil (thn_n (WP.seq ?_))
  refine WP.drawT (SL w.heap.size [.blk b_1 .nw 29 [(32, (zB 32).map vu8)], .blk ob .ro 33 [(1, [(.bool id)]), (32, ms.map vu8), (1, [(.slice da dn dc)]), (1, [(vn u2)]), (1, [(.slice la ln lc)])], .view da (df.map vu8)]) (.q 0 (.q 1 (.q 2 (.s 3 (.s 4 .nil))))) (by kernel_rfl) (by kernel_rfl) rfl (by kernel_rfl) (fun w_12 hc_14 => (SL.cons ((h_11.same hc_14).ok _ M1) (SL.cons ((h_11.same hc_14).ok _ M2) (SL.cons ((h_11.same hc_14).ok _ M3) (SL.nil _ _))))) (fun w_12 hc_14 => ?_)
  have h_13 := h_11.same hc_14
  refine qT rfl rfl (fun wq hS => R.sliceA (b := b_9) (off := 0) (off' := 0) (l := 0) (h := 32) rfl EvB.dflt EvB.dflt (by decide) (by decide) underlying29 sizeOf5 rfl) ?_
  refine qT rfl rfl (fun wq hS => R.move (v := (vn u)) rfl) ?_
  refine qT rfl rfl (fun wq hS => R.conv (b := ((UInt64.ofNat u) : UInt64).toNat) rfl underlying3 underlying84 (w64_nat u)) ?_
  refine WT.s (oN rfl ?_)
  refine WL.call Tryz.call44 rfl rfl (c_rLe (UInt64.ofNat u) _) rfl ?_
  rintro _ w_17 ⟨a_15, cap_16, rfl, hc_18, ho_19⟩
  have h_20 := h_13.gotRow hc_18 ho_19
  refine WL.nil ?_
  refine ⟨(N2_3_4 h_20.ok), ?_⟩
  refine WT.s (oN rfl ?_)
  refine WL.copy (q := 8) (i := 0) (ys := (leN 8 (UInt64.ofNat u).toNat).map vu8) (cs' := ((leN 8 (UInt64.ofNat u).toNat) ++ (zB 32).drop 8).map vu8) h_20 rfl rfl underlying37 sizeOf5 (ownView (h_20.ok _ M0)) (len_map (leN_len ..)) (one_u8 _) Y1 (by decide) Sg.h rfl (by decide) (by rw [len_map lr]; decide) (cpPre (leN_len ..)) rfl (fun w_21 h_22 => ?_)
  refine WL.nil ?_
  refine ⟨(N2_3_4 h_22.ok), ?_⟩
  refine WT.nil (thn_n (WP.seq (WP.reg ?_)))
  refine qV rfl (R.indexA (b := b_9) (off := 0) (off' := 31) (i := 31) rfl rfl rfl (by decide) underlying29 sizeOf5 rfl) ?_
  refine WL.storeE (b := b_9) (off := 31) (i := 31) (v := (vu8 1)) (cs' := (((leN 8 (UInt64.ofNat u).toNat) ++ (zB 32).drop 8).set 31 1).map vu8) h_22 rfl rfl sizeOf5 rfl Y1 (by decide) Sg.h rfl (lt_len (K := 32) (len_map (cpLen (leN_len ..) lr (by decide))) (by decide)) (set_u8 _ _ _) (fun w_23 h_24 => ?_)
  refine WL.nil (thn_n (WP.seq (WP.reg ?_)))
  refine qV rfl (R.loadA [] [(32, (((leN 8 (UInt64.ofNat u).toNat) ++ (zB 32).drop 8).set 31 1).map vu8)] [] (cs := (((leN 8 (UInt64.ofNat u).toNat) ++ (zB 32).drop 8).set 31 1).map vu8) rfl isAgg29 sizeOf29 (h_24.ok _ M1) rfl rfl rfl rfl) ?_
  refine WL.storeA [] [(32, (zB 32).map vu8)] [(32, (((leN 8 (UInt64.ofNat u).toNat) ++ (zB 32).drop 8).set 31 1).map vu8)] [] h_24 rfl rfl sizeOf29 Y2 (by decide) rfl rfl rfl rfl rfl rfl (sC (s8 (len_set (cpLen (leN_len ..) lr (by decide)) _ _)) sN) (fun w_25 h_26 => ?_)
  refine WL.nil (thn_n (WP.ret ?_))
  refine ret_of results34 (RV.cell rfl (h_26.loadA (cs := (((leN 8 (UInt64.ofNat u).toNat) ++ (zB 32).drop 8).set 31 1).map vu8) isAgg29 sizeOf29 M2 rfl rfl) RV.nil) ?_
  exact ⟨by rw [drawF, if_neg (by omega), ← draw_tail (by omega)]; rfl, h_26.chgS⟩

theorem c_rSame (p q : Qn) (hp : p.2.1.length = 32) (hq : q.2.1.length = 32) (a : Option Addr) (n cap : Nat) (hl : p.2.2.2.length = n) (a2 : Option Addr) (n2 cap2 : Nat) (hl2 : q.2.2.2.length = n2) (w : World) (hv : View w a (p.2.2.2.map vu8)) (hv2 : View w a2 (q.2.2.2.map vu8)) :
  Cs Tryz.prog 16 [(.agg ⟨flat [(1, [(vi p.1)]), (32, p.2.1.map vu8), (1, [(vi p.2.2.1)]), (1, [(.slice a n cap)])]⟩), (.agg ⟨flat [(1, [(vi q.1)]), (32, q.2.1.map vu8), (1, [(vi q.2.2.1)]), (1, [(.slice a2 n2 cap2)])]⟩)].toArray w (fun v w1 => v = .bool (decide (p = q)) ∧ Chg w w1 []) := by
 refine Cs.of (n := 33) (args := [(.agg ⟨flat [(1, [(vi p.1)]), (32, p.2.1.map vu8), (1, [(vi p.2.2.1)]), (1, [(.slice a n cap)])]⟩), (.agg ⟨flat [(1, [(vi q.1)]), (32, q.2.1.map vu8), (1, [(vi q.2.2.1)]), (1, [(.slice a2 n2 cap2)])]⟩)]) Tryz.func16 rfl rfl rfl ?_
 have h_0 := HP.init w
 have h_01 := h_0.old (View.arg hv) (fun f hf => by cases hf)
 have h_00 := h_01.old (View.arg hv2) (fun f hf => by rw [List.mem_singleton] at hf; subst hf; intro hm; simp [Ent.mut] at hm)
 refine WP.seq (WP.reg ?_)
 refine WL.box (segs := [(1, [(vi p.1)]), (32, p.2.1.map vu8), (1, [(vi p.2.2.1)]), (1, [(.slice a n cap)])]) h_00 rfl rfl (sC sV (sC (s8 hp) (sC sV (sC sV sN)))) rfl (fun b_1 w_2 h_3 => ?_)
 refine WL.box (segs := [(1, [(vi q.1)]), (32, q.2.1.map vu8), (1, [(vi q.2.2.1)]), (1, [(.slice a2 n2 cap2)])]) h_3 rfl rfl (sC sV (sC (s8 hq) (sC sV (sC sV sN)))) rfl (fun b_4 w_5 h_6 => ?_)
 refine qA (.bool false) rfl rfl ?_
 refine WL.nil (thn_n (WP.seq (WP.reg ?_)))
 refine qV rfl (R.fieldAddr (off' := 0) rfl underlying39 rfl sizeOf35 rfl rfl) (qV rfl (R.load1 rfl isAgg35 (h_6.ok _ M1) Sg.h) (qV rfl (R.fieldAddr (off' := 0) rfl underlying39 rfl sizeOf35 rfl rfl) (qV rfl (R.load1 rfl isAgg35 (h_6.ok _ M0) Sg.h) (qV rfl (R.bin rfl rfl (bi_eql (r := decide ((p.1 : Int) = q.1)) rfl)) (qM (.bool (decide ((p.1 : Int) = q.1))) rfl rfl ?_)))))
 rcases Bool.eq_false_or_eq_true (decide ((p.1 : Int) = q.1)) with c_7 | c_7
 ·have p_8 := of_decide_eq_true c_7
  refine WL.want rfl (congrArg Value.bool c_7) ?_
  refine qV rfl (R.fieldAddr (off' := 1) rfl underlying39 rfl sizeOf29 rfl rfl) ?_
  refine WL.want rfl (congrArg Value.bool c_7) ?_
  refine qV rfl (R.loadA [(1, [(vi p.1)])] [(32, p.2.1.map vu8)] [(1, [(vi p.2.2.1)]), (1, [(.slice a n cap)])] (cs := p.2.1.map vu8) rfl isAgg29 sizeOf29 (h_6.ok _ M1) rfl rfl rfl rfl) ?_
  refine WL.want rfl (congrArg Value.bool c_7) ?_
  refine qV rfl (R.fieldAddr (off' := 1) rfl underlying39 rfl sizeOf29 rfl rfl) ?_
  refine WL.want rfl (congrArg Value.bool c_7) ?_
  refine qV rfl (R.loadA [(1, [(vi q.1)])] [(32, q.2.1.map vu8)] [(1, [(vi q.2.2.1)]), (1, [(.slice a2 n2 cap2)])] (cs := q.2.1.map vu8) rfl isAgg29 sizeOf29 (h_6.ok _ M0) rfl rfl rfl rfl) ?_
  refine WL.want rfl (congrArg Value.bool c_7) ?_
  refine qV rfl (R.eqA (xs := p.2.1.map vu8) (ys := q.2.1.map vu8) (r := decide (p.2.1 = q.2.1)) rfl rfl eqGuardType29 kt29 (by decide) ag29 (Typ.u8s underlying29 ce29 underlying5 ce5 hp) (Typ.u8s underlying29 ce29 underlying5 ce5 hq) (map_inj_u8.trans (decT _))) (qV rfl (R.pickT (v := (.bool (decide (p.2.1 = q.2.1)))) (congrArg Value.bool c_7) rfl) (qM (.bool (decide (p.2.1 = q.2.1))) rfl rfl ?_))
  rcases Bool.eq_false_or_eq_true (decide (p.2.1 = q.2.1)) with c_9 | c_9
  ·have p_10 := of_decide_eq_true c_9
   refine WL.want rfl (congrArg Value.bool c_9) ?_
   refine qV rfl (R.fieldAddr (off' := 33) rfl underlying39 rfl sizeOf36 rfl rfl) ?_
   refine WL.want rfl (congrArg Value.bool c_9) ?_
   refine qV rfl (R.load1 rfl isAgg36 (h_6.ok _ M1) (Sg.t rfl (Sg.t rfl Sg.h))) ?_
   refine WL.want rfl (congrArg Value.bool c_9) ?_
   refine qV rfl (R.fieldAddr (off' := 33) rfl underlying39 rfl sizeOf36 rfl rfl) ?_
   refine WL.want rfl (congrArg Value.bool c_9) ?_
   refine qV rfl (R.load1 rfl isAgg36 (h_6.ok _ M0) (Sg.t rfl (Sg.t rfl Sg.h))) ?_
   refine WL.want rfl (congrArg Value.bool c_9) ?_
   refine qV rfl (R.bin rfl rfl (bi_eql (r := decide ((p.2.2.1 : Int) = q.2.2.1)) rfl)) (qV rfl (R.pickT (v := (.bool (decide ((p.2.2.1 : Int) = q.2.2.1)))) (congrArg Value.bool c_9) rfl) (qM (.bool (decide ((p.2.2.1 : Int) = q.2.2.1))) rfl rfl ?_))
   rcases Bool.eq_false_or_eq_true (decide ((p.2.2.1 : Int) = q.2.2.1)) with c_11 | c_11
   ·have p_12 := of_decide_eq_true c_11
    refine WL.want rfl (congrArg Value.bool c_11) ?_
    refine qV rfl (R.fieldAddr (off' := 34) rfl underlying39 rfl sizeOf37 rfl rfl) ?_
    refine WL.want rfl (congrArg Value.bool c_11) ?_
    refine qV rfl (R.load1 rfl isAgg37 (h_6.ok _ M1) (Sg.t rfl (Sg.t rfl (Sg.t rfl Sg.h)))) ?_
    refine WL.want rfl (congrArg Value.bool c_11) ?_
    refine qV rfl (R.toStr (bs := p.2.2.2) rfl underlying37 underlying5 underlying9 (viewV (h_6.ok _ M3)) hl) ?_
    refine WL.want rfl (congrArg Value.bool c_11) ?_
    refine qV rfl (R.fieldAddr (off' := 34) rfl underlying39 rfl sizeOf37 rfl rfl) ?_
    refine WL.want rfl (congrArg Value.bool c_11) ?_
    refine qV rfl (R.load1 rfl isAgg37 (h_6.ok _ M0) (Sg.t rfl (Sg.t rfl (Sg.t rfl Sg.h)))) ?_
    refine WL.want rfl (congrArg Value.bool c_11) ?_
    refine qV rfl (R.toStr (bs := q.2.2.2) rfl underlying37 underlying5 underlying9 (viewV (h_6.ok _ M2)) hl2) ?_
    refine WL.want rfl (congrArg Value.bool c_11) ?_
    refine qV rfl (R.eqStr (a := p.2.2.2) (b := q.2.2.2) (r := decide (p.2.2.2 = q.2.2.2)) rfl rfl rfl) (qV rfl (R.pickT (v := (.bool (decide (p.2.2.2 = q.2.2.2)))) (congrArg Value.bool c_11) rfl) (qA (.bool (decide (p.2.2.2 = q.2.2.2))) rfl rfl ?_))
    refine WL.nil (thn_n (WP.ret ?_))
    refine ret_of results16 (RV.tmp (v := (.bool (decide (p.2.2.2 = q.2.2.2)))) rfl RV.nil) ?_
    exact ⟨congrArg Value.bool (by rw [same4]; simp [c_7, c_9, c_11]), h_6.chgS⟩
   ·have p_13 := of_decide_eq_false c_11
    refine WL.skip rfl (congrArg Value.bool c_11) rfl ?_
    refine WL.skip rfl (congrArg Value.bool c_11) rfl ?_
    refine WL.skip rfl (congrArg Value.bool c_11) rfl ?_
    refine WL.skip rfl (congrArg Value.bool c_11) rfl ?_
    refine WL.skip rfl (congrArg Value.bool c_11) rfl ?_
    refine WL.skip rfl (congrArg Value.bool c_11) rfl ?_
    refine WL.skip rfl (congrArg Value.bool c_11) rfl ?_
    refine qV rfl (R.pickF (v := (.bool false)) (congrArg Value.bool c_11) rfl) (qA (.bool false) rfl rfl ?_)
    refine WL.nil (thn_n (WP.ret ?_))
    refine ret_of results16 (RV.tmp (v := (.bool false)) rfl RV.nil) ?_
    exact ⟨congrArg Value.bool (by rw [same4]; simp [c_7, c_9, c_11]), h_6.chgS⟩
  ·have p_14 := of_decide_eq_false c_9
   refine WL.skip rfl (congrArg Value.bool c_9) rfl ?_
   refine WL.skip rfl (congrArg Value.bool c_9) rfl ?_
   refine WL.skip rfl (congrArg Value.bool c_9) rfl ?_
   refine WL.skip rfl (congrArg Value.bool c_9) rfl ?_
   refine WL.skip rfl (congrArg Value.bool c_9) rfl ?_
   refine qV rfl (R.pickF (v := (.bool false)) (congrArg Value.bool c_9) rfl) (qM (.bool false) rfl rfl ?_)
   refine WL.skip rfl rfl rfl ?_
   refine WL.skip rfl rfl rfl ?_
   refine WL.skip rfl rfl rfl ?_
   refine WL.skip rfl rfl rfl ?_
   refine WL.skip rfl rfl rfl ?_
   refine WL.skip rfl rfl rfl ?_
   refine WL.skip rfl rfl rfl ?_
   refine qV rfl (R.pickF (v := (.bool false)) rfl rfl) (qA (.bool false) rfl rfl ?_)
   refine WL.nil (thn_n (WP.ret ?_))
   refine ret_of results16 (RV.tmp (v := (.bool false)) rfl RV.nil) ?_
   exact ⟨congrArg Value.bool (by rw [same4]; simp [c_7, c_9]), h_6.chgS⟩
 ·have p_15 := of_decide_eq_false c_7
  refine WL.skip rfl (congrArg Value.bool c_7) rfl ?_
  refine WL.skip rfl (congrArg Value.bool c_7) rfl ?_
  refine WL.skip rfl (congrArg Value.bool c_7) rfl ?_
  refine WL.skip rfl (congrArg Value.bool c_7) rfl ?_
  refine WL.skip rfl (congrArg Value.bool c_7) rfl ?_
  refine qV rfl (R.pickF (v := (.bool false)) (congrArg Value.bool c_7) rfl) (qM (.bool false) rfl rfl ?_)
  refine WL.skip rfl rfl rfl ?_
  refine WL.skip rfl rfl rfl ?_
  refine WL.skip rfl rfl rfl ?_
  refine WL.skip rfl rfl rfl ?_
  refine WL.skip rfl rfl rfl ?_
  refine qV rfl (R.pickF (v := (.bool false)) rfl rfl) (qM (.bool false) rfl rfl ?_)
  refine WL.skip rfl rfl rfl ?_
  refine WL.skip rfl rfl rfl ?_
  refine WL.skip rfl rfl rfl ?_
  refine WL.skip rfl rfl rfl ?_
  refine WL.skip rfl rfl rfl ?_
  refine WL.skip rfl rfl rfl ?_
  refine WL.skip rfl rfl rfl ?_
  refine qV rfl (R.pickF (v := (.bool false)) rfl rfl) (qA (.bool false) rfl rfl ?_)
  refine WL.nil (thn_n (WP.ret ?_))
  refine ret_of results16 (RV.tmp (v := (.bool false)) rfl RV.nil) ?_
  exact ⟨congrArg Value.bool (by rw [same4]; simp [c_7]), h_6.chgS⟩
end Go.Proofs.YtajiipjmmoehcaaGreat

namespace Go.Proofs.YtajiipjmmoehcaaGreat
open Go.Proofs.Tryz
open Go.Vc Go.Orc Go.Sh Go.RowKit
set_option maxRecDepth 20000

theorem c_rAns {w00 : World} {L : List Ent} (id : Bool) (ob : Nat) (ms df : List UInt8) (hms : ms.length = 32) (da : Option Addr) (dn dc u : Nat) (hdf : df.length = 32 * dn) (la : Option Addr) (lc : Nat) (lx : List Value) (lg : Lg) (hu : u ≤ 1000000) (hlg : lg.length ≤ 1000000) (kd dm : Int) (key data : List UInt8) (qa : Option Addr) (qn qc : Nat) (hq : okQ (kd, key, dm, data)) (hdl : data.length = qn) (cd : List UInt8) (hcdl : cd.length = 32) (hcd : id = false → cd = cF (kd, key, dm, data)) (w : World) (h_0 : HP w00 w (Ent.blk ob .nw 33 [(1, [(.bool id)]), (32, ms.map vu8), (1, [(.slice da dn dc)]), (1, [(vi ((u : Nat) : Int))]), (1, [(.slice la lg.length lc)])] :: Ent.row la lg.length lc 47 67 lx :: Ent.pin (sblks lx) (fun w => Lgs w lx lg) :: Ent.view da (df.map vu8) :: Ent.view qa (data.map vu8) :: L)) :
  Cs Tryz.prog 43 [(.pointer (some ⟨ob, 0, none⟩)), (.agg ⟨flat [(1, [(vi kd)]), (32, key.map vu8), (1, [(vi dm)]), (1, [(.slice qa qn qc)])]⟩), (.agg ⟨cd.map vu8⟩)].toArray w (fun v w1 => ∃ la' lc' lx', v = (.agg ⟨(anD id df dn u lg (kd, key, dm, data)).map vu8⟩) ∧ HP w00 w1 (Ent.blk ob .nw 33 [(1, [(.bool id)]), (32, ms.map vu8), (1, [(.slice da dn dc)]), (1, [(vi (((anU id u lg (kd, key, dm, data)) : Nat) : Int))]), (1, [(.slice la' ((anL id df dn u lg (kd, key, dm, data)).length) lc')])] :: Ent.row la' ((anL id df dn u lg (kd, key, dm, data)).length) lc' 47 67 lx' :: Ent.pin (sblks lx') (fun w => Lgs w lx' (anL id df dn u lg (kd, key, dm, data))) :: Ent.view da (df.map vu8) :: Ent.view qa (data.map vu8) :: L)) := by
 have hlgs : Lgs w lx lg := (h_0.ok _ M2).1
 have hlo := hlgs.ok
 have hqn : data.length ≤ 1000000000 := hq.2.2.2
 refine Cs.of (n := 71) (args := [(pO ob 0), (.agg ⟨flat [(1, [(vi kd)]), (32, key.map vu8), (1, [(vi dm)]), (1, [(.slice qa qn qc)])]⟩), (.agg ⟨cd.map vu8⟩)]) Tryz.func43 rfl rfl rfl ?_
 refine WP.seq (WP.reg ?_)
 refine WL.box (segs := [(1, [(vi kd)]), (32, key.map vu8), (1, [(vi dm)]), (1, [(.slice qa qn qc)])]) h_0 rfl rfl (sC sV (sC (s8 hq.1) (sC sV (sC sV sN)))) rfl (fun b_1 w_2 h_3 => ?_)
 refine WL.box (segs := [(32, cd.map vu8)]) h_3 rfl rfl (sC (s8 hcdl) sN) rfl (fun b_4 w_5 h_6 => ?_)
 refine WL.alloc (segs := [(32, (zB 32).map vu8)]) h_6 (zv typeInfo29 rfl) rfl (sC (s8 lr) sN) rfl (fun b_7 w_8 h_9 => ?_)
 refine WL.nil (thn_n (WP.seq (WP.seq (WP.reg ?_))))
 refine qA (vi 0) rfl rfl ?_
 refine WL.nil (thn_n (WP.block ?_))
 refine WP.loopG (G := Nat) [7, 9, 10, 11, 12, 13, 14, 15, 16, 17, 18, 19, 20, 21, 22, 23, 24, 25, 26, 27, 28, 29, 30, 31, 32, 33, 34, 35] (fun k => [(7, (vn k))]) (fun k m w1 => HP w00 w1 (Ent.blk b_7 .nw 29 [(32, (zB 32).map vu8)] :: Ent.blk b_4 .nw 29 [(32, cd.map vu8)] :: Ent.blk b_1 .nw 39 [(1, [(vi kd)]), (32, key.map vu8), (1, [(vi dm)]), (1, [(.slice qa qn qc)])] :: Ent.blk ob .nw 33 [(1, [(.bool id)]), (32, ms.map vu8), (1, [(.slice da dn dc)]), (1, [(vn u)]), (1, [(.slice la lg.length lc)])] :: Ent.row la lg.length lc 47 67 lx :: Ent.pin (sblks lx) (fun w => Lgs w lx lg) :: Ent.view da (df.map vu8) :: Ent.view qa (data.map vu8) :: L) ∧ (k ≤ lg.length) ∧ (∀ j, j < k → (lg.getD j ((kd, key, dm, data), [])).1 ≠ (kd, key, dm, data)) ∧ m = lg.length + 1 - k) ⟨0, _, ⟨rfl, trivial⟩, h_9, Nat.zero_le _, (fun j hj => by omega), rfl⟩ ?_
 rintro k m_12 J_13 w_10 ⟨h_11, hk, hno, rfl⟩
 refine WP.seq (WP.seq (WP.reg ?_))
 refine qM (vn k) rfl rfl (qM (pO ob 0) rfl rfl (qV rfl (R.nilCheck rfl) (qV rfl (R.fieldAddr (off' := 35) rfl underlying33 rfl sizeOf31 rfl rfl) (qV rfl (R.load1 rfl isAgg31 (h_11.ok _ M3) (Sg.t rfl (Sg.t rfl (Sg.t rfl (Sg.t rfl Sg.h))))) (qV rfl (R.lenS (a := la) (m := lg.length) rfl rfl underlying31) (qV rfl (R.bin rfl rfl (bi_lss (r := decide ((((k : Nat) : Int) : Int) < ((lg.length : Nat) : Int))) rfl)) ?_))))))
 refine WL.nil (thn_n ?_)
 refine WP.cond (b := decide ((((k : Nat) : Int) : Int) < ((lg.length : Nat) : Int))) rfl (fun c_14 => ?_) (fun c_14 => ?_)
 ·have p_15 := of_decide_eq_true c_14
  refine WP.skip (thn_n (WP.seq (WP.block (WP.seq ?_))))
  have hkl : k < lg.length := by omega
  obtain ⟨ka, kn, kc, hkx, hkq, hkn, hkc, hkv, hkb⟩ := Lgs.qget (z := ((kd, key, dm, data), [])) (h_11.ok _ M5).1 hkl
  have h_16 := h_11.within (e' := .view ka ((lg.getD k ((kd, key, dm, data), [])).1.2.2.2.map vu8)) M5 rfl (View.arg hkv) rfl rfl (fun b hb_ => hkb _ (view_sblk hkn b hb_))
  refine WP.drawT (SL w00.heap.size [.view ka ((lg.getD k ((kd, key, dm, data), [])).1.2.2.2.map vu8), .blk b_7 .nw 29 [(32, (zB 32).map vu8)], .blk b_4 .nw 29 [(32, cd.map vu8)], .blk b_1 .nw 39 [(1, [(vi kd)]), (32, key.map vu8), (1, [(vi dm)]), (1, [(.slice qa qn qc)])], .blk ob .nw 33 [(1, [(.bool id)]), (32, ms.map vu8), (1, [(.slice da dn dc)]), (1, [(vn u)]), (1, [(.slice la lg.length lc)])], .row la lg.length lc 47 67 lx, .pin (sblks lx) (fun w => Lgs w lx lg), .view da (df.map vu8), .view qa (data.map vu8)]) (.q 0 (.q 1 (.q 2 (.q 3 (.q 4 (.q 5 (.q 6 (.q 7 (.q 8 (.s 9 .nil)))))))))) (by kernel_rfl) (by kernel_rfl) rfl (by kernel_rfl) (fun w_17 hc_19 => (SL.cons ((h_16.same hc_19).ok _ M0) (SL.cons ((h_16.same hc_19).ok _ M1) (SL.cons ((h_16.same hc_19).ok _ M2) (SL.cons ((h_16.same hc_19).ok _ M3) (SL.cons ((h_16.same hc_19).ok _ M4) (SL.cons ((h_16.same hc_19).ok _ M5) (SL.cons ((h_16.same hc_19).ok _ M6) (SL.cons ((h_16.same hc_19).ok _ M7) (SL.cons ((h_16.same hc_19).ok _ M8) (SL.nil _ _))))))))))) (fun w_17 hc_19 => ?_)
  have h_18 := h_16.same hc_19
  refine qT rfl rfl (fun wq hS => R.move (v := (pO ob 0)) rfl) ?_
  refine qT rfl rfl (fun wq hS => R.nilCheck rfl) ?_
  refine qT rfl rfl (fun wq hS => R.fieldAddr (off' := 35) rfl underlying33 rfl sizeOf31 rfl rfl) ?_
  refine qT rfl rfl (fun wq hS => R.load1 rfl isAgg31 (hS _ M4) (Sg.t rfl (Sg.t rfl (Sg.t rfl (Sg.t rfl Sg.h))))) ?_
  refine qT rfl rfl (fun wq hS => R.move (v := (vn k)) rfl) ?_
  refine qT rfl rfl (fun wq hS => R.indexS (a := la) (i := k) (off := k * 67) (xs := lx) rfl rfl rfl (by omega) (ownView (hS _ M5)) (by rw [Lgs.len hlgs]; omega) underlying31 sizeOf47 rfl) ?_
  refine qT rfl rfl (fun wq hS => R.fieldG (a := la) (i := k * 67) (off' := k * 67) rfl underlying47 rfl sizeOf39 rfl rfl) ?_
  refine qT rfl rfl (fun wq hS => R.loadGA (a := la) (i := k * 67) (xs := lx) (cs := flat [(1, [(vi (((lg.getD k ((kd, key, dm, data), [])).1).1))]), (32, (((lg.getD k ((kd, key, dm, data), [])).1).2.1).map vu8), (1, [(vi (((lg.getD k ((kd, key, dm, data), [])).1).2.2.1))]), (1, [(.slice ka kn kc)])]) rfl (ownView (hS _ M5)) isAgg39 sizeOf39 hkx ((sC sV (sC (s8 hkq.1) (sC sV (sC sV sN))))).len (by decide)) ?_
  refine qT rfl rfl (fun wq hS => R.loadA [] [(1, [(vi kd)]), (32, key.map vu8), (1, [(vi dm)]), (1, [(.slice qa qn qc)])] [] rfl isAgg39 sizeOf39 (hS _ M3) rfl rfl rfl rfl) ?_
  refine WT.s (oN rfl ?_)
  refine WL.call Tryz.call16 rfl rfl (c_rSame ((lg.getD k ((kd, key, dm, data), [])).1) (kd, key, dm, data) hkq.1 hq.1 ka kn kc hkn qa qn qc hdl _ (viewV (h_18.ok _ M0)) (viewV (h_18.ok _ M8))) rfl ?_
  rintro _ w_21 ⟨rfl, hc_20⟩
  have h_22 := h_18.same hc_20
  refine WL.nil ?_
  refine ⟨(N0_1_2_3_4_5_6_7_8 h_22.ok), ?_⟩
  refine WT.nil (thn_n ?_)
  refine WP.cond (b := decide ((lg.getD k ((kd, key, dm, data), [])).1 = (kd, key, dm, data))) rfl (fun c_23 => ?_) (fun c_23 => ?_)
  ·have p_24 := of_decide_eq_true c_23
   refine WP.seq ?_
   have hfd : fdq (kd, key, dm, data) lg 0 = some k := (fdq_at (s := 0) hkl hno p_24).trans (by rw [Nat.zero_add])
   refine WP.reg ?_
   refine qM (pO ob 0) rfl rfl (qV rfl (R.nilCheck rfl) (qV rfl (R.fieldAddr (off' := 35) rfl underlying33 rfl sizeOf31 rfl rfl) (qV rfl (R.load1 rfl isAgg31 (h_22.ok _ M4) (Sg.t rfl (Sg.t rfl (Sg.t rfl (Sg.t rfl Sg.h))))) (qM (vn k) rfl rfl (qV rfl (R.indexS (a := la) (i := k) (off := k * 67) (xs := lx) rfl rfl rfl (by omega) (ownView (h_22.ok _ M5)) (by rw [Lgs.len hlgs]; omega) underlying31 sizeOf47 rfl) (qV rfl (R.fieldG (a := la) (i := k * 67) (off' := k * 67 + 35) rfl underlying47 rfl sizeOf29 rfl rfl) (qV rfl (R.loadGA (a := la) (i := k * 67 + 35) (xs := lx) (cs := ((lg.getD k ((kd, key, dm, data), [])).2).map vu8) rfl (ownView (h_22.ok _ M5)) isAgg29 sizeOf29 (Lgs.ans (z := ((kd, key, dm, data), [])) hlgs (i := k) hkl).1 (len_map (Lgs.ans (z := ((kd, key, dm, data), [])) hlgs (i := k) hkl).2) (by decide)) ?_)))))))
   refine WL.storeA [] [(32, (zB 32).map vu8)] [(32, ((lg.getD k ((kd, key, dm, data), [])).2).map vu8)] [] h_22 rfl rfl sizeOf29 Y1 (by decide) rfl rfl rfl rfl rfl rfl (sC (s8 ((Lgs.ans (z := ((kd, key, dm, data), [])) hlgs (i := k) hkl).2)) sN) (fun w_25 h_26 => ?_)
   refine WL.nil (thn_n (WP.ret (inb_r (thn_r (thn_r (inb_r (thn_r ?_)))))))
   refine ret_of results43 (RV.cell rfl (h_26.loadA (cs := ((lg.getD k ((kd, key, dm, data), [])).2).map vu8) isAgg29 sizeOf29 M1 rfl rfl) RV.nil) ?_
   have h_35 := ((((((((h_26.drop rfl).drop rfl).drop rfl).drop rfl).up J4).up J4).up J4).up J4).up J4
   exact ⟨la, lc, lx, by rw [anD_hit hfd]; rfl, by rw [anU_hit hfd, anL_hit hfd]; exact h_35⟩
  ·have p_36 := of_decide_eq_false c_23
   refine WP.skip (inb_n (thn_n (WP.reg ?_)))
   refine qM (vn k) rfl rfl (qV rfl (R.bin rfl rfl (bi_add (c := ((k + 1 : Nat) : Int)) (by omega) (by omega))) (qA (vn (k + 1)) rfl rfl ?_))
   refine WL.nil (thn_n ?_)
   have h_45 := ((((((((h_22.drop rfl).up J7).up J7).up J7).up J7).up J7).up J7).up J7).up J7
   exact ⟨k + 1, _, (by omega), (U4 rfl rfl rfl rfl (U4 rfl rfl rfl rfl (U4 rfl rfl rfl rfl (U4 rfl rfl rfl rfl (U4 rfl rfl rfl rfl (Ag.updL rfl (Ag.mix _ _ _))))))), ⟨rfl, trivial⟩, h_45, (by omega), (fun j hj => (Nat.lt_or_eq_of_le (Nat.le_of_lt_succ hj)).elim (fun e => hno j e) (fun e => by rw [e]; exact p_36)), rfl⟩
 ·have p_46 := of_decide_eq_false c_14
  refine WP.exit (thn_x (thn_x (inb_hit (thn_n (WP.seq ?_)))))
  have hfd : fdq (kd, key, dm, data) lg 0 = none := fdq_no (z := ((kd, key, dm, data), [])) (fun j hj => hno j (by omega))
  refine WP.reg ?_
  refine qV rfl (R.loadA [] [(32, cd.map vu8)] [] (cs := cd.map vu8) rfl isAgg29 sizeOf29 (h_11.ok _ M1) rfl rfl rfl rfl) ?_
  refine WL.alloc (segs := [(32, (zB 32).map vu8)]) h_11 (zv typeInfo29 rfl) rfl (sC (s8 lr) sN) rfl (fun b_47 w_48 h_49 => ?_)
  refine WL.storeA [] [(32, (zB 32).map vu8)] [(32, cd.map vu8)] [] h_49 rfl rfl sizeOf29 At.h (by decide) rfl rfl rfl rfl rfl rfl (sC (s8 hcdl) sN) (fun w_50 h_51 => ?_)
  refine WL.nil (thn_n (WP.seq (WP.seq (WP.reg ?_))))
  refine qM (pO ob 0) rfl rfl (qV rfl (R.nilCheck rfl) (qV rfl (R.fieldAddr (off' := 0) rfl underlying33 rfl sizeOf4 rfl rfl) (qV rfl (R.load1 rfl isAgg4 (h_51.ok _ M4) Sg.h) ?_)))
  refine WL.nil (thn_n ?_)
  refine WP.cond (b := id) rfl (fun c_52 => ?_) (fun c_52 => ?_)
  ·refine WP.seq (WP.reg ?_)
   refine qM (pO ob 0) rfl rfl (qM (pO ob 0) rfl rfl (qV rfl (R.nilCheck rfl) (qV rfl (R.fieldAddr (off' := 34) rfl underlying33 rfl sizeOf3 rfl rfl) (qV rfl (R.load1 rfl isAgg3 (h_51.ok _ M4) (Sg.t rfl (Sg.t rfl (Sg.t rfl Sg.h)))) ?_))))
   refine WL.call Tryz.call34 rfl rfl (c_rDraw id ob ms df hms da dn dc u u hdf la lg.length lc (by omega) _ (viewV (h_51.ok _ M7)) (h_51.argR M4)) rfl ?_
   rintro _ w_54 ⟨rfl, hc_53⟩
   have h_55 := h_51.same hc_53
   refine WL.storeA [] [(32, cd.map vu8)] [(32, (drawF df dn u).map vu8)] [] h_55 rfl rfl sizeOf29 At.h (by decide) rfl rfl rfl rfl rfl rfl (sC (s8 (drawF_len hdf)) sN) (fun w_56 h_57 => ?_)
   refine WL.nil (thn_n (WP.reg ?_))
   refine qM (pO ob 0) rfl rfl (qV rfl (R.nilCheck rfl) (qV rfl (R.fieldAddr (off' := 34) rfl underlying33 rfl sizeOf3 rfl rfl) (qV rfl (R.load1 rfl isAgg3 (h_57.ok _ M4) (Sg.t rfl (Sg.t rfl (Sg.t rfl Sg.h)))) (qV rfl (R.bin rfl rfl (bi_add (c := ((u + 1 : Nat) : Int)) (by omega) (by omega))) (qV rfl (R.nilCheck rfl) (qV rfl (R.fieldAddr (off' := 34) rfl underlying33 rfl sizeOf3 rfl rfl) ?_))))))
   refine WL.store1 h_57 rfl rfl sizeOf3 rfl Y4 (by decide) (Sg.t rfl (Sg.t rfl (Sg.t rfl Sg.h))) (fun w_58 h_59 => ?_)
   refine WL.nil (thn_n (WP.seq (WP.reg ?_)))
   refine qV rfl (R.fieldAddr (off' := 34) rfl underlying39 rfl sizeOf37 rfl rfl) (qV rfl (R.load1 rfl isAgg37 (h_59.ok _ M3) (Sg.t rfl (Sg.t rfl (Sg.t rfl Sg.h)))) ?_)
   have h_60 := h_59.rowNil 5 1
   refine WL.append (km := qn) (xs := []) (ys := data.map vu8) (zs := (([] : List UInt8) ++ data).map vu8) h_60 rfl rfl el37 (viewV (h_60.ok _ M9)) ((len_map hdl).trans (Nat.mul_one _).symm) (one_u8 _) (by simp only [List.map_append, List.map_nil]) (by omega) (by omega) (by omega) (fun _ _ => At.h) rfl (fun a_61 c_62 w_63 h_64 => ?_)
   refine qV rfl (R.fieldAddr (off' := 34) rfl underlying39 rfl sizeOf37 rfl rfl) ?_
   refine WL.store1 h_64 rfl rfl sizeOf37 rfl Y4 (by decide) (Sg.t rfl (Sg.t rfl (Sg.t rfl Sg.h))) (fun w_65 h_66 => ?_)
   refine WL.nil (thn_n (WP.seq ?_))
   refine WP.cutG (G := Nat × Option Addr × Nat) [58, 59, 60, 61, 62, 63, 64, 65, 66, 67, 68, 69] (fun (bY11Y8Y0Y0, aY11Y9Y0Y0, cY11Y9Y0Y0) => [(58, (pO ob 0)), (59, (pO ob 0)), (60, (pO ob 0)), (61, (pO ob 35)), (63, (.agg ⟨flat [(1, [(vi kd)]), (32, key.map vu8), (1, [(vi dm)]), (1, [(.slice a_61 qn c_62)])]⟩)), (64, (.agg ⟨(drawF df dn u).map vu8⟩)), (65, (.agg ⟨flat [(1, [(vi kd)]), (32, key.map vu8), (1, [(vi dm)]), (1, [(.slice a_61 qn c_62)]), (32, (drawF df dn u).map vu8)]⟩)), (62, (.slice la lg.length lc)), (66, (.slice (some ⟨bY11Y8Y0Y0, 0, none⟩) 1 1)), (67, (.slice aY11Y9Y0Y0 (lg.length + 1) cY11Y9Y0Y0)), (68, (pO ob 0)), (69, (pO ob 35))]) (fun (bY11Y8Y0Y0, aY11Y9Y0Y0, cY11Y9Y0Y0) w1 => HP w00 w1 (Ent.blk bY11Y8Y0Y0 .nw 47 [(67, aC (kd, key, dm, data) (.slice a_61 qn c_62) (drawF df dn u))] :: Ent.row a_61 qn c_62 5 1 ((([] : List UInt8) ++ data).map vu8) :: Ent.blk b_47 .nw 29 [(32, (drawF df dn u).map vu8)] :: Ent.blk b_7 .nw 29 [(32, (zB 32).map vu8)] :: Ent.blk b_4 .nw 29 [(32, cd.map vu8)] :: Ent.blk b_1 .nw 39 [(1, [(vi kd)]), (32, key.map vu8), (1, [(vi dm)]), (1, [(.slice a_61 qn c_62)])] :: Ent.blk ob .nw 33 [(1, [(.bool id)]), (32, ms.map vu8), (1, [(.slice da dn dc)]), (1, [(vn (u + 1))]), (1, [(.slice aY11Y9Y0Y0 (lg.length + 1) cY11Y9Y0Y0)])] :: Ent.row aY11Y9Y0Y0 (lg.length + 1) cY11Y9Y0Y0 47 67 (lx ++ aC (kd, key, dm, data) (.slice a_61 qn c_62) (drawF df dn u)) :: Ent.pin (sblks lx) (fun w => Lgs w lx lg) :: Ent.view da (df.map vu8) :: Ent.view qa (data.map vu8) :: L)) ?_ ?_
   ·refine WP.drawT (SL w00.heap.size [.row a_61 qn c_62 5 1 ((([] : List UInt8) ++ data).map vu8), .blk b_47 .nw 29 [(32, (drawF df dn u).map vu8)], .blk b_7 .nw 29 [(32, (zB 32).map vu8)], .blk b_4 .nw 29 [(32, cd.map vu8)], .blk b_1 .nw 39 [(1, [(vi kd)]), (32, key.map vu8), (1, [(vi dm)]), (1, [(.slice a_61 qn c_62)])], .pin (sblks lx) (fun w => Lgs w lx lg), .view da (df.map vu8), .view qa (data.map vu8)]) (.q 0 (.q 1 (.q 2 (.q 3 (.q 5 (.q 6 (.q 7 (.s2 4 8 (.s 8 (.s 9 (.q 10 (.q 11 (.s 12 .nil))))) (.s 4 (.s 9 (.q 10 (.q 11 (.s 12 .nil))))))))))))) (by kernel_rfl) (by kernel_rfl) rfl (by kernel_rfl) (fun w_67 hc_69 => (SL.cons ((h_66.same hc_69).ok _ M0) (SL.cons ((h_66.same hc_69).ok _ M1) (SL.cons ((h_66.same hc_69).ok _ M2) (SL.cons ((h_66.same hc_69).ok _ M3) (SL.cons ((h_66.same hc_69).ok _ M4) (SL.cons ((h_66.same hc_69).ok _ M7) (SL.cons ((h_66.same hc_69).ok _ M8) (SL.cons ((h_66.same hc_69).ok _ M9) (SL.nil _ _)))))))))) (fun w_67 hc_69 => ?_)
    have h_68 := h_66.same hc_69
    refine qT rfl rfl (fun wq hS => R.move (v := (pO ob 0)) rfl) ?_
    refine qT rfl rfl (fun wq hS => R.move (v := (pO ob 0)) rfl) ?_
    refine qT rfl rfl (fun wq hS => R.nilCheck rfl) ?_
    refine qT rfl rfl (fun wq hS => R.fieldAddr (off' := 35) rfl underlying33 rfl sizeOf31 rfl rfl) ?_
    refine qT rfl rfl (fun wq hS => R.loadA [] [(1, [(vi kd)]), (32, key.map vu8), (1, [(vi dm)]), (1, [(.slice a_61 qn c_62)])] [] rfl isAgg39 sizeOf39 (hS _ M4) rfl rfl rfl rfl) ?_
    refine qT rfl rfl (fun wq hS => R.loadA [] [(32, (drawF df dn u).map vu8)] [] (cs := (drawF df dn u).map vu8) rfl isAgg29 sizeOf29 (hS _ M1) rfl rfl rfl rfl) ?_
    refine qT rfl rfl (fun wq hS => R.buildS (pl := [(0, 35), (35, 32)]) (zs := [(1, [(vi 0)]), (32, (zB 32).map vu8), (1, [(vi 0)]), (1, [(.slice none 0 0)]), (32, (zB 32).map vu8)]) (vs := [(0, (.agg ⟨flat [(1, [(vi kd)]), (32, key.map vu8), (1, [(vi dm)]), (1, [(.slice a_61 qn c_62)])]⟩)), (1, (.agg ⟨(drawF df dn u).map vu8⟩))]) (out := [(1, [(vi kd)]), (32, key.map vu8), (1, [(vi dm)]), (1, [(.slice a_61 qn c_62)]), (32, (drawF df dn u).map vu8)]) underlying47 (zv typeInfo47 rfl) rfl (sC sV (sC (s8 lr) (sC sV (sC sV (sC (s8 lr) sN))))) (pl47 _ underlying47) rfl (FillR.cons [] [(1, [(vi 0)]), (32, (zB 32).map vu8), (1, [(vi 0)]), (1, [(.slice none 0 0)])] [(1, [(vi kd)]), (32, key.map vu8), (1, [(vi dm)]), (1, [(.slice a_61 qn c_62)])] [(32, (zB 32).map vu8)] rfl rfl rfl rfl (sC sV (sC (s8 hq.1) (sC sV (sC sV sN)))) rfl rfl rfl (FillR.cons [(1, [(vi kd)]), (32, key.map vu8), (1, [(vi dm)]), (1, [(.slice a_61 qn c_62)])] [(32, (zB 32).map vu8)] [(32, (drawF df dn u).map vu8)] [] rfl rfl rfl rfl (sC (s8 (drawF_len hdf)) sN) rfl rfl rfl FillR.nil)) rfl) ?_
    refine WT.s2 ?_ ?_
    ·refine oN rfl ?_
     refine qV rfl (R.load1 rfl isAgg31 (h_68.ok _ M5) (Sg.t rfl (Sg.t rfl (Sg.t rfl (Sg.t rfl Sg.h))))) ?_
     refine WL.nil ?_
     refine ⟨(N0_1_2_3_4_7_8_9 h_68.ok), ?_⟩
     refine WT.s (oN rfl ?_)
     refine WL.buildSl (vs := [(0, (.agg ⟨flat [(1, [(vi kd)]), (32, key.map vu8), (1, [(vi dm)]), (1, [(.slice a_61 qn c_62)]), (32, (drawF df dn u).map vu8)]⟩))]) (cs := aC (kd, key, dm, data) (.slice a_61 qn c_62) (drawF df dn u)) h_68 underlying31 sizeOf47 (zv typeInfo47 rfl) rfl rfl (fill_1 (zc := flat [(1, [vi 0]), (32, List.replicate 32 (vu8 0)), (1, [vi 0]), (1, [.slice none 0 0]), (32, List.replicate 32 (vu8 0))]) (by kernel_rfl) (sC (s := (67, flat [(1, [vi 0]), (32, List.replicate 32 (vu8 0)), (1, [vi 0]), (1, [.slice none 0 0]), (32, List.replicate 32 (vu8 0))])) ⟨by decide, SsOk.one (sC sV (sC (SOk.rep rfl) (sC sV (sC sV (sC (SOk.rep rfl) sN)))))⟩ sN) (aC_ok (q := (kd, key, dm, data)) (s := (.slice a_61 qn c_62)) (d := drawF df dn u) hq.1 (drawF_len hdf) rfl)) ((aC_ok (q := (kd, key, dm, data)) (s := (.slice a_61 qn c_62)) (d := drawF df dn u) hq.1 (drawF_len hdf) rfl)).head.len ((aC_ok (q := (kd, key, dm, data)) (s := (.slice a_61 qn c_62)) (d := drawF df dn u) hq.1 (drawF_len hdf) rfl)).head.one rfl rfl (fun b_71 w_72 h_73 => ?_)
     refine WL.nil ?_
     refine ⟨(N1_2_3_4_5_8_9_10 h_73.ok), ?_⟩
     refine WT.s (oN rfl ?_)
     refine WL.append (km := lg.length + 1) (xs := lx) (ys := aC (kd, key, dm, data) (.slice a_61 qn c_62) (drawF df dn u)) (zs := lx ++ aC (kd, key, dm, data) (.slice a_61 qn c_62) (drawF df dn u)) h_73 rfl rfl el31 (viewB (h_73.ok _ M0) Sg.h) ((aC_ok (q := (kd, key, dm, data)) (s := (.slice a_61 qn c_62)) (d := drawF df dn u) hq.1 (drawF_len hdf) rfl)).head.len ((aC_ok (q := (kd, key, dm, data)) (s := (.slice a_61 qn c_62)) (d := drawF df dn u) hq.1 (drawF_len hdf) rfl)).head.one rfl (by omega) (by omega) (by omega) (fun _ _ => Y7) rfl (fun a_74 c_75 w_76 h_77 => ?_)
     refine WL.nil ?_
     refine ⟨(N1_2_3_4_5_8_9_10 h_77.ok), ?_⟩
     refine qT rfl rfl (fun wq hS => R.nilCheck rfl) ?_
     refine qT rfl rfl (fun wq hS => R.fieldAddr (off' := 35) rfl underlying33 rfl sizeOf31 rfl rfl) ?_
     refine WT.s (oN rfl ?_)
     refine WL.store1 h_77 rfl rfl sizeOf31 rfl Y6 (by decide) (Sg.t rfl (Sg.t rfl (Sg.t rfl (Sg.t rfl Sg.h)))) (fun w_78 h_79 => ?_)
     refine WL.nil ?_
     refine ⟨(N1_2_3_4_5_8_9_10 h_79.ok), ?_⟩
     refine WT.nil (thn_n ?_)
     exact ⟨(b_71, a_74, c_75), (U4 rfl rfl rfl rfl (U4 rfl rfl rfl rfl (U4 rfl rfl rfl rfl (Ag.refl _ _)))), ⟨rfl, rfl, rfl, rfl, rfl, rfl, rfl, rfl, rfl, rfl, rfl, rfl, trivial⟩, h_79⟩
    ·refine oN rfl ?_
     refine WL.buildSl (vs := [(0, (.agg ⟨flat [(1, [(vi kd)]), (32, key.map vu8), (1, [(vi dm)]), (1, [(.slice a_61 qn c_62)]), (32, (drawF df dn u).map vu8)]⟩))]) (cs := aC (kd, key, dm, data) (.slice a_61 qn c_62) (drawF df dn u)) h_68 underlying31 sizeOf47 (zv typeInfo47 rfl) rfl rfl (fill_1 (zc := flat [(1, [vi 0]), (32, List.replicate 32 (vu8 0)), (1, [vi 0]), (1, [.slice none 0 0]), (32, List.replicate 32 (vu8 0))]) (by kernel_rfl) (sC (s := (67, flat [(1, [vi 0]), (32, List.replicate 32 (vu8 0)), (1, [vi 0]), (1, [.slice none 0 0]), (32, List.replicate 32 (vu8 0))])) ⟨by decide, SsOk.one (sC sV (sC (SOk.rep rfl) (sC sV (sC sV (sC (SOk.rep rfl) sN)))))⟩ sN) (aC_ok (q := (kd, key, dm, data)) (s := (.slice a_61 qn c_62)) (d := drawF df dn u) hq.1 (drawF_len hdf) rfl)) ((aC_ok (q := (kd, key, dm, data)) (s := (.slice a_61 qn c_62)) (d := drawF df dn u) hq.1 (drawF_len hdf) rfl)).head.len ((aC_ok (q := (kd, key, dm, data)) (s := (.slice a_61 qn c_62)) (d := drawF df dn u) hq.1 (drawF_len hdf) rfl)).head.one rfl rfl (fun b_80 w_81 h_82 => ?_)
     refine WL.nil ?_
     refine ⟨(N1_2_3_4_5_8_9_10 h_82.ok), ?_⟩
     refine WT.s (oN rfl ?_)
     refine qV rfl (R.load1 rfl isAgg31 (h_82.ok _ M6) (Sg.t rfl (Sg.t rfl (Sg.t rfl (Sg.t rfl Sg.h))))) ?_
     refine WL.nil ?_
     refine ⟨(N1_2_3_4_5_8_9_10 h_82.ok), ?_⟩
     refine WT.s (oN rfl ?_)
     refine WL.append (km := lg.length + 1) (xs := lx) (ys := aC (kd, key, dm, data) (.slice a_61 qn c_62) (drawF df dn u)) (zs := lx ++ aC (kd, key, dm, data) (.slice a_61 qn c_62) (drawF df dn u)) h_82 rfl rfl el31 (viewB (h_82.ok _ M0) Sg.h) ((aC_ok (q := (kd, key, dm, data)) (s := (.slice a_61 qn c_62)) (d := drawF df dn u) hq.1 (drawF_len hdf) rfl)).head.len ((aC_ok (q := (kd, key, dm, data)) (s := (.slice a_61 qn c_62)) (d := drawF df dn u) hq.1 (drawF_len hdf) rfl)).head.one rfl (by omega) (by omega) (by omega) (fun _ _ => Y7) rfl (fun a_83 c_84 w_85 h_86 => ?_)
     refine WL.nil ?_
     refine ⟨(N1_2_3_4_5_8_9_10 h_86.ok), ?_⟩
     refine qT rfl rfl (fun wq hS => R.nilCheck rfl) ?_
     refine qT rfl rfl (fun wq hS => R.fieldAddr (off' := 35) rfl underlying33 rfl sizeOf31 rfl rfl) ?_
     refine WT.s (oN rfl ?_)
     refine WL.store1 h_86 rfl rfl sizeOf31 rfl Y6 (by decide) (Sg.t rfl (Sg.t rfl (Sg.t rfl (Sg.t rfl Sg.h)))) (fun w_87 h_88 => ?_)
     refine WL.nil ?_
     refine ⟨(N1_2_3_4_5_8_9_10 h_88.ok), ?_⟩
     refine WT.nil (thn_n ?_)
     exact ⟨(b_80, a_83, c_84), (U4 rfl rfl rfl rfl (U4 rfl rfl rfl rfl (U4 rfl rfl rfl rfl (Ag.refl _ _)))), ⟨rfl, rfl, rfl, rfl, rfl, rfl, rfl, rfl, rfl, rfl, rfl, rfl, trivial⟩, h_88⟩
   ·rintro ⟨b_92, a_93, c_94⟩ J_89 w_90 h_91
    refine thn_n (WP.seq (WP.reg ?_))
    refine qV rfl (R.loadA [] [(32, (drawF df dn u).map vu8)] [] (cs := (drawF df dn u).map vu8) rfl isAgg29 sizeOf29 (h_91.ok _ M2) rfl rfl rfl rfl) ?_
    refine WL.storeA [] [(32, (zB 32).map vu8)] [(32, (drawF df dn u).map vu8)] [] h_91 rfl rfl sizeOf29 Y3 (by decide) rfl rfl rfl rfl rfl rfl (sC (s8 (drawF_len hdf)) sN) (fun w_95 h_96 => ?_)
    refine WL.nil (thn_n (WP.ret ?_))
    refine ret_of results43 (RV.cell rfl (h_96.loadA (cs := (drawF df dn u).map vu8) isAgg29 sizeOf29 M3 rfl rfl) RV.nil) ?_
    have h_111 := ((((((((((((((h_96.drop rfl).up J1).drop rfl).up J1).drop rfl).up J1).drop rfl).up J1).drop rfl).up J5).up J5).up J4).up J4).up J5).up J5
    have h_112 := HP_logPush (q := (kd, key, dm, data)) (d := drawF df dn u) h_111 hq (drawF_len hdf) (lenApp (a := 0) (b := qn) (rfl : List.length ([] : List UInt8) = 0) hdl (by omega) : List.length (([] : List UInt8) ++ data) = qn)
    have h_122 := ((((((((h_112.up J1).drop rfl).up J1).drop rfl).up J4).up J4).up J2).up J4).up J4
    have hmf : mF id df dn u (kd, key, dm, data) = drawF df dn u := by rw [mF, c_52]; rfl
    have hu2 : (bif id then u + 1 else u) = u + 1 := by rw [c_52]; rfl
    have hse : lg.length + 1 = (lg ++ [((kd, key, dm, data), drawF df dn u)]).length := snoc_len.symm
    have h_113 := h_122
    rw [hse] at h_113
    exact ⟨_, _, _, by rw [anD_miss hfd, hmf]; rfl, by rw [anU_miss hfd, anL_miss hfd, hmf, hu2]; exact h_113⟩
  ·refine WP.skip (thn_n (WP.seq (WP.reg ?_)))
   refine qV rfl (R.fieldAddr (off' := 34) rfl underlying39 rfl sizeOf37 rfl rfl) (qV rfl (R.load1 rfl isAgg37 (h_51.ok _ M3) (Sg.t rfl (Sg.t rfl (Sg.t rfl Sg.h)))) ?_)
   have h_123 := h_51.rowNil 5 1
   refine WL.append (km := qn) (xs := []) (ys := data.map vu8) (zs := (([] : List UInt8) ++ data).map vu8) h_123 rfl rfl el37 (viewV (h_123.ok _ M9)) ((len_map hdl).trans (Nat.mul_one _).symm) (one_u8 _) (by simp only [List.map_append, List.map_nil]) (by omega) (by omega) (by omega) (fun _ _ => At.h) rfl (fun a_124 c_125 w_126 h_127 => ?_)
   refine qV rfl (R.fieldAddr (off' := 34) rfl underlying39 rfl sizeOf37 rfl rfl) ?_
   refine WL.store1 h_127 rfl rfl sizeOf37 rfl Y4 (by decide) (Sg.t rfl (Sg.t rfl (Sg.t rfl Sg.h))) (fun w_128 h_129 => ?_)
   refine WL.nil (thn_n (WP.seq ?_))
   refine WP.cutG (G := Nat × Option Addr × Nat) [58, 59, 60, 61, 62, 63, 64, 65, 66, 67, 68, 69] (fun (bY11Y8Y0Y0, aY11Y9Y0Y0, cY11Y9Y0Y0) => [(58, (pO ob 0)), (59, (pO ob 0)), (60, (pO ob 0)), (61, (pO ob 35)), (63, (.agg ⟨flat [(1, [(vi kd)]), (32, key.map vu8), (1, [(vi dm)]), (1, [(.slice a_124 qn c_125)])]⟩)), (64, (.agg ⟨cd.map vu8⟩)), (65, (.agg ⟨flat [(1, [(vi kd)]), (32, key.map vu8), (1, [(vi dm)]), (1, [(.slice a_124 qn c_125)]), (32, cd.map vu8)]⟩)), (62, (.slice la lg.length lc)), (66, (.slice (some ⟨bY11Y8Y0Y0, 0, none⟩) 1 1)), (67, (.slice aY11Y9Y0Y0 (lg.length + 1) cY11Y9Y0Y0)), (68, (pO ob 0)), (69, (pO ob 35))]) (fun (bY11Y8Y0Y0, aY11Y9Y0Y0, cY11Y9Y0Y0) w1 => HP w00 w1 (Ent.blk bY11Y8Y0Y0 .nw 47 [(67, aC (kd, key, dm, data) (.slice a_124 qn c_125) cd)] :: Ent.row a_124 qn c_125 5 1 ((([] : List UInt8) ++ data).map vu8) :: Ent.blk b_47 .nw 29 [(32, cd.map vu8)] :: Ent.blk b_7 .nw 29 [(32, (zB 32).map vu8)] :: Ent.blk b_4 .nw 29 [(32, cd.map vu8)] :: Ent.blk b_1 .nw 39 [(1, [(vi kd)]), (32, key.map vu8), (1, [(vi dm)]), (1, [(.slice a_124 qn c_125)])] :: Ent.blk ob .nw 33 [(1, [(.bool id)]), (32, ms.map vu8), (1, [(.slice da dn dc)]), (1, [(vn u)]), (1, [(.slice aY11Y9Y0Y0 (lg.length + 1) cY11Y9Y0Y0)])] :: Ent.row aY11Y9Y0Y0 (lg.length + 1) cY11Y9Y0Y0 47 67 (lx ++ aC (kd, key, dm, data) (.slice a_124 qn c_125) cd) :: Ent.pin (sblks lx) (fun w => Lgs w lx lg) :: Ent.view da (df.map vu8) :: Ent.view qa (data.map vu8) :: L)) ?_ ?_
   ·refine WP.drawT (SL w00.heap.size [.row a_124 qn c_125 5 1 ((([] : List UInt8) ++ data).map vu8), .blk b_47 .nw 29 [(32, cd.map vu8)], .blk b_7 .nw 29 [(32, (zB 32).map vu8)], .blk b_4 .nw 29 [(32, cd.map vu8)], .blk b_1 .nw 39 [(1, [(vi kd)]), (32, key.map vu8), (1, [(vi dm)]), (1, [(.slice a_124 qn c_125)])], .pin (sblks lx) (fun w => Lgs w lx lg), .view da (df.map vu8), .view qa (data.map vu8)]) (.q 0 (.q 1 (.q 2 (.q 3 (.q 5 (.q 6 (.q 7 (.s2 4 8 (.s 8 (.s 9 (.q 10 (.q 11 (.s 12 .nil))))) (.s 4 (.s 9 (.q 10 (.q 11 (.s 12 .nil))))))))))))) (by kernel_rfl) (by kernel_rfl) rfl (by kernel_rfl) (fun w_130 hc_132 => (SL.cons ((h_129.same hc_132).ok _ M0) (SL.cons ((h_129.same hc_132).ok _ M1) (SL.cons ((h_129.same hc_132).ok _ M2) (SL.cons ((h_129.same hc_132).ok _ M3) (SL.cons ((h_129.same hc_132).ok _ M4) (SL.cons ((h_129.same hc_132).ok _ M7) (SL.cons ((h_129.same hc_132).ok _ M8) (SL.cons ((h_129.same hc_132).ok _ M9) (SL.nil _ _)))))))))) (fun w_130 hc_132 => ?_)
    have h_131 := h_129.same hc_132
    refine qT rfl rfl (fun wq hS => R.move (v := (pO ob 0)) rfl) ?_
    refine qT rfl rfl (fun wq hS => R.move (v := (pO ob 0)) rfl) ?_
    refine qT rfl rfl (fun wq hS => R.nilCheck rfl) ?_
    refine qT rfl rfl (fun wq hS => R.fieldAddr (off' := 35) rfl underlying33 rfl sizeOf31 rfl rfl) ?_
    refine qT rfl rfl (fun wq hS => R.loadA [] [(1, [(vi kd)]), (32, key.map vu8), (1, [(vi dm)]), (1, [(.slice a_124 qn c_125)])] [] rfl isAgg39 sizeOf39 (hS _ M4) rfl rfl rfl rfl) ?_
    refine qT rfl rfl (fun wq hS => R.loadA [] [(32, cd.map vu8)] [] (cs := cd.map vu8) rfl isAgg29 sizeOf29 (hS _ M1) rfl rfl rfl rfl) ?_
    refine qT rfl rfl (fun wq hS => R.buildS (pl := [(0, 35), (35, 32)]) (zs := [(1, [(vi 0)]), (32, (zB 32).map vu8), (1, [(vi 0)]), (1, [(.slice none 0 0)]), (32, (zB 32).map vu8)]) (vs := [(0, (.agg ⟨flat [(1, [(vi kd)]), (32, key.map vu8), (1, [(vi dm)]), (1, [(.slice a_124 qn c_125)])]⟩)), (1, (.agg ⟨cd.map vu8⟩))]) (out := [(1, [(vi kd)]), (32, key.map vu8), (1, [(vi dm)]), (1, [(.slice a_124 qn c_125)]), (32, cd.map vu8)]) underlying47 (zv typeInfo47 rfl) rfl (sC sV (sC (s8 lr) (sC sV (sC sV (sC (s8 lr) sN))))) (pl47 _ underlying47) rfl (FillR.cons [] [(1, [(vi 0)]), (32, (zB 32).map vu8), (1, [(vi 0)]), (1, [(.slice none 0 0)])] [(1, [(vi kd)]), (32, key.map vu8), (1, [(vi dm)]), (1, [(.slice a_124 qn c_125)])] [(32, (zB 32).map vu8)] rfl rfl rfl rfl (sC sV (sC (s8 hq.1) (sC sV (sC sV sN)))) rfl rfl rfl (FillR.cons [(1, [(vi kd)]), (32, key.map vu8), (1, [(vi dm)]), (1, [(.slice a_124 qn c_125)])] [(32, (zB 32).map vu8)] [(32, cd.map vu8)] [] rfl rfl rfl rfl (sC (s8 hcdl) sN) rfl rfl rfl FillR.nil)) rfl) ?_
    refine WT.s2 ?_ ?_
    ·refine oN rfl ?_
     refine qV rfl (R.load1 rfl isAgg31 (h_131.ok _ M5) (Sg.t rfl (Sg.t rfl (Sg.t rfl (Sg.t rfl Sg.h))))) ?_
     refine WL.nil ?_
     refine ⟨(N0_1_2_3_4_7_8_9 h_131.ok), ?_⟩
     refine WT.s (oN rfl ?_)
     refine WL.buildSl (vs := [(0, (.agg ⟨flat [(1, [(vi kd)]), (32, key.map vu8), (1, [(vi dm)]), (1, [(.slice a_124 qn c_125)]), (32, cd.map vu8)]⟩))]) (cs := aC (kd, key, dm, data) (.slice a_124 qn c_125) cd) h_131 underlying31 sizeOf47 (zv typeInfo47 rfl) rfl rfl (fill_1 (zc := flat [(1, [vi 0]), (32, List.replicate 32 (vu8 0)), (1, [vi 0]), (1, [.slice none 0 0]), (32, List.replicate 32 (vu8 0))]) (by kernel_rfl) (sC (s := (67, flat [(1, [vi 0]), (32, List.replicate 32 (vu8 0)), (1, [vi 0]), (1, [.slice none 0 0]), (32, List.replicate 32 (vu8 0))])) ⟨by decide, SsOk.one (sC sV (sC (SOk.rep rfl) (sC sV (sC sV (sC (SOk.rep rfl) sN)))))⟩ sN) (aC_ok (q := (kd, key, dm, data)) (s := (.slice a_124 qn c_125)) (d := cd) hq.1 hcdl rfl)) ((aC_ok (q := (kd, key, dm, data)) (s := (.slice a_124 qn c_125)) (d := cd) hq.1 hcdl rfl)).head.len ((aC_ok (q := (kd, key, dm, data)) (s := (.slice a_124 qn c_125)) (d := cd) hq.1 hcdl rfl)).head.one rfl rfl (fun b_134 w_135 h_136 => ?_)
     refine WL.nil ?_
     refine ⟨(N1_2_3_4_5_8_9_10 h_136.ok), ?_⟩
     refine WT.s (oN rfl ?_)
     refine WL.append (km := lg.length + 1) (xs := lx) (ys := aC (kd, key, dm, data) (.slice a_124 qn c_125) cd) (zs := lx ++ aC (kd, key, dm, data) (.slice a_124 qn c_125) cd) h_136 rfl rfl el31 (viewB (h_136.ok _ M0) Sg.h) ((aC_ok (q := (kd, key, dm, data)) (s := (.slice a_124 qn c_125)) (d := cd) hq.1 hcdl rfl)).head.len ((aC_ok (q := (kd, key, dm, data)) (s := (.slice a_124 qn c_125)) (d := cd) hq.1 hcdl rfl)).head.one rfl (by omega) (by omega) (by omega) (fun _ _ => Y7) rfl (fun a_137 c_138 w_139 h_140 => ?_)
     refine WL.nil ?_
     refine ⟨(N1_2_3_4_5_8_9_10 h_140.ok), ?_⟩
     refine qT rfl rfl (fun wq hS => R.nilCheck rfl) ?_
     refine qT rfl rfl (fun wq hS => R.fieldAddr (off' := 35) rfl underlying33 rfl sizeOf31 rfl rfl) ?_
     refine WT.s (oN rfl ?_)
     refine WL.store1 h_140 rfl rfl sizeOf31 rfl Y6 (by decide) (Sg.t rfl (Sg.t rfl (Sg.t rfl (Sg.t rfl Sg.h)))) (fun w_141 h_142 => ?_)
     refine WL.nil ?_
     refine ⟨(N1_2_3_4_5_8_9_10 h_142.ok), ?_⟩
     refine WT.nil (thn_n ?_)
     exact ⟨(b_134, a_137, c_138), (U4 rfl rfl rfl rfl (U4 rfl rfl rfl rfl (U4 rfl rfl rfl rfl (Ag.refl _ _)))), ⟨rfl, rfl, rfl, rfl, rfl, rfl, rfl, rfl, rfl, rfl, rfl, rfl, trivial⟩, h_142⟩
    ·refine oN rfl ?_
     refine WL.buildSl (vs := [(0, (.agg ⟨flat [(1, [(vi kd)]), (32, key.map vu8), (1, [(vi dm)]), (1, [(.slice a_124 qn c_125)]), (32, cd.map vu8)]⟩))]) (cs := aC (kd, key, dm, data) (.slice a_124 qn c_125) cd) h_131 underlying31 sizeOf47 (zv typeInfo47 rfl) rfl rfl (fill_1 (zc := flat [(1, [vi 0]), (32, List.replicate 32 (vu8 0)), (1, [vi 0]), (1, [.slice none 0 0]), (32, List.replicate 32 (vu8 0))]) (by kernel_rfl) (sC (s := (67, flat [(1, [vi 0]), (32, List.replicate 32 (vu8 0)), (1, [vi 0]), (1, [.slice none 0 0]), (32, List.replicate 32 (vu8 0))])) ⟨by decide, SsOk.one (sC sV (sC (SOk.rep rfl) (sC sV (sC sV (sC (SOk.rep rfl) sN)))))⟩ sN) (aC_ok (q := (kd, key, dm, data)) (s := (.slice a_124 qn c_125)) (d := cd) hq.1 hcdl rfl)) ((aC_ok (q := (kd, key, dm, data)) (s := (.slice a_124 qn c_125)) (d := cd) hq.1 hcdl rfl)).head.len ((aC_ok (q := (kd, key, dm, data)) (s := (.slice a_124 qn c_125)) (d := cd) hq.1 hcdl rfl)).head.one rfl rfl (fun b_143 w_144 h_145 => ?_)
     refine WL.nil ?_
     refine ⟨(N1_2_3_4_5_8_9_10 h_145.ok), ?_⟩
     refine WT.s (oN rfl ?_)
     refine qV rfl (R.load1 rfl isAgg31 (h_145.ok _ M6) (Sg.t rfl (Sg.t rfl (Sg.t rfl (Sg.t rfl Sg.h))))) ?_
     refine WL.nil ?_
     refine ⟨(N1_2_3_4_5_8_9_10 h_145.ok), ?_⟩
     refine WT.s (oN rfl ?_)
     refine WL.append (km := lg.length + 1) (xs := lx) (ys := aC (kd, key, dm, data) (.slice a_124 qn c_125) cd) (zs := lx ++ aC (kd, key, dm, data) (.slice a_124 qn c_125) cd) h_145 rfl rfl el31 (viewB (h_145.ok _ M0) Sg.h) ((aC_ok (q := (kd, key, dm, data)) (s := (.slice a_124 qn c_125)) (d := cd) hq.1 hcdl rfl)).head.len ((aC_ok (q := (kd, key, dm, data)) (s := (.slice a_124 qn c_125)) (d := cd) hq.1 hcdl rfl)).head.one rfl (by omega) (by omega) (by omega) (fun _ _ => Y7) rfl (fun a_146 c_147 w_148 h_149 => ?_)
     refine WL.nil ?_
     refine ⟨(N1_2_3_4_5_8_9_10 h_149.ok), ?_⟩
     refine qT rfl rfl (fun wq hS => R.nilCheck rfl) ?_
     refine qT rfl rfl (fun wq hS => R.fieldAddr (off' := 35) rfl underlying33 rfl sizeOf31 rfl rfl) ?_
     refine WT.s (oN rfl ?_)
     refine WL.store1 h_149 rfl rfl sizeOf31 rfl Y6 (by decide) (Sg.t rfl (Sg.t rfl (Sg.t rfl (Sg.t rfl Sg.h)))) (fun w_150 h_151 => ?_)
     refine WL.nil ?_
     refine ⟨(N1_2_3_4_5_8_9_10 h_151.ok), ?_⟩
     refine WT.nil (thn_n ?_)
     exact ⟨(b_143, a_146, c_147), (U4 rfl rfl rfl rfl (U4 rfl rfl rfl rfl (U4 rfl rfl rfl rfl (Ag.refl _ _)))), ⟨rfl, rfl, rfl, rfl, rfl, rfl, rfl, rfl, rfl, rfl, rfl, rfl, trivial⟩, h_151⟩
   ·rintro ⟨b_155, a_156, c_157⟩ J_152 w_153 h_154
    refine thn_n (WP.seq (WP.reg ?_))
    refine qV rfl (R.loadA [] [(32, cd.map vu8)] [] (cs := cd.map vu8) rfl isAgg29 sizeOf29 (h_154.ok _ M2) rfl rfl rfl rfl) ?_
    refine WL.storeA [] [(32, (zB 32).map vu8)] [(32, cd.map vu8)] [] h_154 rfl rfl sizeOf29 Y3 (by decide) rfl rfl rfl rfl rfl rfl (sC (s8 hcdl) sN) (fun w_158 h_159 => ?_)
    refine WL.nil (thn_n (WP.ret ?_))
    refine ret_of results43 (RV.cell rfl (h_159.loadA (cs := cd.map vu8) isAgg29 sizeOf29 M3 rfl rfl) RV.nil) ?_
    have h_174 := ((((((((((((((h_159.drop rfl).up J1).drop rfl).up J1).drop rfl).up J1).drop rfl).up J1).drop rfl).up J5).up J5).up J4).up J4).up J5).up J5
    have h_175 := HP_logPush (q := (kd, key, dm, data)) (d := cd) h_174 hq hcdl (lenApp (a := 0) (b := qn) (rfl : List.length ([] : List UInt8) = 0) hdl (by omega) : List.length (([] : List UInt8) ++ data) = qn)
    have h_185 := ((((((((h_175.up J1).drop rfl).up J1).drop rfl).up J4).up J4).up J2).up J4).up J4
    have hmf : mF id df dn u (kd, key, dm, data) = cd := by rw [mF, c_52]; exact (hcd c_52).symm
    have hu2 : (bif id then u + 1 else u) = u := by rw [c_52]; rfl
    have hse : lg.length + 1 = (lg ++ [((kd, key, dm, data), cd)]).length := snoc_len.symm
    have h_176 := h_185
    rw [hse] at h_176
    exact ⟨_, _, _, by rw [anD_miss hfd, hmf]; rfl, by rw [anU_miss hfd, anL_miss hfd, hmf, hu2]; exact h_176⟩

theorem c_rAns_r {w00 : World} {L : List Ent} (id : Bool) (ob : Nat) (ms df : List UInt8) (hms : ms.length = 32) (da : Option Addr) (dn dc u : Nat) (hdf : df.length = 32 * dn) (la : Option Addr) (lc : Nat) (lx : List Value) (lg : Lg) (hu : u ≤ 1000000) (hlg : lg.length ≤ 1000000) (kd dm : Int) (key data : List UInt8) (qa : Option Addr) (qn qc : Nat) (hq : okQ (kd, key, dm, data)) (hdl : data.length = qn) (cd : List UInt8) (hcdl : cd.length = 32) (hcd : id = false → cd = cF (kd, key, dm, data)) (w : World) (h_0 : HP w00 w (Ent.blk ob .nw 33 [(1, [(.bool id)]), (32, ms.map vu8), (1, [(.slice da dn dc)]), (1, [(vi ((u : Nat) : Int))]), (1, [(.slice la lg.length lc)])] :: Ent.row la lg.length lc 47 67 lx :: Ent.pin (sblks lx) (fun w => Lgs w lx lg) :: Ent.view da (df.map vu8) :: Ent.row qa qn qc 5 1 (data.map vu8) :: L)) :
  Cs Tryz.prog 43 [(.pointer (some ⟨ob, 0, none⟩)), (.agg ⟨flat [(1, [(vi kd)]), (32, key.map vu8), (1, [(vi dm)]), (1, [(.slice qa qn qc)])]⟩), (.agg ⟨cd.map vu8⟩)].toArray w (fun v w1 => ∃ la' lc' lx', v = (.agg ⟨(anD id df dn u lg (kd, key, dm, data)).map vu8⟩) ∧ HP w00 w1 (Ent.blk ob .nw 33 [(1, [(.bool id)]), (32, ms.map vu8), (1, [(.slice da dn dc)]), (1, [(vi (((anU id u lg (kd, key, dm, data)) : Nat) : Int))]), (1, [(.slice la' ((anL id df dn u lg (kd, key, dm, data)).length) lc')])] :: Ent.row la' ((anL id df dn u lg (kd, key, dm, data)).length) lc' 47 67 lx' :: Ent.pin (sblks lx') (fun w => Lgs w lx' (anL id df dn u lg (kd, key, dm, data))) :: Ent.view da (df.map vu8) :: Ent.row qa qn qc 5 1 (data.map vu8) :: L)) := by
 have hlgs : Lgs w lx lg := (h_0.ok _ M2).1
 have hlo := hlgs.ok
 have hqn : data.length ≤ 1000000000 := hq.2.2.2
 refine Cs.of (n := 71) (args := [(pO ob 0), (.agg ⟨flat [(1, [(vi kd)]), (32, key.map vu8), (1, [(vi dm)]), (1, [(.slice qa qn qc)])]⟩), (.agg ⟨cd.map vu8⟩)]) Tryz.func43 rfl rfl rfl ?_
 refine WP.seq (WP.reg ?_)
 refine WL.box (segs := [(1, [(vi kd)]), (32, key.map vu8), (1, [(vi dm)]), (1, [(.slice qa qn qc)])]) h_0 rfl rfl (sC sV (sC (s8 hq.1) (sC sV (sC sV sN)))) rfl (fun b_1 w_2 h_3 => ?_)
 refine WL.box (segs := [(32, cd.map vu8)]) h_3 rfl rfl (sC (s8 hcdl) sN) rfl (fun b_4 w_5 h_6 => ?_)
 refine WL.alloc (segs := [(32, (zB 32).map vu8)]) h_6 (zv typeInfo29 rfl) rfl (sC (s8 lr) sN) rfl (fun b_7 w_8 h_9 => ?_)
 refine WL.nil (thn_n (WP.seq (WP.seq (WP.reg ?_))))
 refine qA (vi 0) rfl rfl ?_
 refine WL.nil (thn_n (WP.block ?_))
 refine WP.loopG (G := Nat) [7, 9, 10, 11, 12, 13, 14, 15, 16, 17, 18, 19, 20, 21, 22, 23, 24, 25, 26, 27, 28, 29, 30, 31, 32, 33, 34, 35] (fun k => [(7, (vn k))]) (fun k m w1 => HP w00 w1 (Ent.blk b_7 .nw 29 [(32, (zB 32).map vu8)] :: Ent.blk b_4 .nw 29 [(32, cd.map vu8)] :: Ent.blk b_1 .nw 39 [(1, [(vi kd)]), (32, key.map vu8), (1, [(vi dm)]), (1, [(.slice qa qn qc)])] :: Ent.blk ob .nw 33 [(1, [(.bool id)]), (32, ms.map vu8), (1, [(.slice da dn dc)]), (1, [(vn u)]), (1, [(.slice la lg.length lc)])] :: Ent.row la lg.length lc 47 67 lx :: Ent.pin (sblks lx) (fun w => Lgs w lx lg) :: Ent.view da (df.map vu8) :: Ent.row qa qn qc 5 1 (data.map vu8) :: L) ∧ (k ≤ lg.length) ∧ (∀ j, j < k → (lg.getD j ((kd, key, dm, data), [])).1 ≠ (kd, key, dm, data)) ∧ m = lg.length + 1 - k) ⟨0, _, ⟨rfl, trivial⟩, h_9, Nat.zero_le _, (fun j hj => by omega), rfl⟩ ?_
 rintro k m_12 J_13 w_10 ⟨h_11, hk, hno, rfl⟩
 refine WP.seq (WP.seq (WP.reg ?_))
 refine qM (vn k) rfl rfl (qM (pO ob 0) rfl rfl (qV rfl (R.nilCheck rfl) (qV rfl (R.fieldAddr (off' := 35) rfl underlying33 rfl sizeOf31 rfl rfl) (qV rfl (R.load1 rfl isAgg31 (h_11.ok _ M3) (Sg.t rfl (Sg.t rfl (Sg.t rfl (Sg.t rfl Sg.h))))) (qV rfl (R.lenS (a := la) (m := lg.length) rfl rfl underlying31) (qV rfl (R.bin rfl rfl (bi_lss (r := decide ((((k : Nat) : Int) : Int) < ((lg.length : Nat) : Int))) rfl)) ?_))))))
 refine WL.nil (thn_n ?_)
 refine WP.cond (b := decide ((((k : Nat) : Int) : Int) < ((lg.length : Nat) : Int))) rfl (fun c_14 => ?_) (fun c_14 => ?_)
 ·have p_15 := of_decide_eq_true c_14
  refine WP.skip (thn_n (WP.seq (WP.block (WP.seq ?_))))
  have hkl : k < lg.length := by omega
  obtain ⟨ka, kn, kc, hkx, hkq, hkn, hkc, hkv, hkb⟩ := Lgs.qget (z := ((kd, key, dm, data), [])) (h_11.ok _ M5).1 hkl
  have h_16 := h_11.within (e' := .view ka ((lg.getD k ((kd, key, dm, data), [])).1.2.2.2.map vu8)) M5 rfl (View.arg hkv) rfl rfl (fun b hb_ => hkb _ (view_sblk hkn b hb_))
  refine WP.drawT (SL w00.heap.size [.view ka ((lg.getD k ((kd, key, dm, data), [])).1.2.2.2.map vu8), .blk b_7 .nw 29 [(32, (zB 32).map vu8)], .blk b_4 .nw 29 [(32, cd.map vu8)], .blk b_1 .nw 39 [(1, [(vi kd)]), (32, key.map vu8), (1, [(vi dm)]), (1, [(.slice qa qn qc)])], .blk ob .nw 33 [(1, [(.bool id)]), (32, ms.map vu8), (1, [(.slice da dn dc)]), (1, [(vn u)]), (1, [(.slice la lg.length lc)])], .row la lg.length lc 47 67 lx, .pin (sblks lx) (fun w => Lgs w lx lg), .view da (df.map vu8), .row qa qn qc 5 1 (data.map vu8)]) (.q 0 (.q 1 (.q 2 (.q 3 (.q 4 (.q 5 (.q 6 (.q 7 (.q 8 (.s 9 .nil)))))))))) (by kernel_rfl) (by kernel_rfl) rfl (by kernel_rfl) (fun w_17 hc_19 => (SL.cons ((h_16.same hc_19).ok _ M0) (SL.cons ((h_16.same hc_19).ok _ M1) (SL.cons ((h_16.same hc_19).ok _ M2) (SL.cons ((h_16.same hc_19).ok _ M3) (SL.cons ((h_16.same hc_19).ok _ M4) (SL.cons ((h_16.same hc_19).ok _ M5) (SL.cons ((h_16.same hc_19).ok _ M6) (SL.cons ((h_16.same hc_19).ok _ M7) (SL.cons ((h_16.same hc_19).ok _ M8) (SL.nil _ _))))))))))) (fun w_17 hc_19 => ?_)
  have h_18 := h_16.same hc_19
  refine qT rfl rfl (fun wq hS => R.move (v := (pO ob 0)) rfl) ?_
  refine qT rfl rfl (fun wq hS => R.nilCheck rfl) ?_
  refine qT rfl rfl (fun wq hS => R.fieldAddr (off' := 35) rfl underlying33 rfl sizeOf31 rfl rfl) ?_
  refine qT rfl rfl (fun wq hS => R.load1 rfl isAgg31 (hS _ M4) (Sg.t rfl (Sg.t rfl (Sg.t rfl (Sg.t rfl Sg.h))))) ?_
  refine qT rfl rfl (fun wq hS => R.move (v := (vn k)) rfl) ?_
  refine qT rfl rfl (fun wq hS => R.indexS (a := la) (i := k) (off := k * 67) (xs := lx) rfl rfl rfl (by omega) (ownView (hS _ M5)) (by rw [Lgs.len hlgs]; omega) underlying31 sizeOf47 rfl) ?_
  refine qT rfl rfl (fun wq hS => R.fieldG (a := la) (i := k * 67) (off' := k * 67) rfl underlying47 rfl sizeOf39 rfl rfl) ?_
  refine qT rfl rfl (fun wq hS => R.loadGA (a := la) (i := k * 67) (xs := lx) (cs := flat [(1, [(vi (((lg.getD k ((kd, key, dm, data), [])).1).1))]), (32, (((lg.getD k ((kd, key, dm, data), [])).1).2.1).map vu8), (1, [(vi (((lg.getD k ((kd, key, dm, data), [])).1).2.2.1))]), (1, [(.slice ka kn kc)])]) rfl (ownView (hS _ M5)) isAgg39 sizeOf39 hkx ((sC sV (sC (s8 hkq.1) (sC sV (sC sV sN))))).len (by decide)) ?_
  refine qT rfl rfl (fun wq hS => R.loadA [] [(1, [(vi kd)]), (32, key.map vu8), (1, [(vi dm)]), (1, [(.slice qa qn qc)])] [] rfl isAgg39 sizeOf39 (hS _ M3) rfl rfl rfl rfl) ?_
  refine WT.s (oN rfl ?_)
  refine WL.call Tryz.call16 rfl rfl (c_rSame ((lg.getD k ((kd, key, dm, data), [])).1) (kd, key, dm, data) hkq.1 hq.1 ka kn kc hkn qa qn qc hdl _ (viewV (h_18.ok _ M0)) (ownView (h_18.ok _ M8))) rfl ?_
  rintro _ w_21 ⟨rfl, hc_20⟩
  have h_22 := h_18.same hc_20
  refine WL.nil ?_
  refine ⟨(N0_1_2_3_4_5_6_7_8 h_22.ok), ?_⟩
  refine WT.nil (thn_n ?_)
  refine WP.cond (b := decide ((lg.getD k ((kd, key, dm, data), [])).1 = (kd, key, dm, data))) rfl (fun c_23 => ?_) (fun c_23 => ?_)
  ·have p_24 := of_decide_eq_true c_23
   refine WP.seq ?_
   have hfd : fdq (kd, key, dm, data) lg 0 = some k := (fdq_at (s := 0) hkl hno p_24).trans (by rw [Nat.zero_add])
   refine WP.reg ?_
   refine qM (pO ob 0) rfl rfl (qV rfl (R.nilCheck rfl) (qV rfl (R.fieldAddr (off' := 35) rfl underlying33 rfl sizeOf31 rfl rfl) (qV rfl (R.load1 rfl isAgg31 (h_22.ok _ M4) (Sg.t rfl (Sg.t rfl (Sg.t rfl (Sg.t rfl Sg.h))))) (qM (vn k) rfl rfl (qV rfl (R.indexS (a := la) (i := k) (off := k * 67) (xs := lx) rfl rfl rfl (by omega) (ownView (h_22.ok _ M5)) (by rw [Lgs.len hlgs]; omega) underlying31 sizeOf47 rfl) (qV rfl (R.fieldG (a := la) (i := k * 67) (off' := k * 67 + 35) rfl underlying47 rfl sizeOf29 rfl rfl) (qV rfl (R.loadGA (a := la) (i := k * 67 + 35) (xs := lx) (cs := ((lg.getD k ((kd, key, dm, data), [])).2).map vu8) rfl (ownView (h_22.ok _ M5)) isAgg29 sizeOf29 (Lgs.ans (z := ((kd, key, dm, data), [])) hlgs (i := k) hkl).1 (len_map (Lgs.ans (z := ((kd, key, dm, data), [])) hlgs (i := k) hkl).2) (by decide)) ?_)))))))
   refine WL.storeA [] [(32, (zB 32).map vu8)] [(32, ((lg.getD k ((kd, key, dm, data), [])).2).map vu8)] [] h_22 rfl rfl sizeOf29 Y1 (by decide) rfl rfl rfl rfl rfl rfl (sC (s8 ((Lgs.ans (z := ((kd, key, dm, data), [])) hlgs (i := k) hkl).2)) sN) (fun w_25 h_26 => ?_)
   refine WL.nil (thn_n (WP.ret (inb_r (thn_r (thn_r (inb_r (thn_r ?_)))))))
   refine ret_of results43 (RV.cell rfl (h_26.loadA (cs := ((lg.getD k ((kd, key, dm, data), [])).2).map vu8) isAgg29 sizeOf29 M1 rfl rfl) RV.nil) ?_
   have h_35 := ((((((((h_26.drop rfl).drop rfl).drop rfl).drop rfl).up J4).up J4).up J4).up J4).up J4
   exact ⟨la, lc, lx, by rw [anD_hit hfd]; rfl, by rw [anU_hit hfd, anL_hit hfd]; exact h_35⟩
  ·have p_36 := of_decide_eq_false c_23
   refine WP.skip (inb_n (thn_n (WP.reg ?_)))
   refine qM (vn k) rfl rfl (qV rfl (R.bin rfl rfl (bi_add (c := ((k + 1 : Nat) : Int)) (by omega) (by omega))) (qA (vn (k + 1)) rfl rfl ?_))
   refine WL.nil (thn_n ?_)
   have h_45 := ((((((((h_22.drop rfl).up J7).up J7).up J7).up J7).up J7).up J7).up J7).up J7
   exact ⟨k + 1, _, (by omega), (U4 rfl rfl rfl rfl (U4 rfl rfl rfl rfl (U4 rfl rfl rfl rfl (U4 rfl rfl rfl rfl (U4 rfl rfl rfl rfl (Ag.updL rfl (Ag.mix _ _ _))))))), ⟨rfl, trivial⟩, h_45, (by omega), (fun j hj => (Nat.lt_or_eq_of_le (Nat.le_of_lt_succ hj)).elim (fun e => hno j e) (fun e => by rw [e]; exact p_36)), rfl⟩
 ·have p_46 := of_decide_eq_false c_14
  refine WP.exit (thn_x (thn_x (inb_hit (thn_n (WP.seq ?_)))))
  have hfd : fdq (kd, key, dm, data) lg 0 = none := fdq_no (z := ((kd, key, dm, data), [])) (fun j hj => hno j (by omega))
  refine WP.reg ?_
  refine qV rfl (R.loadA [] [(32, cd.map vu8)] [] (cs := cd.map vu8) rfl isAgg29 sizeOf29 (h_11.ok _ M1) rfl rfl rfl rfl) ?_
  refine WL.alloc (segs := [(32, (zB 32).map vu8)]) h_11 (zv typeInfo29 rfl) rfl (sC (s8 lr) sN) rfl (fun b_47 w_48 h_49 => ?_)
  refine WL.storeA [] [(32, (zB 32).map vu8)] [(32, cd.map vu8)] [] h_49 rfl rfl sizeOf29 At.h (by decide) rfl rfl rfl rfl rfl rfl (sC (s8 hcdl) sN) (fun w_50 h_51 => ?_)
  refine WL.nil (thn_n (WP.seq (WP.seq (WP.reg ?_))))
  refine qM (pO ob 0) rfl rfl (qV rfl (R.nilCheck rfl) (qV rfl (R.fieldAddr (off' := 0) rfl underlying33 rfl sizeOf4 rfl rfl) (qV rfl (R.load1 rfl isAgg4 (h_51.ok _ M4) Sg.h) ?_)))
  refine WL.nil (thn_n ?_)
  refine WP.cond (b := id) rfl (fun c_52 => ?_) (fun c_52 => ?_)
  ·refine WP.seq (WP.reg ?_)
   refine qM (pO ob 0) rfl rfl (qM (pO ob 0) rfl rfl (qV rfl (R.nilCheck rfl) (qV rfl (R.fieldAddr (off' := 34) rfl underlying33 rfl sizeOf3 rfl rfl) (qV rfl (R.load1 rfl isAgg3 (h_51.ok _ M4) (Sg.t rfl (Sg.t rfl (Sg.t rfl Sg.h)))) ?_))))
   refine WL.call Tryz.call34 rfl rfl (c_rDraw id ob ms df hms da dn dc u u hdf la lg.length lc (by omega) _ (viewV (h_51.ok _ M7)) (h_51.argR M4)) rfl ?_
   rintro _ w_54 ⟨rfl, hc_53⟩
   have h_55 := h_51.same hc_53
   refine WL.storeA [] [(32, cd.map vu8)] [(32, (drawF df dn u).map vu8)] [] h_55 rfl rfl sizeOf29 At.h (by decide) rfl rfl rfl rfl rfl rfl (sC (s8 (drawF_len hdf)) sN) (fun w_56 h_57 => ?_)
   refine WL.nil (thn_n (WP.reg ?_))
   refine qM (pO ob 0) rfl rfl (qV rfl (R.nilCheck rfl) (qV rfl (R.fieldAddr (off' := 34) rfl underlying33 rfl sizeOf3 rfl rfl) (qV rfl (R.load1 rfl isAgg3 (h_57.ok _ M4) (Sg.t rfl (Sg.t rfl (Sg.t rfl Sg.h)))) (qV rfl (R.bin rfl rfl (bi_add (c := ((u + 1 : Nat) : Int)) (by omega) (by omega))) (qV rfl (R.nilCheck rfl) (qV rfl (R.fieldAddr (off' := 34) rfl underlying33 rfl sizeOf3 rfl rfl) ?_))))))
   refine WL.store1 h_57 rfl rfl sizeOf3 rfl Y4 (by decide) (Sg.t rfl (Sg.t rfl (Sg.t rfl Sg.h))) (fun w_58 h_59 => ?_)
   refine WL.nil (thn_n (WP.seq (WP.reg ?_)))
   refine qV rfl (R.fieldAddr (off' := 34) rfl underlying39 rfl sizeOf37 rfl rfl) (qV rfl (R.load1 rfl isAgg37 (h_59.ok _ M3) (Sg.t rfl (Sg.t rfl (Sg.t rfl Sg.h)))) ?_)
   have h_60 := h_59.rowNil 5 1
   refine WL.append (km := qn) (xs := []) (ys := data.map vu8) (zs := (([] : List UInt8) ++ data).map vu8) h_60 rfl rfl el37 (ownView (h_60.ok _ M9)) ((len_map hdl).trans (Nat.mul_one _).symm) (one_u8 _) (by simp only [List.map_append, List.map_nil]) (by omega) (by omega) (by omega) (fun _ _ => At.h) rfl (fun a_61 c_62 w_63 h_64 => ?_)
   refine qV rfl (R.fieldAddr (off' := 34) rfl underlying39 rfl sizeOf37 rfl rfl) ?_
   refine WL.store1 h_64 rfl rfl sizeOf37 rfl Y4 (by decide) (Sg.t rfl (Sg.t rfl (Sg.t rfl Sg.h))) (fun w_65 h_66 => ?_)
   refine WL.nil (thn_n (WP.seq ?_))
   refine WP.cutG (G := Nat × Option Addr × Nat) [58, 59, 60, 61, 62, 63, 64, 65, 66, 67, 68, 69] (fun (bY11Y8Y0Y0, aY11Y9Y0Y0, cY11Y9Y0Y0) => [(58, (pO ob 0)), (59, (pO ob 0)), (60, (pO ob 0)), (61, (pO ob 35)), (63, (.agg ⟨flat [(1, [(vi kd)]), (32, key.map vu8), (1, [(vi dm)]), (1, [(.slice a_61 qn c_62)])]⟩)), (64, (.agg ⟨(drawF df dn u).map vu8⟩)), (65, (.agg ⟨flat [(1, [(vi kd)]), (32, key.map vu8), (1, [(vi dm)]), (1, [(.slice a_61 qn c_62)]), (32, (drawF df dn u).map vu8)]⟩)), (62, (.slice la lg.length lc)), (66, (.slice (some ⟨bY11Y8Y0Y0, 0, none⟩) 1 1)), (67, (.slice aY11Y9Y0Y0 (lg.length + 1) cY11Y9Y0Y0)), (68, (pO ob 0)), (69, (pO ob 35))]) (fun (bY11Y8Y0Y0, aY11Y9Y0Y0, cY11Y9Y0Y0) w1 => HP w00 w1 (Ent.blk bY11Y8Y0Y0 .nw 47 [(67, aC (kd, key, dm, data) (.slice a_61 qn c_62) (drawF df dn u))] :: Ent.row a_61 qn c_62 5 1 ((([] : List UInt8) ++ data).map vu8) :: Ent.blk b_47 .nw 29 [(32, (drawF df dn u).map vu8)] :: Ent.blk b_7 .nw 29 [(32, (zB 32).map vu8)] :: Ent.blk b_4 .nw 29 [(32, cd.map vu8)] :: Ent.blk b_1 .nw 39 [(1, [(vi kd)]), (32, key.map vu8), (1, [(vi dm)]), (1, [(.slice a_61 qn c_62)])] :: Ent.blk ob .nw 33 [(1, [(.bool id)]), (32, ms.map vu8), (1, [(.slice da dn dc)]), (1, [(vn (u + 1))]), (1, [(.slice aY11Y9Y0Y0 (lg.length + 1) cY11Y9Y0Y0)])] :: Ent.row aY11Y9Y0Y0 (lg.length + 1) cY11Y9Y0Y0 47 67 (lx ++ aC (kd, key, dm, data) (.slice a_61 qn c_62) (drawF df dn u)) :: Ent.pin (sblks lx) (fun w => Lgs w lx lg) :: Ent.view da (df.map vu8) :: Ent.row qa qn qc 5 1 (data.map vu8) :: L)) ?_ ?_
   ·refine WP.drawT (SL w00.heap.size [.row a_61 qn c_62 5 1 ((([] : List UInt8) ++ data).map vu8), .blk b_47 .nw 29 [(32, (drawF df dn u).map vu8)], .blk b_7 .nw 29 [(32, (zB 32).map vu8)], .blk b_4 .nw 29 [(32, cd.map vu8)], .blk b_1 .nw 39 [(1, [(vi kd)]), (32, key.map vu8), (1, [(vi dm)]), (1, [(.slice a_61 qn c_62)])], .pin (sblks lx) (fun w => Lgs w lx lg), .view da (df.map vu8), .row qa qn qc 5 1 (data.map vu8)]) (.q 0 (.q 1 (.q 2 (.q 3 (.q 5 (.q 6 (.q 7 (.s2 4 8 (.s 8 (.s 9 (.q 10 (.q 11 (.s 12 .nil))))) (.s 4 (.s 9 (.q 10 (.q 11 (.s 12 .nil))))))))))))) (by kernel_rfl) (by kernel_rfl) rfl (by kernel_rfl) (fun w_67 hc_69 => (SL.cons ((h_66.same hc_69).ok _ M0) (SL.cons ((h_66.same hc_69).ok _ M1) (SL.cons ((h_66.same hc_69).ok _ M2) (SL.cons ((h_66.same hc_69).ok _ M3) (SL.cons ((h_66.same hc_69).ok _ M4) (SL.cons ((h_66.same hc_69).ok _ M7) (SL.cons ((h_66.same hc_69).ok _ M8) (SL.cons ((h_66.same hc_69).ok _ M9) (SL.nil _ _)))))))))) (fun w_67 hc_69 => ?_)
    have h_68 := h_66.same hc_69
    refine qT rfl rfl (fun wq hS => R.move (v := (pO ob 0)) rfl) ?_
    refine qT rfl rfl (fun wq hS => R.move (v := (pO ob 0)) rfl) ?_
    refine qT rfl rfl (fun wq hS => R.nilCheck rfl) ?_
    refine qT rfl rfl (fun wq hS => R.fieldAddr (off' := 35) rfl underlying33 rfl sizeOf31 rfl rfl) ?_
    refine qT rfl rfl (fun wq hS => R.loadA [] [(1, [(vi kd)]), (32, key.map vu8), (1, [(vi dm)]), (1, [(.slice a_61 qn c_62)])] [] rfl isAgg39 sizeOf39 (hS _ M4) rfl rfl rfl rfl) ?_
    refine qT rfl rfl (fun wq hS => R.loadA [] [(32, (drawF df dn u).map vu8)] [] (cs := (drawF df dn u).map vu8) rfl isAgg29 sizeOf29 (hS _ M1) rfl rfl rfl rfl) ?_
    refine qT rfl rfl (fun wq hS => R.buildS (pl := [(0, 35), (35, 32)]) (zs := [(1, [(vi 0)]), (32, (zB 32).map vu8), (1, [(vi 0)]), (1, [(.slice none 0 0)]), (32, (zB 32).map vu8)]) (vs := [(0, (.agg ⟨flat [(1, [(vi kd)]), (32, key.map vu8), (1, [(vi dm)]), (1, [(.slice a_61 qn c_62)])]⟩)), (1, (.agg ⟨(drawF df dn u).map vu8⟩))]) (out := [(1, [(vi kd)]), (32, key.map vu8), (1, [(vi dm)]), (1, [(.slice a_61 qn c_62)]), (32, (drawF df dn u).map vu8)]) underlying47 (zv typeInfo47 rfl) rfl (sC sV (sC (s8 lr) (sC sV (sC sV (sC (s8 lr) sN))))) (pl47 _ underlying47) rfl (FillR.cons [] [(1, [(vi 0)]), (32, (zB 32).map vu8), (1, [(vi 0)]), (1, [(.slice none 0 0)])] [(1, [(vi kd)]), (32, key.map vu8), (1, [(vi dm)]), (1, [(.slice a_61 qn c_62)])] [(32, (zB 32).map vu8)] rfl rfl rfl rfl (sC sV (sC (s8 hq.1) (sC sV (sC sV sN)))) rfl rfl rfl (FillR.cons [(1, [(vi kd)]), (32, key.map vu8), (1, [(vi dm)]), (1, [(.slice a_61 qn c_62)])] [(32, (zB 32).map vu8)] [(32, (drawF df dn u).map vu8)] [] rfl rfl rfl rfl (sC (s8 (drawF_len hdf)) sN) rfl rfl rfl FillR.nil)) rfl) ?_
    refine WT.s2 ?_ ?_
    ·refine oN rfl ?_
     refine qV rfl (R.load1 rfl isAgg31 (h_68.ok _ M5) (Sg.t rfl (Sg.t rfl (Sg.t rfl (Sg.t rfl Sg.h))))) ?_
     refine WL.nil ?_
     refine ⟨(N0_1_2_3_4_7_8_9 h_68.ok), ?_⟩
     refine WT.s (oN rfl ?_)
     refine WL.buildSl (vs := [(0, (.agg ⟨flat [(1, [(vi kd)]), (32, key.map vu8), (1, [(vi dm)]), (1, [(.slice a_61 qn c_62)]), (32, (drawF df dn u).map vu8)]⟩))]) (cs := aC (kd, key, dm, data) (.slice a_61 qn c_62) (drawF df dn u)) h_68 underlying31 sizeOf47 (zv typeInfo47 rfl) rfl rfl (fill_1 (zc := flat [(1, [vi 0]), (32, List.replicate 32 (vu8 0)), (1, [vi 0]), (1, [.slice none 0 0]), (32, List.replicate 32 (vu8 0))]) (by kernel_rfl) (sC (s := (67, flat [(1, [vi 0]), (32, List.replicate 32 (vu8 0)), (1, [vi 0]), (1, [.slice none 0 0]), (32, List.replicate 32 (vu8 0))])) ⟨by decide, SsOk.one (sC sV (sC (SOk.rep rfl) (sC sV (sC sV (sC (SOk.rep rfl) sN)))))⟩ sN) (aC_ok (q := (kd, key, dm, data)) (s := (.slice a_61 qn c_62)) (d := drawF df dn u) hq.1 (drawF_len hdf) rfl)) ((aC_ok (q := (kd, key, dm, data)) (s := (.slice a_61 qn c_62)) (d := drawF df dn u) hq.1 (drawF_len hdf) rfl)).head.len ((aC_ok (q := (kd, key, dm, data)) (s := (.slice a_61 qn c_62)) (d := drawF df dn u) hq.1 (drawF_len hdf) rfl)).head.one rfl rfl (fun b_71 w_72 h_73 => ?_)
     refine WL.nil ?_
     refine ⟨(N1_2_3_4_5_8_9_10 h_73.ok), ?_⟩
     refine WT.s (oN rfl ?_)
     refine WL.append (km := lg.length + 1) (xs := lx) (ys := aC (kd, key, dm, data) (.slice a_61 qn c_62) (drawF df dn u)) (zs := lx ++ aC (kd, key, dm, data) (.slice a_61 qn c_62) (drawF df dn u)) h_73 rfl rfl el31 (viewB (h_73.ok _ M0) Sg.h) ((aC_ok (q := (kd, key, dm, data)) (s := (.slice a_61 qn c_62)) (d := drawF df dn u) hq.1 (drawF_len hdf) rfl)).head.len ((aC_ok (q := (kd, key, dm, data)) (s := (.slice a_61 qn c_62)) (d := drawF df dn u) hq.1 (drawF_len hdf) rfl)).head.one rfl (by omega) (by omega) (by omega) (fun _ _ => Y7) rfl (fun a_74 c_75 w_76 h_77 => ?_)
     refine WL.nil ?_
     refine ⟨(N1_2_3_4_5_8_9_10 h_77.ok), ?_⟩
     refine qT rfl rfl (fun wq hS => R.nilCheck rfl) ?_
     refine qT rfl rfl (fun wq hS => R.fieldAddr (off' := 35) rfl underlying33 rfl sizeOf31 rfl rfl) ?_
     refine WT.s (oN rfl ?_)
     refine WL.store1 h_77 rfl rfl sizeOf31 rfl Y6 (by decide) (Sg.t rfl (Sg.t rfl (Sg.t rfl (Sg.t rfl Sg.h)))) (fun w_78 h_79 => ?_)
     refine WL.nil ?_
     refine ⟨(N1_2_3_4_5_8_9_10 h_79.ok), ?_⟩
     refine WT.nil (thn_n ?_)
     exact ⟨(b_71, a_74, c_75), (U4 rfl rfl rfl rfl (U4 rfl rfl rfl rfl (U4 rfl rfl rfl rfl (Ag.refl _ _)))), ⟨rfl, rfl, rfl, rfl, rfl, rfl, rfl, rfl, rfl, rfl, rfl, rfl, trivial⟩, h_79⟩
    ·refine oN rfl ?_
     refine WL.buildSl (vs := [(0, (.agg ⟨flat [(1, [(vi kd)]), (32, key.map vu8), (1, [(vi dm)]), (1, [(.slice a_61 qn c_62)]), (32, (drawF df dn u).map vu8)]⟩))]) (cs := aC (kd, key, dm, data) (.slice a_61 qn c_62) (drawF df dn u)) h_68 underlying31 sizeOf47 (zv typeInfo47 rfl) rfl rfl (fill_1 (zc := flat [(1, [vi 0]), (32, List.replicate 32 (vu8 0)), (1, [vi 0]), (1, [.slice none 0 0]), (32, List.replicate 32 (vu8 0))]) (by kernel_rfl) (sC (s := (67, flat [(1, [vi 0]), (32, List.replicate 32 (vu8 0)), (1, [vi 0]), (1, [.slice none 0 0]), (32, List.replicate 32 (vu8 0))])) ⟨by decide, SsOk.one (sC sV (sC (SOk.rep rfl) (sC sV (sC sV (sC (SOk.rep rfl) sN)))))⟩ sN) (aC_ok (q := (kd, key, dm, data)) (s := (.slice a_61 qn c_62)) (d := drawF df dn u) hq.1 (drawF_len hdf) rfl)) ((aC_ok (q := (kd, key, dm, data)) (s := (.slice a_61 qn c_62)) (d := drawF df dn u) hq.1 (drawF_len hdf) rfl)).head.len ((aC_ok (q := (kd, key, dm, data)) (s := (.slice a_61 qn c_62)) (d := drawF df dn u) hq.1 (drawF_len hdf) rfl)).head.one rfl rfl (fun b_80 w_81 h_82 => ?_)
     refine WL.nil ?_
     refine ⟨(N1_2_3_4_5_8_9_10 h_82.ok), ?_⟩
     refine WT.s (oN rfl ?_)
     refine qV rfl (R.load1 rfl isAgg31 (h_82.ok _ M6) (Sg.t rfl (Sg.t rfl (Sg.t rfl (Sg.t rfl Sg.h))))) ?_
     refine WL.nil ?_
     refine ⟨(N1_2_3_4_5_8_9_10 h_82.ok), ?_⟩
     refine WT.s (oN rfl ?_)
     refine WL.append (km := lg.length + 1) (xs := lx) (ys := aC (kd, key, dm, data) (.slice a_61 qn c_62) (drawF df dn u)) (zs := lx ++ aC (kd, key, dm, data) (.slice a_61 qn c_62) (drawF df dn u)) h_82 rfl rfl el31 (viewB (h_82.ok _ M0) Sg.h) ((aC_ok (q := (kd, key, dm, data)) (s := (.slice a_61 qn c_62)) (d := drawF df dn u) hq.1 (drawF_len hdf) rfl)).head.len ((aC_ok (q := (kd, key, dm, data)) (s := (.slice a_61 qn c_62)) (d := drawF df dn u) hq.1 (drawF_len hdf) rfl)).head.one rfl (by omega) (by omega) (by omega) (fun _ _ => Y7) rfl (fun a_83 c_84 w_85 h_86 => ?_)
     refine WL.nil ?_
     refine ⟨(N1_2_3_4_5_8_9_10 h_86.ok), ?_⟩
     refine qT rfl rfl (fun wq hS => R.nilCheck rfl) ?_
     refine qT rfl rfl (fun wq hS => R.fieldAddr (off' := 35) rfl underlying33 rfl sizeOf31 rfl rfl) ?_
     refine WT.s (oN rfl ?_)
     refine WL.store1 h_86 rfl rfl sizeOf31 rfl Y6 (by decide) (Sg.t rfl (Sg.t rfl (Sg.t rfl (Sg.t rfl Sg.h)))) (fun w_87 h_88 => ?_)
     refine WL.nil ?_
     refine ⟨(N1_2_3_4_5_8_9_10 h_88.ok), ?_⟩
     refine WT.nil (thn_n ?_)
     exact ⟨(b_80, a_83, c_84), (U4 rfl rfl rfl rfl (U4 rfl rfl rfl rfl (U4 rfl rfl rfl rfl (Ag.refl _ _)))), ⟨rfl, rfl, rfl, rfl, rfl, rfl, rfl, rfl, rfl, rfl, rfl, rfl, trivial⟩, h_88⟩
   ·rintro ⟨b_92, a_93, c_94⟩ J_89 w_90 h_91
    refine thn_n (WP.seq (WP.reg ?_))
    refine qV rfl (R.loadA [] [(32, (drawF df dn u).map vu8)] [] (cs := (drawF df dn u).map vu8) rfl isAgg29 sizeOf29 (h_91.ok _ M2) rfl rfl rfl rfl) ?_
    refine WL.storeA [] [(32, (zB 32).map vu8)] [(32, (drawF df dn u).map vu8)] [] h_91 rfl rfl sizeOf29 Y3 (by decide) rfl rfl rfl rfl rfl rfl (sC (s8 (drawF_len hdf)) sN) (fun w_95 h_96 => ?_)
    refine WL.nil (thn_n (WP.ret ?_))
    refine ret_of results43 (RV.cell rfl (h_96.loadA (cs := (drawF df dn u).map vu8) isAgg29 sizeOf29 M3 rfl rfl) RV.nil) ?_
    have h_111 := ((((((((((((((h_96.drop rfl).up J1).drop rfl).up J1).drop rfl).up J1).drop rfl).up J1).drop rfl).up J5).up J5).up J4).up J4).up J5).up J5
    have h_112 := HP_logPush (q := (kd, key, dm, data)) (d := drawF df dn u) h_111 hq (drawF_len hdf) (lenApp (a := 0) (b := qn) (rfl : List.length ([] : List UInt8) = 0) hdl (by omega) : List.length (([] : List UInt8) ++ data) = qn)
    have h_122 := ((((((((h_112.up J1).drop rfl).up J1).drop rfl).up J4).up J4).up J2).up J4).up J4
    have hmf : mF id df dn u (kd, key, dm, data) = drawF df dn u := by rw [mF, c_52]; rfl
    have hu2 : (bif id then u + 1 else u) = u + 1 := by rw [c_52]; rfl
    have hse : lg.length + 1 = (lg ++ [((kd, key, dm, data), drawF df dn u)]).length := snoc_len.symm
    have h_113 := h_122
    rw [hse] at h_113
    exact ⟨_, _, _, by rw [anD_miss hfd, hmf]; rfl, by rw [anU_miss hfd, anL_miss hfd, hmf, hu2]; exact h_113⟩
  ·refine WP.skip (thn_n (WP.seq (WP.reg ?_)))
   refine qV rfl (R.fieldAddr (off' := 34) rfl underlying39 rfl sizeOf37 rfl rfl) (qV rfl (R.load1 rfl isAgg37 (h_51.ok _ M3) (Sg.t rfl (Sg.t rfl (Sg.t rfl Sg.h)))) ?_)
   have h_123 := h_51.rowNil 5 1
   refine WL.append (km := qn) (xs := []) (ys := data.map vu8) (zs := (([] : List UInt8) ++ data).map vu8) h_123 rfl rfl el37 (ownView (h_123.ok _ M9)) ((len_map hdl).trans (Nat.mul_one _).symm) (one_u8 _) (by simp only [List.map_append, List.map_nil]) (by omega) (by omega) (by omega) (fun _ _ => At.h) rfl (fun a_124 c_125 w_126 h_127 => ?_)
   refine qV rfl (R.fieldAddr (off' := 34) rfl underlying39 rfl sizeOf37 rfl rfl) ?_
   refine WL.store1 h_127 rfl rfl sizeOf37 rfl Y4 (by decide) (Sg.t rfl (Sg.t rfl (Sg.t rfl Sg.h))) (fun w_128 h_129 => ?_)
   refine WL.nil (thn_n (WP.seq ?_))
   refine WP.cutG (G := Nat × Option Addr × Nat) [58, 59, 60, 61, 62, 63, 64, 65, 66, 67, 68, 69] (fun (bY11Y8Y0Y0, aY11Y9Y0Y0, cY11Y9Y0Y0) => [(58, (pO ob 0)), (59, (pO ob 0)), (60, (pO ob 0)), (61, (pO ob 35)), (63, (.agg ⟨flat [(1, [(vi kd)]), (32, key.map vu8), (1, [(vi dm)]), (1, [(.slice a_124 qn c_125)])]⟩)), (64, (.agg ⟨cd.map vu8⟩)), (65, (.agg ⟨flat [(1, [(vi kd)]), (32, key.map vu8), (1, [(vi dm)]), (1, [(.slice a_124 qn c_125)]), (32, cd.map vu8)]⟩)), (62, (.slice la lg.length lc)), (66, (.slice (some ⟨bY11Y8Y0Y0, 0, none⟩) 1 1)), (67, (.slice aY11Y9Y0Y0 (lg.length + 1) cY11Y9Y0Y0)), (68, (pO ob 0)), (69, (pO ob 35))]) (fun (bY11Y8Y0Y0, aY11Y9Y0Y0, cY11Y9Y0Y0) w1 => HP w00 w1 (Ent.blk bY11Y8Y0Y0 .nw 47 [(67, aC (kd, key, dm, data) (.slice a_124 qn c_125) cd)] :: Ent.row a_124 qn c_125 5 1 ((([] : List UInt8) ++ data).map vu8) :: Ent.blk b_47 .nw 29 [(32, cd.map vu8)] :: Ent.blk b_7 .nw 29 [(32, (zB 32).map vu8)] :: Ent.blk b_4 .nw 29 [(32, cd.map vu8)] :: Ent.blk b_1 .nw 39 [(1, [(vi kd)]), (32, key.map vu8), (1, [(vi dm)]), (1, [(.slice a_124 qn c_125)])] :: Ent.blk ob .nw 33 [(1, [(.bool id)]), (32, ms.map vu8), (1, [(.slice da dn dc)]), (1, [(vn u)]), (1, [(.slice aY11Y9Y0Y0 (lg.length + 1) cY11Y9Y0Y0)])] :: Ent.row aY11Y9Y0Y0 (lg.length + 1) cY11Y9Y0Y0 47 67 (lx ++ aC (kd, key, dm, data) (.slice a_124 qn c_125) cd) :: Ent.pin (sblks lx) (fun w => Lgs w lx lg) :: Ent.view da (df.map vu8) :: Ent.row qa qn qc 5 1 (data.map vu8) :: L)) ?_ ?_
   ·refine WP.drawT (SL w00.heap.size [.row a_124 qn c_125 5 1 ((([] : List UInt8) ++ data).map vu8), .blk b_47 .nw 29 [(32, cd.map vu8)], .blk b_7 .nw 29 [(32, (zB 32).map vu8)], .blk b_4 .nw 29 [(32, cd.map vu8)], .blk b_1 .nw 39 [(1, [(vi kd)]), (32, key.map vu8), (1, [(vi dm)]), (1, [(.slice a_124 qn c_125)])], .pin (sblks lx) (fun w => Lgs w lx lg), .view da (df.map vu8), .row qa qn qc 5 1 (data.map vu8)]) (.q 0 (.q 1 (.q 2 (.q 3 (.q 5 (.q 6 (.q 7 (.s2 4 8 (.s 8 (.s 9 (.q 10 (.q 11 (.s 12 .nil))))) (.s 4 (.s 9 (.q 10 (.q 11 (.s 12 .nil))))))))))))) (by kernel_rfl) (by kernel_rfl) rfl (by kernel_rfl) (fun w_130 hc_132 => (SL.cons ((h_129.same hc_132).ok _ M0) (SL.cons ((h_129.same hc_132).ok _ M1) (SL.cons ((h_129.same hc_132).ok _ M2) (SL.cons ((h_129.same hc_132).ok _ M3) (SL.cons ((h_129.same hc_132).ok _ M4) (SL.cons ((h_129.same hc_132).ok _ M7) (SL.cons ((h_129.same hc_132).ok _ M8) (SL.cons ((h_129.same hc_132).ok _ M9) (SL.nil _ _)))))))))) (fun w_130 hc_132 => ?_)
    have h_131 := h_129.same hc_132
    refine qT rfl rfl (fun wq hS => R.move (v := (pO ob 0)) rfl) ?_
    refine qT rfl rfl (fun wq hS => R.move (v := (pO ob 0)) rfl) ?_
    refine qT rfl rfl (fun wq hS => R.nilCheck rfl) ?_
    refine qT rfl rfl (fun wq hS => R.fieldAddr (off' := 35) rfl underlying33 rfl sizeOf31 rfl rfl) ?_
    refine qT rfl rfl (fun wq hS => R.loadA [] [(1, [(vi kd)]), (32, key.map vu8), (1, [(vi dm)]), (1, [(.slice a_124 qn c_125)])] [] rfl isAgg39 sizeOf39 (hS _ M4) rfl rfl rfl rfl) ?_
    refine qT rfl rfl (fun wq hS => R.loadA [] [(32, cd.map vu8)] [] (cs := cd.map vu8) rfl isAgg29 sizeOf29 (hS _ M1) rfl rfl rfl rfl) ?_
    refine qT rfl rfl (fun wq hS => R.buildS (pl := [(0, 35), (35, 32)]) (zs := [(1, [(vi 0)]), (32, (zB 32).map vu8), (1, [(vi 0)]), (1, [(.slice none 0 0)]), (32, (zB 32).map vu8)]) (vs := [(0, (.agg ⟨flat [(1, [(vi kd)]), (32, key.map vu8), (1, [(vi dm)]), (1, [(.slice a_124 qn c_125)])]⟩)), (1, (.agg ⟨cd.map vu8⟩))]) (out := [(1, [(vi kd)]), (32, key.map vu8), (1, [(vi dm)]), (1, [(.slice a_124 qn c_125)]), (32, cd.map vu8)]) underlying47 (zv typeInfo47 rfl) rfl (sC sV (sC (s8 lr) (sC sV (sC sV (sC (s8 lr) sN))))) (pl47 _ underlying47) rfl (FillR.cons [] [(1, [(vi 0)]), (32, (zB 32).map vu8), (1, [(vi 0)]), (1, [(.slice none 0 0)])] [(1, [(vi kd)]), (32, key.map vu8), (1, [(vi dm)]), (1, [(.slice a_124 qn c_125)])] [(32, (zB 32).map vu8)] rfl rfl rfl rfl (sC sV (sC (s8 hq.1) (sC sV (sC sV sN)))) rfl rfl rfl (FillR.cons [(1, [(vi kd)]), (32, key.map vu8), (1, [(vi dm)]), (1, [(.slice a_124 qn c_125)])] [(32, (zB 32).map vu8)] [(32, cd.map vu8)] [] rfl rfl rfl rfl (sC (s8 hcdl) sN) rfl rfl rfl FillR.nil)) rfl) ?_
    refine WT.s2 ?_ ?_
    ·refine oN rfl ?_
     refine qV rfl (R.load1 rfl isAgg31 (h_131.ok _ M5) (Sg.t rfl (Sg.t rfl (Sg.t rfl (Sg.t rfl Sg.h))))) ?_
     refine WL.nil ?_
     refine ⟨(N0_1_2_3_4_7_8_9 h_131.ok), ?_⟩
     refine WT.s (oN rfl ?_)
     refine WL.buildSl (vs := [(0, (.agg ⟨flat [(1, [(vi kd)]), (32, key.map vu8), (1, [(vi dm)]), (1, [(.slice a_124 qn c_125)]), (32, cd.map vu8)]⟩))]) (cs := aC (kd, key, dm, data) (.slice a_124 qn c_125) cd) h_131 underlying31 sizeOf47 (zv typeInfo47 rfl) rfl rfl (fill_1 (zc := flat [(1, [vi 0]), (32, List.replicate 32 (vu8 0)), (1, [vi 0]), (1, [.slice none 0 0]), (32, List.replicate 32 (vu8 0))]) (by kernel_rfl) (sC (s := (67, flat [(1, [vi 0]), (32, List.replicate 32 (vu8 0)), (1, [vi 0]), (1, [.slice none 0 0]), (32, List.replicate 32 (vu8 0))])) ⟨by decide, SsOk.one (sC sV (sC (SOk.rep rfl) (sC sV (sC sV (sC (SOk.rep rfl) sN)))))⟩ sN) (aC_ok (q := (kd, key, dm, data)) (s := (.slice a_124 qn c_125)) (d := cd) hq.1 hcdl rfl)) ((aC_ok (q := (kd, key, dm, data)) (s := (.slice a_124 qn c_125)) (d := cd) hq.1 hcdl rfl)).head.len ((aC_ok (q := (kd, key, dm, data)) (s := (.slice a_124 qn c_125)) (d := cd) hq.1 hcdl rfl)).head.one rfl rfl (fun b_134 w_135 h_136 => ?_)
     refine WL.nil ?_
     refine ⟨(N1_2_3_4_5_8_9_10 h_136.ok), ?_⟩
     refine WT.s (oN rfl ?_)
     refine WL.append (km := lg.length + 1) (xs := lx) (ys := aC (kd, key, dm, data) (.slice a_124 qn c_125) cd) (zs := lx ++ aC (kd, key, dm, data) (.slice a_124 qn c_125) cd) h_136 rfl rfl el31 (viewB (h_136.ok _ M0) Sg.h) ((aC_ok (q := (kd, key, dm, data)) (s := (.slice a_124 qn c_125)) (d := cd) hq.1 hcdl rfl)).head.len ((aC_ok (q := (kd, key, dm, data)) (s := (.slice a_124 qn c_125)) (d := cd) hq.1 hcdl rfl)).head.one rfl (by omega) (by omega) (by omega) (fun _ _ => Y7) rfl (fun a_137 c_138 w_139 h_140 => ?_)
     refine WL.nil ?_
     refine ⟨(N1_2_3_4_5_8_9_10 h_140.ok), ?_⟩
     refine qT rfl rfl (fun wq hS => R.nilCheck rfl) ?_
     refine qT rfl rfl (fun wq hS => R.fieldAddr (off' := 35) rfl underlying33 rfl sizeOf31 rfl rfl) ?_
     refine WT.s (oN rfl ?_)
     refine WL.store1 h_140 rfl rfl sizeOf31 rfl Y6 (by decide) (Sg.t rfl (Sg.t rfl (Sg.t rfl (Sg.t rfl Sg.h)))) (fun w_141 h_142 => ?_)
     refine WL.nil ?_
     refine ⟨(N1_2_3_4_5_8_9_10 h_142.ok), ?_⟩
     refine WT.nil (thn_n ?_)
     exact ⟨(b_134, a_137, c_138), (U4 rfl rfl rfl rfl (U4 rfl rfl rfl rfl (U4 rfl rfl rfl rfl (Ag.refl _ _)))), ⟨rfl, rfl, rfl, rfl, rfl, rfl, rfl, rfl, rfl, rfl, rfl, rfl, trivial⟩, h_142⟩
    ·refine oN rfl ?_
     refine WL.buildSl (vs := [(0, (.agg ⟨flat [(1, [(vi kd)]), (32, key.map vu8), (1, [(vi dm)]), (1, [(.slice a_124 qn c_125)]), (32, cd.map vu8)]⟩))]) (cs := aC (kd, key, dm, data) (.slice a_124 qn c_125) cd) h_131 underlying31 sizeOf47 (zv typeInfo47 rfl) rfl rfl (fill_1 (zc := flat [(1, [vi 0]), (32, List.replicate 32 (vu8 0)), (1, [vi 0]), (1, [.slice none 0 0]), (32, List.replicate 32 (vu8 0))]) (by kernel_rfl) (sC (s := (67, flat [(1, [vi 0]), (32, List.replicate 32 (vu8 0)), (1, [vi 0]), (1, [.slice none 0 0]), (32, List.replicate 32 (vu8 0))])) ⟨by decide, SsOk.one (sC sV (sC (SOk.rep rfl) (sC sV (sC sV (sC (SOk.rep rfl) sN)))))⟩ sN) (aC_ok (q := (kd, key, dm, data)) (s := (.slice a_124 qn c_125)) (d := cd) hq.1 hcdl rfl)) ((aC_ok (q := (kd, key, dm, data)) (s := (.slice a_124 qn c_125)) (d := cd) hq.1 hcdl rfl)).head.len ((aC_ok (q := (kd, key, dm, data)) (s := (.slice a_124 qn c_125)) (d := cd) hq.1 hcdl rfl)).head.one rfl rfl (fun b_143 w_144 h_145 => ?_)
     refine WL.nil ?_
     refine ⟨(N1_2_3_4_5_8_9_10 h_145.ok), ?_⟩
     refine WT.s (oN rfl ?_)
     refine qV rfl (R.load1 rfl isAgg31 (h_145.ok _ M6) (Sg.t rfl (Sg.t rfl (Sg.t rfl (Sg.t rfl Sg.h))))) ?_
     refine WL.nil ?_
     refine ⟨(N1_2_3_4_5_8_9_10 h_145.ok), ?_⟩
     refine WT.s (oN rfl ?_)
     refine WL.append (km := lg.length + 1) (xs := lx) (ys := aC (kd, key, dm, data) (.slice a_124 qn c_125) cd) (zs := lx ++ aC (kd, key, dm, data) (.slice a_124 qn c_125) cd) h_145 rfl rfl el31 (viewB (h_145.ok _ M0) Sg.h) ((aC_ok (q := (kd, key, dm, data)) (s := (.slice a_124 qn c_125)) (d := cd) hq.1 hcdl rfl)).head.len ((aC_ok (q := (kd, key, dm, data)) (s := (.slice a_124 qn c_125)) (d := cd) hq.1 hcdl rfl)).head.one rfl (by omega) (by omega) (by omega) (fun _ _ => Y7) rfl (fun a_146 c_147 w_148 h_149 => ?_)
     refine WL.nil ?_
     refine ⟨(N1_2_3_4_5_8_9_10 h_149.ok), ?_⟩
     refine qT rfl rfl (fun wq hS => R.nilCheck rfl) ?_
     refine qT rfl rfl (fun wq hS => R.fieldAddr (off' := 35) rfl underlying33 rfl sizeOf31 rfl rfl) ?_
     refine WT.s (oN rfl ?_)
     refine WL.store1 h_149 rfl rfl sizeOf31 rfl Y6 (by decide) (Sg.t rfl (Sg.t rfl (Sg.t rfl (Sg.t rfl Sg.h)))) (fun w_150 h_151 => ?_)
     refine WL.nil ?_
     refine ⟨(N1_2_3_4_5_8_9_10 h_151.ok), ?_⟩
     refine WT.nil (thn_n ?_)
     exact ⟨(b_143, a_146, c_147), (U4 rfl rfl rfl rfl (U4 rfl rfl rfl rfl (U4 rfl rfl rfl rfl (Ag.refl _ _)))), ⟨rfl, rfl, rfl, rfl, rfl, rfl, rfl, rfl, rfl, rfl, rfl, rfl, trivial⟩, h_151⟩
   ·rintro ⟨b_155, a_156, c_157⟩ J_152 w_153 h_154
    refine thn_n (WP.seq (WP.reg ?_))
    refine qV rfl (R.loadA [] [(32, cd.map vu8)] [] (cs := cd.map vu8) rfl isAgg29 sizeOf29 (h_154.ok _ M2) rfl rfl rfl rfl) ?_
    refine WL.storeA [] [(32, (zB 32).map vu8)] [(32, cd.map vu8)] [] h_154 rfl rfl sizeOf29 Y3 (by decide) rfl rfl rfl rfl rfl rfl (sC (s8 hcdl) sN) (fun w_158 h_159 => ?_)
    refine WL.nil (thn_n (WP.ret ?_))
    refine ret_of results43 (RV.cell rfl (h_159.loadA (cs := cd.map vu8) isAgg29 sizeOf29 M3 rfl rfl) RV.nil) ?_
    have h_174 := ((((((((((((((h_159.drop rfl).up J1).drop rfl).up J1).drop rfl).up J1).drop rfl).up J1).drop rfl).up J5).up J5).up J4).up J4).up J5).up J5
    have h_175 := HP_logPush (q := (kd, key, dm, data)) (d := cd) h_174 hq hcdl (lenApp (a := 0) (b := qn) (rfl : List.length ([] : List UInt8) = 0) hdl (by omega) : List.length (([] : List UInt8) ++ data) = qn)
    have h_185 := ((((((((h_175.up J1).drop rfl).up J1).drop rfl).up J4).up J4).up J2).up J4).up J4
    have hmf : mF id df dn u (kd, key, dm, data) = cd := by rw [mF, c_52]; exact (hcd c_52).symm
    have hu2 : (bif id then u + 1 else u) = u := by rw [c_52]; rfl
    have hse : lg.length + 1 = (lg ++ [((kd, key, dm, data), cd)]).length := snoc_len.symm
    have h_176 := h_185
    rw [hse] at h_176
    exact ⟨_, _, _, by rw [anD_miss hfd, hmf]; rfl, by rw [anU_miss hfd, anL_miss hfd, hmf, hu2]; exact h_176⟩

end Go.Proofs.YtajiipjmmoehcaaGreat

namespace Go.Proofs.YtajiipjmmoehcaaGreat
open Go.Proofs.Tryz
open Go.Vc Go.Orc Go.Sh Go.RowKit
set_option maxRecDepth 20000

theorem c_CloneA (a : Option Addr) (n cap : Nat) (xs : List Value) (lg : Lg) (hn : lg.length = n) (hlg : n ≤ 1000000) (w : World) (hv : View w a xs) (hp : Lgs w xs lg) :
  Cs Tryz.prog 26 [(.slice a n cap)].toArray w (fun v w1 => ∃ a cap, v = .slice a n cap ∧ Chg w w1 [] ∧ Own w.heap.size w1 47 67 a n cap xs) := by
 refine Cs.of (n := 8) (args := [(.slice a n cap)]) Tryz.func26 rfl rfl rfl ?_
 have h_0 := HP.init w
 have h_01 := h_0.oldV (View.arg hv) rfl (by simp [Ent.mut])
 have h_00 := h_01.oldV (Lgs.pin hp) rfl (by simp [Ent.mut])
 refine WP.seq (WP.reg ?_)
 refine qA (.slice none 0 0) rfl rfl ?_
 refine WL.nil (thn_n (WP.seq (WP.seq (WP.reg ?_))))
 refine qM (.slice a n cap) rfl rfl (qV rfl (R.eqNilS rfl rfl underlying31) ?_)
 refine WL.nil (thn_n ?_)
 refine WP.cond (b := a.isNone) rfl (fun c_1 => ?_) (fun c_1 => ?_)
 ·refine WP.seq (WP.reg ?_)
  refine qA (.slice none 0 0) rfl rfl ?_
  refine WL.nil (thn_n (WP.ret (thn_r ?_)))
  refine ret_of results26 (RV.tmp (v := (.slice none 0 0)) rfl RV.nil) ?_
  obtain rfl : xs = [] := view_noneV c_1 hv
  obtain rfl : n = 0 := by have := Lgs.len hp; simp at this; omega
  exact ⟨none, 0, rfl, h_00.chgS, Own.nil ..⟩
 ·refine WP.skip (thn_n (WP.seq (WP.reg ?_)))
  refine WL.buildSl0 h_00 underlying31 sizeOf47 rfl (fun b_2 w_3 h_4 => ?_)
  refine qM (.slice a n cap) rfl rfl ?_
  refine WL.append (km := n) (xs := []) (ys := xs) (zs := xs) h_4 rfl rfl el31 (viewV (h_4.ok _ M2)) (by rw [Lgs.len hp, hn]) (Lgs.one hp) rfl (by omega) (by omega) (by omega) (fun _ _ => At.h) rfl (fun a_5 c_6 w_7 h_8 => ?_)
  refine qA (.slice a_5 n c_6) rfl rfl ?_
  refine WL.nil (thn_n (WP.ret ?_))
  refine ret_of results26 (RV.tmp (v := (.slice a_5 n c_6)) rfl RV.nil) ?_
  exact ⟨_, _, rfl, h_8.chgS, h_8.ok _ M0⟩

theorem c_oLog {w00 : World} {L : List Ent} (id : Bool) (ob mp : Nat) (ms df : List UInt8) (hms : ms.length = 32) (da : Option Addr) (dn dc u : Nat) (hdf : df.length = 32 * dn) (la : Option Addr) (lc : Nat) (lx : List Value) (lg : Lg) (hu : u ≤ 1000000) (hlg : lg.length ≤ 1000000) (w : World) (h_0 : HP w00 w (Ent.blk ob .nw 66 [(1, [(.bool id)]), (32, ms.map vu8), (1, [(.slice da dn dc)]), (1, [(vi ((u : Nat) : Int))]), (1, [(.map (some mp))]), (1, [(.slice la lg.length lc)])] :: Ent.row la lg.length lc 47 67 lx :: Ent.obj mp .nw (.map (mArr lg) lg.length) :: Ent.pin (sblks lx) (fun w => Lgs w lx lg) :: Ent.view da (df.map vu8) :: L)) :
  Cs Tryz.prog 10 [(.pointer (some ⟨ob, 0, none⟩))].toArray w (fun v w1 => ∃ a cap ys, v = .slice a lg.length cap ∧ HP w00 w1 (.row a lg.length cap 47 67 ys :: .pin (sblks ys) (fun w => Lgs w ys lg) :: Ent.blk ob .nw 66 [(1, [(.bool id)]), (32, ms.map vu8), (1, [(.slice da dn dc)]), (1, [(vi ((u : Nat) : Int))]), (1, [(.map (some mp))]), (1, [(.slice la lg.length lc)])] :: Ent.row la lg.length lc 47 67 lx :: Ent.obj mp .nw (.map (mArr lg) lg.length) :: Ent.pin (sblks lx) (fun w => Lgs w lx lg) :: Ent.view da (df.map vu8) :: L)) := by
 refine Cs.of (n := 32) (args := [(pO ob 0)]) Tryz.func10 rfl rfl rfl ?_
 refine WP.seq (WP.reg ?_)
 refine qA (.slice none 0 0) rfl rfl ?_
 refine WL.nil (thn_n (WP.seq (WP.seq (WP.reg ?_))))
 refine qM (pO ob 0) rfl rfl ?_
 refine WL.call Tryz.call25 rfl rfl (c_othere id ob mp ms hms da dn dc u la lg.length lc _ (h_0.argR M0)) rfl ?_
 rintro _ w_2 ⟨rfl, hc_1⟩
 have h_3 := h_0.same hc_1
 refine qV rfl (R.not (b := true) rfl) ?_
 refine WL.nil (thn_n ?_)
 refine WP.condF rfl ?_
 refine WP.skip (thn_n (WP.seq (WP.reg ?_)))
 refine qM (pO ob 0) rfl rfl (qV rfl (R.nilCheck rfl) (qV rfl (R.fieldAddr (off' := 36) rfl underlying66 rfl sizeOf31 rfl rfl) (qV rfl (R.load1 rfl isAgg31 (h_3.ok _ M0) (Sg.t rfl (Sg.t rfl (Sg.t rfl (Sg.t rfl (Sg.t rfl Sg.h)))))) ?_)))
 refine WL.call Tryz.call26 rfl rfl (c_CloneA la lg.length lc lx lg rfl (by omega) _ (ownView (h_3.ok _ M1)) (h_3.ok _ M3).1) rfl ?_
 rintro _ w_6 ⟨a_4, cap_5, rfl, hc_7, ho_8⟩
 have h_9 := h_3.gotRow hc_7 ho_8
 refine qA (.slice a_4 lg.length cap_5) rfl rfl ?_
 refine WL.nil (thn_n (WP.seq (WP.seq (WP.reg ?_))))
 refine qM (.slice a_4 lg.length cap_5) rfl rfl (qV rfl (R.lenS (a := a_4) (m := lg.length) rfl rfl underlying31) (qM (vi 0) rfl rfl ?_))
 refine WL.nil (thn_n (WP.block ?_))
 have h_10 := h_9.within M4 rfl (h_9.ok _ M4) rfl rfl (fun b hb => hb)
 have h_17 := ((((((h_10.up J6).up J6).up J6).up J6).up J6).up J5).up J6
 refine WP.loopG (G := Nat × List Value) [4, 15, 16, 17, 18, 19, 20, 21, 22, 23, 24, 25, 26, 27, 28, 29, 30] (fun (k, ys) => [(15, (vn k))]) (fun (k, ys) m w1 => HP w00 w1 (Ent.row a_4 lg.length cap_5 47 67 ys :: Ent.pin (sblks ys) (fun w => Lgs w ys lg) :: Ent.blk ob .nw 66 [(1, [(.bool id)]), (32, ms.map vu8), (1, [(.slice da dn dc)]), (1, [(vn u)]), (1, [(.map (some mp))]), (1, [(.slice la lg.length lc)])] :: Ent.row la lg.length lc 47 67 lx :: Ent.obj mp .nw (.map (mArr lg) lg.length) :: Ent.pin (sblks lx) (fun w => Lgs w lx lg) :: Ent.view da (df.map vu8) :: L) ∧ (k ≤ lg.length) ∧ m = lg.length + 1 - k) ⟨(0, lx), _, ⟨rfl, trivial⟩, h_17, Nat.zero_le _, rfl⟩ ?_
 rintro ⟨k, ys⟩ m_20 J_21 w_18 ⟨h_19, hk, rfl⟩
 refine WP.seq (WP.reg ?_)
 refine qV rfl (R.bin rfl rfl (bi_lss (r := decide ((((k : Nat) : Int) : Int) < ((lg.length : Nat) : Int))) rfl)) ?_
 refine WL.nil (thn_n (WP.seq ?_))
 refine WP.cond (b := decide ((((k : Nat) : Int) : Int) < ((lg.length : Nat) : Int))) rfl (fun c_22 => ?_) (fun c_22 => ?_)
 ·have p_23 := of_decide_eq_true c_22
  refine WP.skip (thn_n (WP.seq (WP.block (WP.seq (WP.reg ?_)))))
  refine qM (vn k) rfl rfl (qA (vn k) rfl rfl ?_)
  refine WL.nil (thn_n ?_)
  have hkl : k < lg.length := by omega
  have hyl := Lgs.len (h_19.ok _ M1).1
  obtain ⟨ka, kn, kc, khx, khq, khn, khc, khv, khb⟩ := Lgs.qget (i := k) (z := ((0, [], 0, []), [])) (h_19.ok _ M1).1 hkl
  have kbd : kn ≤ 1000000000 := by have hq4 := khq.2.2.2; rw [khn] at hq4; exact hq4
  have h_24 := h_19.within (e' := .view ka ((lg.getD k ((0, [], 0, []), [])).1.2.2.2.map vu8)) M1 rfl (View.arg khv) rfl rfl (fun b hb_ => khb _ (view_sblk khn b hb_))
  refine WP.reg ?_
  refine qM (.slice a_4 lg.length cap_5) rfl rfl (qM (vn k) rfl rfl (qM (.slice a_4 lg.length cap_5) rfl rfl (qM (vn k) rfl rfl (qV rfl (R.indexS (a := a_4) (i := k) (off := k * 67) (xs := ys) rfl rfl rfl (by omega) (ownView (h_24.ok _ M1)) (by rw [hyl]; omega) underlying31 sizeOf47 rfl) (qV rfl (R.fieldG (a := a_4) (i := k * 67) (off' := k * 67) rfl underlying47 rfl sizeOf39 rfl rfl) (qV rfl (R.fieldG (a := a_4) (i := k * 67) (off' := k * 67 + 34) rfl underlying39 rfl sizeOf37 rfl rfl) (qV rfl (R.loadG rfl (ownView (h_24.ok _ M1)) isAgg37 (q34 khq.1 khx)) ?_)))))))
  refine WL.call Tryz.call27 rfl rfl (c_Clone ka kn kc ((lg.getD k ((0, [], 0, []), [])).1.2.2.2) khn (by omega) _ (viewV (h_24.ok _ M0))) rfl ?_
  rintro _ w_27 ⟨a_25, cap_26, rfl, hc_28, ho_29⟩
  have h_30 := h_24.gotRow hc_28 ho_29
  refine qV rfl (R.indexS (a := a_4) (i := k) (off := k * 67) (xs := ys) rfl rfl rfl (by omega) (ownView (h_30.ok _ M2)) (by rw [hyl]; omega) underlying31 sizeOf47 rfl) (qV rfl (R.fieldG (a := a_4) (i := k * 67) (off' := k * 67) rfl underlying47 rfl sizeOf39 rfl rfl) (qV rfl (R.fieldG (a := a_4) (i := k * 67) (off' := k * 67 + 34) rfl underlying39 rfl sizeOf37 rfl rfl) ?_))
  refine WL.storeR (a := a_4) (i := k * 67 + 34) (v := (.slice a_25 kn cap_26)) (xs' := ys.set (k * 67 + 34) (.slice a_25 kn cap_26)) h_30 rfl rfl sizeOf37 rfl Y2 (by rw [hyl]; omega) rfl (fun w_31 h_32 => ?_)
  refine WL.nil (inb_n (thn_n (WP.reg ?_)))
  refine qV rfl (R.bin rfl rfl (bi_add (c := ((k + 1 : Nat) : Int)) (by omega) (by omega))) (qM (vn (k + 1)) rfl rfl ?_)
  refine WL.nil (thn_n ?_)
  have h_42 := (((((((((h_32.up J1).drop rfl).up J7).up J7).up J7).up J7).up J7).up J6).up J7).up J7
  have h_43 := HP_logSet (z := ((0, [], 0, []), [])) h_42 hkl khn
  have h_54 := ((((((((((h_43.up J1).drop rfl).up J1).drop rfl).up J6).up J6).up J6).up J6).up J6).up J5).up J6
  exact ⟨(k + 1, _), _, (by omega), (Ag.upd rfl (U4 rfl rfl rfl rfl (U4 rfl rfl rfl rfl (U4 rfl rfl rfl rfl (U4 rfl rfl rfl rfl (Ag.updL rfl (Ag.mix _ _ _))))))), ⟨rfl, trivial⟩, h_54, (by omega), rfl⟩
 ·have p_55 := of_decide_eq_false c_22
  refine WP.exit (thn_x (thn_x (inb_hit (thn_n (WP.seq (WP.reg ?_))))))
  refine qM (.slice a_4 lg.length cap_5) rfl rfl (qA (.slice a_4 lg.length cap_5) rfl rfl ?_)
  refine WL.nil (thn_n (WP.ret ?_))
  refine ret_of results10 (RV.tmp (v := (.slice a_4 lg.length cap_5)) rfl RV.nil) ?_
  have h_62 := ((((((h_19.up J6).up J6).up J6).up J6).up J6).up J6).up J6
  exact ⟨_, _, _, rfl, h_62⟩

end Go.Proofs.YtajiipjmmoehcaaGreat

namespace Go.Vc
open Go.RowKit Go.ChangeShapes Go.WideShapes Go.ChangeAt
section
variable {P : Program} {w : World} {t : TypeId} {cs : List Value}
theorem Tr.slG {e : TypeId} {s : Nat} (hu : P.underlying t = some (.slice e)) (hce : P.cellsOf e = s) (hs : 1 ≤ s) (h : Tr P w t cs) :
    ∃ a n cap, ∃ els : List (List Value), cs = [.slice a n cap] ∧ els.length = n ∧ n ≤ cap ∧ cap ≤ maxLen ∧ (∀ y ∈ els, y.length = s ∧ Tr P w e y) ∧ (Ent.view a els.flatten).ok w.heap.size w := by
  rcases Tr.nilOrSlice hu h with rfl | ⟨a, len, cap, rfl, h1, h2, h3⟩
  · exact ⟨none, 0, 0, [], rfl, rfl, Nat.le_refl _, by simp [maxLen], (by intro y hy; cases hy), ⟨View.nil _ _, fun ad h => by cases h⟩⟩
  · have key : ∀ k, k ≤ len → ∃ els : List (List Value), els.length = k ∧ els.flatten.length = s * k ∧ (∀ y ∈ els, y.length = s ∧ Tr P w e y) ∧ View w (some a) els.flatten := by
      intro k
      induction k with
      | zero => intro _; exact ⟨[], rfl, rfl, (by intro y hy; cases hy), View.nil _ _⟩
      | succ k ih =>
        intro hk
        obtain ⟨els, hl, hf, he, hv⟩ := ih (by omega)
        obtain ⟨ys, hys, ht⟩ := h3 k (by omega)
        rw [hce] at hys
        obtain ⟨hyl, hyc⟩ := cells?_all hys
        refine ⟨els ++ [ys], by simp [hl], by simp [hf, hyl, Nat.mul_succ], fun y hy => ?_, fun i v hv' => ?_⟩
        · rcases List.mem_append.1 hy with hy | hy
          · exact he y hy
          · rw [List.mem_singleton] at hy; subst hy; exact ⟨hyl, ht⟩
        · rw [List.flatten_append] at hv'
          by_cases hi : i < els.flatten.length
          · refine hv i v ?_
            rw [List.getElem?_append_left hi] at hv'
            exact hv'
          · rw [List.getElem?_append_right (by omega)] at hv'
            have h4 := hyc (i - els.flatten.length) v (by rw [List.flatten_cons, List.flatten_nil, List.append_nil] at hv'; exact hv')
            rw [add_add, hf, Nat.mul_comm k, show s * k + (i - s * k) = i by omega] at h4
            exact ⟨a, rfl, h4⟩
    obtain ⟨els, hl, hf, he, hv⟩ := key len (Nat.le_refl _)
    refine ⟨some a, len, cap, els, rfl, hl, h1, h2, he, ⟨hv, fun ad ha hne => ?_⟩⟩
    cases ha
    cases hx : els.flatten with
    | nil => rw [hx] at hne; simp at hne
    | cons x l =>
      obtain ⟨ad', e, hc⟩ := hv 0 x (by rw [hx]; rfl)
      cases e
      have := block_lt_of_cell hc
      rwa [Addr.add_block] at this
end
theorem els_of {α : Type} {f : α → List Value} {p : α → Prop} : ∀ {els : List (List Value)}, (∀ y ∈ els, ∃ r, y = f r ∧ p r) → ∃ rs : List α, els = rs.map f ∧ ∀ r ∈ rs, p r
  | [], _ => ⟨[], rfl, fun r h => by cases h⟩
  | y :: els, h => by
    obtain ⟨r, hr, hp⟩ := h y (List.mem_cons_self ..)
    obtain ⟨rs, hrs, hps⟩ := els_of (els := els) fun z hz => h z (List.mem_cons_of_mem _ hz)
    refine ⟨r :: rs, by rw [hr, hrs]; rfl, fun q hq => ?_⟩
    rcases List.mem_cons.1 hq with rfl | hq
    · exact hp
    · exact hps q hq
theorem flat_len {α : Type} {f : α → List Value} {s : Nat} : ∀ {rs : List α}, (∀ r ∈ rs, (f r).length = s) → (rs.map f).flatten.length = rs.length * s
  | [], _ => by simp
  | r :: rs, h => by
    rw [List.map_cons, List.flatten_cons, List.length_append, flat_len fun q hq => h q (List.mem_cons_of_mem _ hq), h r (List.mem_cons_self ..), List.length_cons, Nat.succ_mul]; omega
theorem flat_at {α : Type} {f : α → List Value} {s : Nat} {z : α} : ∀ {rs : List α} {k : Nat}, (∀ r ∈ rs, (f r).length = s) → k < rs.length → ((rs.map f).flatten.drop (k * s)).take s = f (rs.getD k z)
  | r :: rs, 0, h, _ => by
    have := h r (List.mem_cons_self ..)
    rw [Nat.zero_mul, List.drop_zero, List.map_cons, List.flatten_cons, List.take_append_of_le_length (by omega), List.take_of_length_le (by omega)]; rfl
  | r :: rs, k + 1, h, hk => by
    have h1 := h r (List.mem_cons_self ..)
    have h2 := flat_at (z := z) (rs := rs) (k := k) (fun q hq => h q (List.mem_cons_of_mem _ hq)) (by simpa using hk)
    rw [List.map_cons, List.flatten_cons, show (k + 1) * s = (f r).length + k * s by rw [h1, Nat.succ_mul]; omega, ← List.drop_drop, List.drop_left]
    simpa using h2
theorem getD_mem {α : Type} {z : α} {rs : List α} {k : Nat} (h : k < rs.length) : rs.getD k z ∈ rs := by
  have e : rs.getD k z = rs[k] := by simp [h]
  rw [e]; exact List.getElem_mem h
end Go.Vc

namespace Go.Orc
open Go.Vc Go.RowKit
def dr (df : List UInt8) (i : Nat) : List UInt8 := (df.drop (i * 32)).take 32
def Unl (df : List UInt8) (n : Nat) (d : List UInt8) : Prop := (∀ i, i < n → (∀ k, k < i → dr df k ≠ dr df i) ∧ df.getD (i * 32 + 31) 0 ≠ 1 ∧ dr df i ≠ d) ∧ d.getD 31 0 ≠ 1
def Apt (df : List UInt8) (n : Nat) : Prop := ∀ i, i < n → (∀ k, k < i → dr df k ≠ dr df i) ∧ df.getD (i * 32 + 31) 0 ≠ 1
section
variable {df : List UInt8} {n : Nat} {d : List UInt8}
def DL (df : List UInt8) (n u : Nat) (l : Lg) : Prop := u = l.length ∧ ∀ i, i < l.length → (l.getD i ((0, [], 0, []), [])).2 = drawF df n i
theorem DL.nil : DL df n 0 [] := ⟨rfl, fun i h => by simp at h⟩
theorem DL.an {u : Nat} {l : Lg} {q : Qn} (h : DL df n u l) : DL df n (anU true u l q) (anL true df n u l q) := by
  cases hf : fdq q l 0 with
  | some i => rw [anU_hit hf, anL_hit hf]; exact h
  | none =>
    rw [anU_miss hf, anL_miss hf]
    refine ⟨by rw [snoc_len]; exact congrArg (· + 1) h.1, fun i hi => ?_⟩
    rw [snoc_len] at hi
    by_cases e : i < l.length
    · have := h.2 i e
      simpa [List.getD_eq_getElem?_getD, List.getElem?_append_left, e] using this
    · have e2 : i = l.length := by omega
      subst e2
      have : (l ++ [(q, mF true df n u q)]).getD l.length ((0, [], 0, []), []) = (q, mF true df n u q) := by simp
      rw [this, h.1]; rfl
end
end Go.Orc
namespace Go.Vc
open Go.RowKit
section
variable {P : Program} {F : Fr} {w : World} {ty : TypeId} {pos : String} {after : Array Edge} {dst : Option Tmp} {g : Option (Nat × Bool)}
theorem R.indexG {i j off' len s : Nat} {a : Option Addr} {T E : TypeId} {x y : Operand} {kd : IntKind} {iv : Int} (hx : evO F x = .pointer (some (gA a j))) (hy : evO F y = .int kd iv) (hi : iv = (i : Int)) (hlt : i < len)
    (hT : P.underlying T = some (.array len E)) (hs : ∀ w, (sizeOf E).run P w = .ok s w) (hoff : off' = j + i * s) : (execOp (evO F) ⟨dst, .indexAddr T x y, ty, pos, after, g⟩).run P w = .ok (.value (.pointer (some (gA a off')))) w := by
  subst hi
  have hlt' : (i : Int) < (len : Int) := by omega
  have h0 : (0 : Int) ≤ i := by omega
  simp only [execOp, hx, hy, Instr.indexAt, asIntOf, Sem.run_bind, Sem.run_pure, Result.andThen_ok, run_underlying hT, Instr.sureAddr, h0, hlt', and_self, if_true, hs, Int.toNat_natCast, gA_add, hoff]
end
end Go.Vc
namespace Go.Vc
open Go.RowKit
section
variable {P : Program} {F : Fr} {w : World} {ty : TypeId} {pos : String} {after : Array Edge} {dst : Option Tmp} {g : Option (Nat × Bool)}
end
end Go.Vc

namespace Go.Orc
open Go.Vc Go.RowKit
structure Ae where
  k : Int
  n : Int
  kd : Int
  key : List UInt8
  dm : Int
  data : List UInt8
  a : Option Addr
  c : Nat
def zAe : Ae := ⟨0, 0, 0, [], 0, [], none, 0⟩
def aeC (e : Ae) : List Value := flat [(1, [vi e.k]), (1, [vi e.n]), (1, [vi e.kd]), (32, e.key.map vu8), (1, [vi e.dm]), (1, [.slice e.a e.data.length e.c])]
def bI (x : Int) : Prop := -9223372036854775808 ≤ x ∧ x < 9223372036854775808
def okAe (e : Ae) : Prop := e.key.length = 32 ∧ e.data.length ≤ e.c ∧ e.c ≤ maxLen ∧ bI e.k ∧ bI e.n ∧ bI e.kd ∧ bI e.dm
def aesC (es : List Ae) : List Value := (es.map aeC).flatten
def Aks (w : World) (es : List Ae) : Prop := ∀ e ∈ es, View w e.a (e.data.map vu8)
def akBs (es : List Ae) : List Nat := es.flatMap fun e => (Ent.view e.a (e.data.map vu8)).blocks
theorem Aks.pin {B : Nat} {w : World} {es : List Ae} (h : Aks w es) : (Ent.pin (akBs es) (fun w => Aks w es)).ok B w := by
  refine ⟨h, fun b hb => ?_, fun w' hs e he => ?_⟩
  · obtain ⟨e, he, hb⟩ := List.mem_flatMap.1 hb
    exact Ent.lt (View.arg (h e he)) b hb
  · exact (Ent.ok_same (View.arg (h e he)) fun b hb => hs b (List.mem_flatMap.2 ⟨e, he, hb⟩)).1
theorem aeC_len {e : Ae} (h : okAe e) : (aeC e).length = 37 := by simp [aeC, flat, h.1]
theorem aesC_len {es : List Ae} (h : ∀ e ∈ es, okAe e) : (aesC es).length = es.length * 37 := flat_len fun e he => aeC_len (h e he)
theorem aesC_at {es : List Ae} {k : Nat} (h : ∀ e ∈ es, okAe e) (hk : k < es.length) : ((aesC es).drop (k * 37)).take 37 = aeC (es.getD k zAe) := flat_at (fun e he => aeC_len (h e he)) hk
theorem ae_get {es : List Ae} {k j : Nat} (h : ∀ e ∈ es, okAe e) (hk : k < es.length) (hj : j < 37) : (aesC es)[k * 37 + j]? = (aeC (es.getD k zAe))[j]? := by
  rw [← aesC_at h hk, List.getElem?_take, if_pos hj, List.getElem?_drop]
theorem aeC_e (e : Ae) : aeC e = ([vi e.k, vi e.n, vi e.kd] ++ e.key.map vu8) ++ [vi e.dm, .slice e.a e.data.length e.c] := by simp [aeC, flat]
theorem ae_0 {es : List Ae} {k : Nat} (h : ∀ e ∈ es, okAe e) (hk : k < es.length) : (aesC es)[k * 37]? = some (vi (es.getD k zAe).k) := by
  have e := ae_get (j := 0) h hk (by decide)
  rw [Nat.add_zero] at e
  rw [e, aeC_e]; rfl
theorem ae_1 {es : List Ae} {k : Nat} (h : ∀ e ∈ es, okAe e) (hk : k < es.length) : (aesC es)[k * 37 + 1]? = some (vi (es.getD k zAe).n) := by rw [ae_get (j := 1) h hk (by decide), aeC_e]; rfl
theorem aeC_36 {e : Ae} (h : e.key.length = 32) : (aeC e)[36]? = some (.slice e.a e.data.length e.c) := by
  rw [aeC_e, List.getElem?_append_right (by simp [h])]; simp [h]
theorem ae_36 {es : List Ae} {k : Nat} (h : ∀ e ∈ es, okAe e) (hk : k < es.length) : (aesC es)[k * 37 + 2 + 34]? = some (.slice (es.getD k zAe).a (es.getD k zAe).data.length (es.getD k zAe).c) := by
  have e := ae_get (j := 36) h hk (by decide)
  rw [show k * 37 + 2 + 34 = k * 37 + 36 from rfl, e, aeC_36 (h _ (getD_mem hk)).1]
theorem ae_v {w : World} {es : List Ae} {k : Nat} (h : Aks w es) (hk : k < es.length) : View w (es.getD k zAe).a ((es.getD k zAe).data.map vu8) := h _ (getD_mem hk)
theorem ae_b {es : List Ae} {k : Nat} (hk : k < es.length) : ∀ b ∈ (Ent.view (es.getD k zAe).a ((es.getD k zAe).data.map vu8)).blocks, b ∈ akBs es := fun b hb => List.mem_flatMap.2 ⟨_, getD_mem hk, hb⟩
def mayB (kd dm : Int) (key : List UInt8) : Bool := decide (kd ≥ 1) && (decide (kd ≤ 4) && (decide (dm ≥ 1) && (decide (dm ≤ 16) && (decide (kd ≠ 1) || decide (key = List.replicate 32 0)))))
theorem mayB_t {kd dm : Int} {key : List UInt8} (h : mayB kd dm key = true) : (1 ≤ kd ∧ kd ≤ 4) ∧ (1 ≤ dm ∧ dm ≤ 16) ∧ (kd = 1 → key = List.replicate 32 0) := by
  simp only [mayB, Bool.and_eq_true, Bool.or_eq_true, decide_eq_true_eq] at h
  obtain ⟨h1, h2, h3, h4, h5⟩ := h
  refine ⟨⟨h1, h2⟩, ⟨h3, h4⟩, fun e => ?_⟩
  rcases h5 with h5 | h5
  · exact absurd e h5
  · exact h5
def askB (q : Qn) : Bool := mayB q.1 q.2.2.1 q.2.1 && !decide (q.1 = 4)
def gD (id : Bool) (df : List UInt8) (dn u : Nat) (l : Lg) (q : Qn) : List UInt8 := bif askB q then anD id df dn u l q else List.replicate 32 0
def gE (q : Qn) : Int := bif askB q then 0 else 2
def gU (id : Bool) (u : Nat) (l : Lg) (q : Qn) : Nat := bif askB q then anU id u l q else u
def gL (id : Bool) (df : List UInt8) (dn u : Nat) (l : Lg) (q : Qn) : Lg := bif askB q then anL id df dn u l q else l
section
variable {id : Bool} {df : List UInt8} {dn u : Nat} {l : Lg} {q : Qn}
end
def bqQ (ms : List UInt8) (e : Ae) : Qn := if e.k = 1 then (e.kd, e.key, e.dm, e.data) else (3, ms, e.dm, [e.data].flatten)
def isB (e : Ae) : Prop := e.k = 1 ∨ e.k = 5
instance (e : Ae) : Decidable (isB e) := inferInstanceAs (Decidable (_ ∨ _))
def brS (id : Bool) (df : List UInt8) (dn : Nat) (ms : List UInt8) (es : List Ae) : Nat → Nat × Lg
  | 0 => (0, [])
  | k + 1 => if isB (es.getD k zAe) then (gU id (brS id df dn ms es k).1 (brS id df dn ms es k).2 (bqQ ms (es.getD k zAe)), gL id df dn (brS id df dn ms es k).1 (brS id df dn ms es k).2 (bqQ ms (es.getD k zAe))) else brS id df dn ms es k
section
variable {id : Bool} {df : List UInt8} {dn : Nat} {ms : List UInt8} {es : List Ae}
def ansB (l : Lg) (k : Nat) : List UInt8 := ((l.take k).map (·.2)).flatten
end
end Go.Orc

namespace Go.Orc
open Go.Vc Go.RowKit
def zLg : Qn × List UInt8 := ((0, [], 0, []), [])
def mq (q : Qn) : Prop := q.1 = 1 → q.2.1 = List.replicate 32 0
def GL (lg : Lg) : Prop := ∀ i, i < lg.length → fdq (lg.getD i zLg).1 lg 0 = some i ∧ mq (lg.getD i zLg).1
theorem GL.nil : GL [] := fun i h => by simp at h
section
variable {id : Bool} {df : List UInt8} {dn u : Nat} {lg : Lg} {q : Qn} {d : List UInt8} {i : Nat}
theorem getD_app {x : Qn × List UInt8} {z : Qn × List UInt8} (h : i < lg.length) : (lg ++ [x]).getD i z = lg.getD i z := by
  simp [List.getD_eq_getElem?_getD, h, List.getElem?_append_left]
theorem getD_end {x : Qn × List UInt8} {z : Qn × List UInt8} : (lg ++ [x]).getD lg.length z = x := by simp
theorem GL.an (h : GL lg) (hq : mq q) : GL (anL id df dn u lg q) := by
  cases hf : fdq q lg 0 with
  | some i => rw [anL_hit hf]; exact h
  | none =>
    rw [anL_miss hf]
    intro i hi
    rw [snoc_len] at hi
    by_cases e : i < lg.length
    · rw [getD_app e]
      exact ⟨fdq_app _ (h i e).1, (h i e).2⟩
    · have e2 : i = lg.length := by omega
      subst e2
      rw [getD_end]
      refine ⟨?_, hq⟩
      have := fdq_new (mF id df dn u q) hf
      rwa [Nat.zero_add] at this
def LI (df : List UInt8) (dn u : Nat) (lg : Lg) : Prop := DL df dn u lg ∧ GL lg
theorem LI.nil : LI df dn 0 [] := ⟨DL.nil, GL.nil⟩
theorem LI.an (h : LI df dn u lg) (hq : mq q) : LI df dn (anU true u lg q) (anL true df dn u lg q) := ⟨h.1.an, h.2.an hq⟩
theorem LI.sT {key : List UInt8} {dm : Int} {data : List UInt8} (h : LI df dn u lg) : ∀ k, LI df dn (sT df dn key dm data u lg k).1 (sT df dn key dm data u lg k).2.1
  | 0 => h
  | k + 1 => (LI.sT h k).an fun e => absurd (show (4 : Int) = 1 from e) (by decide)
end
def aq (e : Ae) : Qn := if e.k = 1 then (e.kd, e.key, e.dm, e.data) else if e.k = 3 then (1, List.replicate 32 0, e.dm, e.data) else if e.k = 4 then (2, e.key, e.dm, e.data) else (3, List.replicate 32 0, e.dm, e.data)
def stB (e : Ae) : Bool := mayB e.kd e.dm e.key && (decide (e.kd = 4) && (decide (0 ≤ e.n) && decide (e.n ≤ 1024)))
def isA (e : Ae) : Prop := (e.k = 1 ∨ e.k = 3 ∨ e.k = 4 ∨ e.k = 5) ∧ askB (aq e) = true
instance (e : Ae) : Decidable (isA e) := inferInstanceAs (Decidable (_ ∧ _))
def oneS (df : List UInt8) (dn : Nat) (e : Ae) (u : Nat) (lg : Lg) : Nat × Lg :=
  if isA e then (anU true u lg (aq e), anL true df dn u lg (aq e)) else if e.k = 2 ∧ stB e = true then ((sT df dn e.key e.dm e.data u lg ((e.n.toNat + 31) / 32)).1, (sT df dn e.key e.dm e.data u lg ((e.n.toNat + 31) / 32)).2.1) else (u, lg)
section
variable {df : List UInt8} {dn u : Nat} {lg : Lg} {e : Ae}
theorem oneS_ask {q : Qn} (hk : e.k = 1 ∨ e.k = 3 ∨ e.k = 4 ∨ e.k = 5) (hq : aq e = q) (h : askB q = true) : oneS df dn e u lg = (anU true u lg q, anL true df dn u lg q) := by
  subst hq; rw [oneS, if_pos ⟨hk, h⟩]
theorem oneS_no {q : Qn} (hk : e.k ≠ 2) (hq : aq e = q) (h : askB q = false) : oneS df dn e u lg = (u, lg) := by
  subst hq; rw [oneS, if_neg (fun x => by have := x.2; rw [h] at this; cases this), if_neg (fun x => hk x.1)]
theorem oneS_oth (h1 : e.k ≠ 1) (h2 : e.k ≠ 2) (h3 : e.k ≠ 3) (h4 : e.k ≠ 4) (h5 : e.k ≠ 5) : oneS df dn e u lg = (u, lg) := by
  rw [oneS, if_neg (fun x => by rcases x.1 with x | x | x | x <;> omega), if_neg (fun x => h2 x.1)]
theorem oneS_st (hk : e.k = 2) (h : stB e = true) : oneS df dn e u lg = ((sT df dn e.key e.dm e.data u lg ((e.n.toNat + 31) / 32)).1, (sT df dn e.key e.dm e.data u lg ((e.n.toNat + 31) / 32)).2.1) := by
  rw [oneS, if_neg (fun x => by rcases x.1 with x | x | x | x <;> omega), if_pos ⟨hk, h⟩]
theorem oneS_sn (hk : e.k = 2) (h : stB e = false) : oneS df dn e u lg = (u, lg) := by
  rw [oneS, if_neg (fun x => by rcases x.1 with x | x | x | x <;> omega), if_neg (fun x => by rw [h] at x; exact absurd x.2 (by decide))]
theorem stB_t (h : stB e = true) : mayB e.kd e.dm e.key = true ∧ e.kd = 4 ∧ 0 ≤ e.n ∧ e.n ≤ 1024 := by
  simpa only [stB, Bool.and_eq_true, decide_eq_true_eq] using h
theorem aq_m (h : askB (aq e) = true) : mq (aq e) := by
  unfold askB at h
  rw [Bool.and_eq_true] at h
  exact (mayB_t h.1).2.2
theorem oneS_LI (h : LI df dn u lg) : LI df dn (oneS df dn e u lg).1 (oneS df dn e u lg).2 := by
  unfold oneS
  split
  · rename_i hx; exact h.an (aq_m hx.2)
  · split
    · exact h.sT _
    · exact h
theorem oneS_u : (oneS df dn e u lg).1 ≤ u + 32 := by
  unfold oneS
  split
  · have := anU_le true u lg (aq e)
    show anU true u lg (aq e) ≤ _; omega
  · split
    · rename_i hx
      have h1 := (stB_t hx.2).2.2
      have h2 := sT_u (df := df) (dn := dn) (key := e.key) (dm := e.dm) (data := e.data) (u := u) (lg := lg) ((e.n.toNat + 31) / 32)
      show (sT df dn e.key e.dm e.data u lg ((e.n.toNat + 31) / 32)).1 ≤ _
      omega
    · exact Nat.le_add_right ..
theorem oneS_l : (oneS df dn e u lg).2.length ≤ lg.length + 32 := by
  unfold oneS
  split
  · have := anL_le true df dn u lg (aq e)
    show (anL true df dn u lg (aq e)).length ≤ _; omega
  · split
    · rename_i hx
      have h1 := (stB_t hx.2).2.2
      have h2 := sT_l (df := df) (dn := dn) (key := e.key) (dm := e.dm) (data := e.data) (u := u) (lg := lg) ((e.n.toNat + 31) / 32)
      show (sT df dn e.key e.dm e.data u lg ((e.n.toNat + 31) / 32)).2.1.length ≤ _
      omega
    · exact Nat.le_add_right ..
theorem oneS_32 (h : df.length = 32 * dn) (hl : ok32 lg) : ok32 (oneS df dn e u lg).2 := by
  unfold oneS
  split
  · exact anL_32 h hl
  · split
    · exact sT_32 h hl _
    · exact hl
end
def allS (df : List UInt8) (dn : Nat) (es : List Ae) (u : Nat) (lg : Lg) : Nat → Nat × Lg
  | 0 => (u, lg)
  | k + 1 => oneS df dn (es.getD k zAe) (allS df dn es u lg k).1 (allS df dn es u lg k).2
section
variable {df : List UInt8} {dn u : Nat} {lg : Lg} {es : List Ae}
theorem allS_LI (h : LI df dn u lg) : ∀ k, LI df dn (allS df dn es u lg k).1 (allS df dn es u lg k).2
  | 0 => h
  | k + 1 => oneS_LI (allS_LI h k)
theorem allS_u : ∀ k, (allS df dn es u lg k).1 ≤ u + 32 * k
  | 0 => Nat.le_refl _
  | k + 1 => Nat.le_trans oneS_u (by have := allS_u k; omega)
theorem allS_l : ∀ k, (allS df dn es u lg k).2.length ≤ lg.length + 32 * k
  | 0 => Nat.le_refl _
  | k + 1 => Nat.le_trans oneS_l (by have := allS_l k; omega)
theorem allS_32 (h : df.length = 32 * dn) (hl : ok32 lg) : ∀ k, ok32 (allS df dn es u lg k).2
  | 0 => hl
  | k + 1 => oneS_32 h (allS_32 h hl k)
end
end Go.Orc
namespace Go.Vc
open Go.RowKit
section
variable {w w0 : World} {e : Ent} {E R T : List Ent}
end
end Go.Vc
namespace Go.Orc
open Go.Vc Go.RowKit
def LgR (t : TypeId) (ys : List Value) (lg : Lg) (R : List Ent) (i : Nat) : Prop := R.length + i = lg.length ∧ ∀ j, i ≤ j → j < lg.length → ∃ a n c, R[j - i]? = some (.row a n c t 1 ((lg.getD j zLg).1.2.2.2.map vu8)) ∧ (ys.drop (j * 67)).take 67 = aC (lg.getD j zLg).1 (.slice a n c) (lg.getD j zLg).2 ∧ (lg.getD j zLg).1.2.2.2.length = n
def LgP (t : TypeId) (ys xs : List Value) (lg : Lg) (R : List Ent) (k : Nat) : Prop := R.length = k ∧ ys.length = xs.length ∧ ys.drop (k * 67) = xs.drop (k * 67) ∧ ∀ j, j < k → ∃ a n c, R[j]? = some (.row a n c t 1 ((lg.getD j zLg).1.2.2.2.map vu8)) ∧ (ys.drop (j * 67)).take 67 = aC (lg.getD j zLg).1 (.slice a n c) (lg.getD j zLg).2 ∧ (lg.getD j zLg).1.2.2.2.length = n
end Go.Orc
namespace Go.Orc
open Go.Vc Go.RowKit
theorem sub_blk2 {a : Option Addr} {l m k : Nat} {xs : List UInt8} : ∀ b ∈ (Ent.view (slA a l m 1) (((xs.drop l).take k).map vu8)).blocks, b ∈ (Ent.view a (xs.map vu8)).blocks := by
  cases xs with
  | nil =>
    intro b hb
    cases h : slA a l m 1 <;> simp [h, Ent.blocks] at hb
  | cons x r => exact sub_blk (by simp)
theorem halves {l : List UInt8} {n h : Nat} (hl : l.length = n) : [(l.drop 0).take h, ([] : List UInt8), (l.drop h).take (n - h)].flatten = l := by
  subst hl
  simp only [List.drop_zero, List.flatten_cons, List.flatten_nil, List.nil_append, List.append_nil]
  rw [List.take_of_length_le (l := l.drop h) (by rw [List.length_drop]; exact Nat.le_refl _), List.take_append_drop]
theorem halves2 {l : List UInt8} {n h : Nat} (hl : l.length = n) : [(l.drop 0).take h, (l.drop h).take (n - h)].flatten = l := by
  subst hl
  simp only [List.drop_zero, List.flatten_cons, List.flatten_nil, List.append_nil]
  rw [List.take_of_length_le (l := l.drop h) (by rw [List.length_drop]; exact Nat.le_refl _), List.take_append_drop]
theorem mayB_i {kd dm : Int} {key : List UInt8} (h1 : 1 ≤ kd ∧ kd ≤ 4) (h2 : 1 ≤ dm ∧ dm ≤ 16) (h3 : kd = 1 → key = List.replicate 32 0) : mayB kd dm key = true := by
  simp only [mayB, Bool.and_eq_true, Bool.or_eq_true, decide_eq_true_eq]
  refine ⟨h1.1, h1.2, h2.1, h2.2, ?_⟩
  by_cases e : kd = 1
  · exact .inr (h3 e)
  · exact .inl e
theorem askB_i {q : Qn} (h : mayB q.1 q.2.2.1 q.2.1 = true) (h4 : q.1 ≠ 4) : askB q = true := by rw [askB, h, decide_eq_false h4]; rfl
theorem askB_n {q : Qn} (h : mayB q.1 q.2.2.1 q.2.1 = false) : askB q = false := by rw [askB, h]; rfl
theorem askB_4 {q : Qn} (h4 : q.1 = 4) : askB q = false := by rw [askB, decide_eq_true h4, Bool.and_comm]; rfl
end Go.Orc
namespace Go.Orc
open Go.Vc Go.RowKit
theorem Lgs.aget {w : World} {xs : List Value} {l : Lg} (h : Lgs w xs l) {i : Nat} {z : Qn × List UInt8} (hi : i < l.length) : ∃ a n c, (xs.drop (i * 67)).take 67 = aC (l.getD i z).1 (.slice a n c) (l.getD i z).2 ∧ okQ (l.getD i z).1 ∧ (l.getD i z).2.length = 32 ∧ (l.getD i z).1.2.2.2.length = n ∧ n ≤ c ∧ View w a ((l.getD i z).1.2.2.2.map vu8) ∧ (∀ b ∈ sblk (.slice a n c), b ∈ sblks xs) := by
  obtain ⟨a, n, c, h1, h2, h3, h4, h5, h6⟩ := h.get hi
  have hq := h.ok (l[i]) (List.getElem_mem hi)
  have e : l.getD i z = l[i] := by simp [hi]
  rw [e, show i * 67 = 67 * i by omega]
  exact ⟨a, n, c, h1, hq, h2, h3, h4, h5, h6⟩
section
variable {ys : List Value} {i : Nat} {q : Qn} {s : Value} {d : List UInt8}
theorem row_q (h : (ys.drop (i * 67)).take 67 = aC q s d) (hk : q.2.1.length = 32) : (ys.drop (i * 67)).take 35 = flat [(1, [vi q.1]), (32, q.2.1.map vu8), (1, [vi q.2.2.1]), (1, [s])] := by
  have h7 := congrArg (fun x => x.take 35) h
  change ((ys.drop (i * 67)).take 67).take 35 = (aC _ _ _).take 35 at h7
  rw [aC_take hk, List.take_take, show min 35 67 = 35 from rfl] at h7
  exact h7
end
end Go.Orc
namespace Go.Vc
open Go.RowKit
end Go.Vc
namespace Go.Vc
open Go.RowKit
end Go.Vc
