/- Rules for walks and contracts of the functions that the law reaches, one behind the other. Conditions: none beyond what each theorem states. -/
import Derived.Test.YtajiipjmmoehcaaGreatZ3OracleBreaks
set_option linter.unusedVariables false
set_option linter.unusedSimpArgs false
set_option linter.unusedSectionVars false
namespace Go.Proofs.YtajiipjmmoehcaaGreat
open Go.Proofs.Tryz
open Go.Vc Go.Orc Go.Sh Go.RowKit
set_option maxRecDepth 20000

theorem c_one1t {w00 : World} {L : List Ent} (ob mp : Nat) (df : List UInt8) (da : Option Addr) (dn dc u : Nat) (hdf : df.length = 32 * dn) (la : Option Addr) (lc : Nat) (lx : List Value) (lg : Lg) (hu : u ≤ 500000) (hlg : lg.length ≤ 500000) (rb : Nat) (dr : Option Addr) (drc : Nat) (ra : Option Addr) (rc : Nat) (rx : List Value) (kd dm sn : Int) (key data : List UInt8) (qa : Option Addr) (qn qc : Nat) (hk : key.length = 32) (hdl : data.length = qn) (hqn : qn ≤ 100000) (hqc : qn ≤ qc) (hq : okQ (kd, key, dm, data)) (hk4 : ¬ kd = 4) (hz : kd = 1 → key = List.replicate 32 0) (w : World) (h_0 : HP w00 w (Ent.blk ob .nw 66 [(1, [(.bool true)]), (32, (List.replicate 32 (0 : UInt8)).map vu8), (1, [(.slice da dn dc)]), (1, [(vi ((u : Nat) : Int))]), (1, [(.map (some mp))]), (1, [(.slice la lg.length lc)])] :: Ent.row la lg.length lc 47 67 lx :: Ent.obj mp .nw (.map (mArr lg) lg.length) :: Ent.pin (sblks lx) (fun w => Lgs w lx lg) :: Ent.view da (df.map vu8) :: Ent.blk rb .nw 33 [(1, [(.bool true)]), (32, (List.replicate 32 (0 : UInt8)).map vu8), (1, [(.slice dr dn drc)]), (1, [(vi ((u : Nat) : Int))]), (1, [(.slice ra lg.length rc)])] :: Ent.row ra lg.length rc 47 67 rx :: Ent.pin (sblks rx) (fun w => Lgs w rx lg) :: Ent.view dr (df.map vu8) :: Ent.view qa (data.map vu8) :: L)) :
  Cs Tryz.prog 8 [(.pointer (some ⟨ob, 0, none⟩)), (.pointer (some ⟨rb, 0, none⟩)), (.agg ⟨flat [(1, [(vi 1)]), (1, [(vi sn)]), (1, [(vi kd)]), (32, key.map vu8), (1, [(vi dm)]), (1, [(.slice qa qn qc)])]⟩)].toArray w (fun v w1 => ∃ la' lc' lx' ra' rc' rx', v = .bool true ∧ HP w00 w1 (Ent.blk ob .nw 66 [(1, [(.bool true)]), (32, (List.replicate 32 (0 : UInt8)).map vu8), (1, [(.slice da dn dc)]), (1, [(vi (((anU true u lg (kd, key, dm, data)) : Nat) : Int))]), (1, [(.map (some mp))]), (1, [(.slice la' ((anL true df dn u lg (kd, key, dm, data)).length) lc')])] :: Ent.row la' ((anL true df dn u lg (kd, key, dm, data)).length) lc' 47 67 lx' :: Ent.obj mp .nw (.map (mArr (anL true df dn u lg (kd, key, dm, data))) ((anL true df dn u lg (kd, key, dm, data)).length)) :: Ent.pin (sblks lx') (fun w => Lgs w lx' (anL true df dn u lg (kd, key, dm, data))) :: Ent.view da (df.map vu8) :: Ent.blk rb .nw 33 [(1, [(.bool true)]), (32, (List.replicate 32 (0 : UInt8)).map vu8), (1, [(.slice dr dn drc)]), (1, [(vi (((anU true u lg (kd, key, dm, data)) : Nat) : Int))]), (1, [(.slice ra' ((anL true df dn u lg (kd, key, dm, data)).length) rc')])] :: Ent.row ra' ((anL true df dn u lg (kd, key, dm, data)).length) rc' 47 67 rx' :: Ent.pin (sblks rx') (fun w => Lgs w rx' (anL true df dn u lg (kd, key, dm, data))) :: Ent.view dr (df.map vu8) :: Ent.view qa (data.map vu8) :: L)) := by
 refine Cs.of (n := 186) (args := [(pO ob 0), (pO rb 0), (.agg ⟨flat [(1, [(vi 1)]), (1, [(vi sn)]), (1, [(vi kd)]), (32, key.map vu8), (1, [(vi dm)]), (1, [(.slice qa qn qc)])]⟩)]) Tryz.func8 rfl rfl rfl ?_
 refine WP.seq (WP.reg ?_)
 refine WL.box (segs := [(1, [(vi 1)]), (1, [(vi sn)]), (1, [(vi kd)]), (32, key.map vu8), (1, [(vi dm)]), (1, [(.slice qa qn qc)])]) h_0 rfl rfl (sC sV (sC sV (sC sV (sC (s8 hk) (sC sV (sC sV sN)))))) rfl (fun b_1 w_2 h_3 => ?_)
 refine qA (.bool false) rfl rfl ?_
 refine WL.nil (thn_n (WP.seq (WP.reg ?_)))
 refine qV rfl (R.fieldAddr (off' := 2) rfl underlying41 rfl sizeOf39 rfl rfl) (qV rfl (R.loadA [(1, [(vi 1)]), (1, [(vi sn)])] [(1, [(vi kd)]), (32, key.map vu8), (1, [(vi dm)]), (1, [(.slice qa qn qc)])] [] rfl isAgg39 sizeOf39 (h_3.ok _ M0) rfl rfl rfl rfl) ?_)
 refine WL.alloc (segs := [(1, [(vi 0)]), (32, (zB 32).map vu8), (1, [(vi 0)]), (1, [(.slice none 0 0)])]) h_3 (zv typeInfo39 rfl) rfl (sC sV (sC (s8 lr) (sC sV (sC sV sN)))) rfl (fun b_4 w_5 h_6 => ?_)
 refine WL.storeA [] [(1, [(vi 0)]), (32, (zB 32).map vu8), (1, [(vi 0)]), (1, [(.slice none 0 0)])] [(1, [(vi kd)]), (32, key.map vu8), (1, [(vi dm)]), (1, [(.slice qa qn qc)])] [] h_6 rfl rfl sizeOf39 At.h (by decide) rfl rfl rfl rfl rfl rfl (sC sV (sC (s8 hk) (sC sV (sC sV sN)))) (fun w_7 h_8 => ?_)
 refine WL.nil (thn_n (WP.seq (WP.seq (WP.reg ?_))))
 refine qV rfl (R.fieldAddr (off' := 0) rfl underlying41 rfl sizeOf3 rfl rfl) (qV rfl (R.load1 rfl isAgg3 (h_8.ok _ M1) Sg.h) ?_)
 refine WL.nil (thn_n (WP.block (WP.seq (WP.reg ?_))))
 refine qV rfl (R.bin rfl rfl (bi_eql (r := true) (by decide))) (qA (.bool true) rfl rfl ?_)
 refine WL.nil (thn_n ?_)
 refine WP.condT rfl ?_
 refine WP.seq (WP.reg ?_)
 refine qM (pO ob 0) rfl rfl (qV rfl (R.loadA [] [(1, [(vi kd)]), (32, key.map vu8), (1, [(vi dm)]), (1, [(.slice qa qn qc)])] [] rfl isAgg39 sizeOf39 (h_8.ok _ M0) rfl rfl rfl rfl) ?_)
 have h_14 := (((((h_8.up J11).up J7).up J7).up J7).up J7).up J7
 have h32_w_18 := (Lgs.ok32 (h_14.ok _ M3).1)
 refine WL.call Tryz.call13 rfl rfl (c_oAskI ob mp (zB 32) df lr da dn dc u hdf la lc lx lg (by omega) (by omega) kd dm key data qa qn qc hq hdl hk4 hz _ h_14) rfl ?_
 rintro _ w_18 ⟨la_15, lc_16, lx_17, rfl, h_19⟩
 refine qM (.tuple [(.agg ⟨(anD true df dn u lg (kd, key, dm, data)).map vu8⟩), (vi 0)].toArray) rfl rfl (qV rfl (R.extract rfl rfl) (qV rfl (R.extract rfl rfl) ?_))
 refine WL.alloc (segs := [(32, (zB 32).map vu8)]) h_19 (zv typeInfo29 rfl) rfl (sC (s8 lr) sN) rfl (fun b_20 w_21 h_22 => ?_)
 refine WL.storeA [] [(32, (zB 32).map vu8)] [(32, (anD true df dn u lg (kd, key, dm, data)).map vu8)] [] h_22 rfl rfl sizeOf29 At.h (by decide) rfl rfl rfl rfl rfl rfl (sC (s8 (anD_len hdf h32_w_18)) sN) (fun w_23 h_24 => ?_)
 refine qA (vi 0) rfl rfl ?_
 refine WL.nil (thn_n (WP.seq (WP.seq (WP.reg ?_))))
 refine qV rfl (R.loadA [] [(1, [(vi kd)]), (32, key.map vu8), (1, [(vi dm)]), (1, [(.slice qa qn qc)])] [] rfl isAgg39 sizeOf39 (h_24.ok _ M7) rfl rfl rfl rfl) ?_
 refine WL.call Tryz.call20 rfl rfl (c_rMayT kd dm key qa qn qc hk (hq.2.1) (hq.2.2.1) hz _ ) rfl ?_
 rintro _ w_26 ⟨rfl, hc_25⟩
 have h_27 := h_24.same hc_25
 refine qV rfl (R.not (b := true) rfl) (qM (.bool false) rfl rfl ?_)
 refine WL.want rfl rfl ?_
 refine qV rfl (R.fieldAddr (off' := 0) rfl underlying39 rfl sizeOf35 rfl rfl) ?_
 refine WL.want rfl rfl ?_
 refine qV rfl (R.load1 rfl isAgg35 (h_27.ok _ M7) Sg.h) ?_
 refine WL.want rfl rfl ?_
 refine qV rfl (R.bin rfl rfl (bi_eql (r := decide ((kd : Int) = 4)) rfl)) (qV rfl (R.pickF (v := (.bool (decide ((kd : Int) = 4)))) rfl rfl) ?_)
 refine WL.nil (thn_n ?_)
 refine WP.condF (congrArg Value.bool (decide_eq_false hk4)) ?_
 refine WP.skip (thn_n (WP.seq ?_))
 refine WP.drawT (SL w00.heap.size [.blk b_20 .nw 29 [(32, (anD true df dn u lg (kd, key, dm, data)).map vu8)], .blk ob .nw 66 [(1, [(.bool true)]), (32, (zB 32).map vu8), (1, [(.slice da dn dc)]), (1, [(vn (anU true u lg (kd, key, dm, data)))]), (1, [(.map (some mp))]), (1, [(.slice la_15 ((anL true df dn u lg (kd, key, dm, data)).length) lc_16)])], .row la_15 ((anL true df dn u lg (kd, key, dm, data)).length) lc_16 47 67 lx_17, .obj mp .nw (.map (mArr (anL true df dn u lg (kd, key, dm, data))) ((anL true df dn u lg (kd, key, dm, data)).length)), .pin (sblks lx_17) (fun w => Lgs w lx_17 (anL true df dn u lg (kd, key, dm, data))), .view da (df.map vu8), .view qa (data.map vu8), .blk b_4 .nw 39 [(1, [(vi kd)]), (32, key.map vu8), (1, [(vi dm)]), (1, [(.slice qa qn qc)])], .blk b_1 .nw 41 [(1, [(vi 1)]), (1, [(vi sn)]), (1, [(vi kd)]), (32, key.map vu8), (1, [(vi dm)]), (1, [(.slice qa qn qc)])]]) (.q 0 (.q 1 (.q 2 (.q 3 (.q 4 (.q 5 (.s 6 (.q 7 (.q 8 (.q 9 .nil)))))))))) (by kernel_rfl) (by kernel_rfl) rfl (by kernel_rfl) (fun w_28 hc_30 => (SL.cons ((h_27.same hc_30).ok _ M0) (SL.cons ((h_27.same hc_30).ok _ M1) (SL.cons ((h_27.same hc_30).ok _ M2) (SL.cons ((h_27.same hc_30).ok _ M3) (SL.cons ((h_27.same hc_30).ok _ M4) (SL.cons ((h_27.same hc_30).ok _ M5) (SL.cons ((h_27.same hc_30).ok _ M6) (SL.cons ((h_27.same hc_30).ok _ M7) (SL.cons ((h_27.same hc_30).ok _ M8) (SL.nil _ _))))))))))) (fun w_28 hc_30 => ?_)
 have h_29 := h_27.same hc_30
 refine qT rfl rfl (fun wq hS => R.move (v := (vi 0)) rfl) ?_
 refine qT rfl rfl (fun wq hS => R.bin rfl rfl (bi_eql (r := true) (by decide))) ?_
 refine qT rfl rfl (fun wq hS => R.move (v := (.bool true)) rfl) ?_
 refine WT.q rfl (Wn.yes rfl rfl rfl) rfl rfl (fun wq hS => R.loadA [] [(32, (anD true df dn u lg (kd, key, dm, data)).map vu8)] [] (cs := (anD true df dn u lg (kd, key, dm, data)).map vu8) rfl isAgg29 sizeOf29 (hS _ M0) rfl rfl rfl rfl) ?_
 refine WT.q rfl (Wn.yes rfl rfl rfl) rfl rfl (fun wq hS => R.move (v := (pO rb 0)) rfl) ?_
 refine WT.q rfl (Wn.yes rfl rfl rfl) rfl rfl (fun wq hS => R.loadA [] [(1, [(vi kd)]), (32, key.map vu8), (1, [(vi dm)]), (1, [(.slice qa qn qc)])] [] rfl isAgg39 sizeOf39 (hS _ M7) rfl rfl rfl rfl) ?_
 refine WT.s ?_
 refine Op1.one rfl (Wn.yes rfl rfl rfl) ?_
 have h_35 := ((((h_29.up J6).up J12).up J12).up J12).up J12
 have h32_w_39 := (Lgs.ok32 (h_35.ok _ M2).1)
 refine WL.call Tryz.call21 rfl rfl (c_rAskI rb (zB 32) df lr dr dn drc u hdf ra rc rx lg (by omega) (by omega) kd dm key data qa qn qc hq hdl  _ h_35) rfl ?_
 rintro _ w_39 ⟨la_36, lc_37, lx_38, rfl, h_40⟩
 refine WL.nil ?_
 refine ⟨(SL.cons (h_40.ok _ M5) (SL.cons (h_40.ok _ M6) (SL.cons (h_40.ok _ M7) (SL.cons (h_40.ok _ M8) (SL.cons (h_40.ok _ M9) (SL.cons (h_40.ok _ M10) (SL.cons (h_40.ok _ M4) (SL.cons (h_40.ok _ M11) (SL.cons (h_40.ok _ M12) (SL.nil _ _)))))))))), ?_⟩
 refine WT.q rfl (Wn.yes rfl rfl rfl) rfl rfl (fun wq hS => R.eqA (xs := (anD true df dn u lg (kd, key, dm, data)).map vu8) (ys := (anD true df dn u lg (kd, key, dm, data)).map vu8) (r := true) rfl rfl eqGuardType29 kt29 (by decide) ag29 (Typ.u8s underlying29 ce29 underlying5 ce5 (anD_len hdf h32_w_18)) (Typ.u8s underlying29 ce29 underlying5 ce5 (anD_len hdf h32_w_39)) (eqT rfl)) ?_
 refine qT rfl rfl (fun wq hS => R.pickT (v := (.bool true)) rfl rfl) ?_
 refine qT rfl rfl (fun wq hS => R.assign (v := (.bool true)) rfl) ?_
 refine WT.nil (thn_n (WP.ret (inb_r (thn_r ?_))))
 refine ret_of results8 (RV.tmp (v := (.bool true)) rfl RV.nil) ?_
 have h_56 := (((((((((((((((h_40.up J5).drop rfl).up J10).drop rfl).up J10).drop rfl).up J4).up J4).up J4).up J4).up J4).up J9).up J9).up J9).up J9).up J9
 exact ⟨_, _, _, _, _, _, rfl, h_56⟩

theorem c_one1n {w00 : World} {L : List Ent} (ob mp : Nat) (df : List UInt8) (da : Option Addr) (dn dc u : Nat) (hdf : df.length = 32 * dn) (la : Option Addr) (lc : Nat) (lx : List Value) (lg : Lg) (hu : u ≤ 500000) (hlg : lg.length ≤ 500000) (rb : Nat) (dr : Option Addr) (drc : Nat) (ra : Option Addr) (rc : Nat) (rx : List Value) (kd dm sn : Int) (key data : List UInt8) (qa : Option Addr) (qn qc : Nat) (hk : key.length = 32) (hdl : data.length = qn) (hqn : qn ≤ 100000) (hqc : qn ≤ qc) (hm : mayB kd dm key = false) (w : World) (h_0 : HP w00 w (Ent.blk ob .nw 66 [(1, [(.bool true)]), (32, (List.replicate 32 (0 : UInt8)).map vu8), (1, [(.slice da dn dc)]), (1, [(vi ((u : Nat) : Int))]), (1, [(.map (some mp))]), (1, [(.slice la lg.length lc)])] :: Ent.row la lg.length lc 47 67 lx :: Ent.obj mp .nw (.map (mArr lg) lg.length) :: Ent.pin (sblks lx) (fun w => Lgs w lx lg) :: Ent.view da (df.map vu8) :: Ent.blk rb .nw 33 [(1, [(.bool true)]), (32, (List.replicate 32 (0 : UInt8)).map vu8), (1, [(.slice dr dn drc)]), (1, [(vi ((u : Nat) : Int))]), (1, [(.slice ra lg.length rc)])] :: Ent.row ra lg.length rc 47 67 rx :: Ent.pin (sblks rx) (fun w => Lgs w rx lg) :: Ent.view dr (df.map vu8) :: Ent.view qa (data.map vu8) :: L)) :
  Cs Tryz.prog 8 [(.pointer (some ⟨ob, 0, none⟩)), (.pointer (some ⟨rb, 0, none⟩)), (.agg ⟨flat [(1, [(vi 1)]), (1, [(vi sn)]), (1, [(vi kd)]), (32, key.map vu8), (1, [(vi dm)]), (1, [(.slice qa qn qc)])]⟩)].toArray w (fun v w1 => ∃ la' lc' lx' ra' rc' rx', v = .bool true ∧ HP w00 w1 (Ent.blk ob .nw 66 [(1, [(.bool true)]), (32, (List.replicate 32 (0 : UInt8)).map vu8), (1, [(.slice da dn dc)]), (1, [(vi ((u : Nat) : Int))]), (1, [(.map (some mp))]), (1, [(.slice la' lg.length lc')])] :: Ent.row la' lg.length lc' 47 67 lx' :: Ent.obj mp .nw (.map (mArr lg) lg.length) :: Ent.pin (sblks lx') (fun w => Lgs w lx' lg) :: Ent.view da (df.map vu8) :: Ent.blk rb .nw 33 [(1, [(.bool true)]), (32, (List.replicate 32 (0 : UInt8)).map vu8), (1, [(.slice dr dn drc)]), (1, [(vi ((u : Nat) : Int))]), (1, [(.slice ra' lg.length rc')])] :: Ent.row ra' lg.length rc' 47 67 rx' :: Ent.pin (sblks rx') (fun w => Lgs w rx' lg) :: Ent.view dr (df.map vu8) :: Ent.view qa (data.map vu8) :: L)) := by
 refine Cs.of (n := 186) (args := [(pO ob 0), (pO rb 0), (.agg ⟨flat [(1, [(vi 1)]), (1, [(vi sn)]), (1, [(vi kd)]), (32, key.map vu8), (1, [(vi dm)]), (1, [(.slice qa qn qc)])]⟩)]) Tryz.func8 rfl rfl rfl ?_
 refine WP.seq (WP.reg ?_)
 refine WL.box (segs := [(1, [(vi 1)]), (1, [(vi sn)]), (1, [(vi kd)]), (32, key.map vu8), (1, [(vi dm)]), (1, [(.slice qa qn qc)])]) h_0 rfl rfl (sC sV (sC sV (sC sV (sC (s8 hk) (sC sV (sC sV sN)))))) rfl (fun b_1 w_2 h_3 => ?_)
 refine qA (.bool false) rfl rfl ?_
 refine WL.nil (thn_n (WP.seq (WP.reg ?_)))
 refine qV rfl (R.fieldAddr (off' := 2) rfl underlying41 rfl sizeOf39 rfl rfl) (qV rfl (R.loadA [(1, [(vi 1)]), (1, [(vi sn)])] [(1, [(vi kd)]), (32, key.map vu8), (1, [(vi dm)]), (1, [(.slice qa qn qc)])] [] rfl isAgg39 sizeOf39 (h_3.ok _ M0) rfl rfl rfl rfl) ?_)
 refine WL.alloc (segs := [(1, [(vi 0)]), (32, (zB 32).map vu8), (1, [(vi 0)]), (1, [(.slice none 0 0)])]) h_3 (zv typeInfo39 rfl) rfl (sC sV (sC (s8 lr) (sC sV (sC sV sN)))) rfl (fun b_4 w_5 h_6 => ?_)
 refine WL.storeA [] [(1, [(vi 0)]), (32, (zB 32).map vu8), (1, [(vi 0)]), (1, [(.slice none 0 0)])] [(1, [(vi kd)]), (32, key.map vu8), (1, [(vi dm)]), (1, [(.slice qa qn qc)])] [] h_6 rfl rfl sizeOf39 At.h (by decide) rfl rfl rfl rfl rfl rfl (sC sV (sC (s8 hk) (sC sV (sC sV sN)))) (fun w_7 h_8 => ?_)
 refine WL.nil (thn_n (WP.seq (WP.seq (WP.reg ?_))))
 refine qV rfl (R.fieldAddr (off' := 0) rfl underlying41 rfl sizeOf3 rfl rfl) (qV rfl (R.load1 rfl isAgg3 (h_8.ok _ M1) Sg.h) ?_)
 refine WL.nil (thn_n (WP.block (WP.seq (WP.reg ?_))))
 refine qV rfl (R.bin rfl rfl (bi_eql (r := true) (by decide))) (qA (.bool true) rfl rfl ?_)
 refine WL.nil (thn_n ?_)
 refine WP.condT rfl ?_
 refine WP.seq (WP.reg ?_)
 refine qM (pO ob 0) rfl rfl (qV rfl (R.loadA [] [(1, [(vi kd)]), (32, key.map vu8), (1, [(vi dm)]), (1, [(.slice qa qn qc)])] [] rfl isAgg39 sizeOf39 (h_8.ok _ M0) rfl rfl rfl rfl) ?_)
 refine WL.call Tryz.call13 rfl rfl (c_oAskN true ob mp (zB 32) lr da dn dc u la lg.length lc kd dm key qa qn qc hk hm _ (h_8.argR M2)) rfl ?_
 rintro _ w_10 ⟨rfl, hc_9⟩
 have h_11 := h_8.same hc_9
 refine qM (.tuple [(.agg ⟨(zB 32).map vu8⟩), (vi 2)].toArray) rfl rfl (qV rfl (R.extract rfl rfl) (qV rfl (R.extract rfl rfl) ?_))
 refine WL.alloc (segs := [(32, (zB 32).map vu8)]) h_11 (zv typeInfo29 rfl) rfl (sC (s8 lr) sN) rfl (fun b_12 w_13 h_14 => ?_)
 refine WL.storeA [] [(32, (zB 32).map vu8)] [(32, (zB 32).map vu8)] [] h_14 rfl rfl sizeOf29 At.h (by decide) rfl rfl rfl rfl rfl rfl (sC (s8 lr) sN) (fun w_15 h_16 => ?_)
 refine qA (vi 2) rfl rfl ?_
 refine WL.nil (thn_n (WP.seq (WP.seq (WP.reg ?_))))
 refine qV rfl (R.loadA [] [(1, [(vi kd)]), (32, key.map vu8), (1, [(vi dm)]), (1, [(.slice qa qn qc)])] [] rfl isAgg39 sizeOf39 (h_16.ok _ M1) rfl rfl rfl rfl) ?_
 refine WL.call Tryz.call20 rfl rfl (c_rMayF kd dm key qa qn qc hk hm _ ) rfl ?_
 rintro _ w_18 ⟨rfl, hc_17⟩
 have h_19 := h_16.same hc_17
 refine qV rfl (R.not (b := false) rfl) (qM (.bool true) rfl rfl ?_)
 refine WL.skip rfl rfl rfl ?_
 refine WL.skip rfl rfl rfl ?_
 refine WL.skip rfl rfl rfl ?_
 refine qV rfl (R.pickT (v := (.bool true)) rfl rfl) ?_
 refine WL.nil (thn_n ?_)
 refine WP.condT rfl ?_
 refine WP.seq (WP.reg ?_)
 refine qM (vi 2) rfl rfl (qV rfl (R.bin rfl rfl (bi_eql (r := true) (by decide))) (qM (.bool true) rfl rfl ?_))
 refine WL.want rfl rfl ?_
 refine qV rfl (R.loadA [] [(32, (zB 32).map vu8)] [] (cs := (zB 32).map vu8) rfl isAgg29 sizeOf29 (h_19.ok _ M0) rfl rfl rfl rfl) ?_
 refine WL.want rfl rfl ?_
 refine qV rfl (R.buildA (vs := []) (cs := (zB 32).map vu8) underlying29 sizeOf5 (zv typeInfo29 rfl) rfl rfl) ?_
 refine WL.want rfl rfl ?_
 refine qV rfl (R.eqA (xs := (zB 32).map vu8) (ys := (zB 32).map vu8) (r := true) rfl rfl eqGuardType29 kt29 (by decide) ag29 (Typ.u8s underlying29 ce29 underlying5 ce5 lr) (Typ.u8s underlying29 ce29 underlying5 ce5 lr) (eqT rfl)) (qV rfl (R.pickT (v := (.bool true)) rfl rfl) (qA (.bool true) rfl rfl ?_))
 refine WL.nil (thn_n (WP.ret (thn_r (inb_r (thn_r ?_)))))
 refine ret_of results8 (RV.tmp (v := (.bool true)) rfl RV.nil) ?_
 have h_32 := ((((((((((((h_19.drop rfl).drop rfl).drop rfl).up J9).up J9).up J9).up J9).up J9).up J9).up J9).up J9).up J9).up J9
 exact ⟨_, _, _, _, _, _, rfl, h_32⟩

theorem c_one1s {w00 : World} {L : List Ent} (ob mp : Nat) (df : List UInt8) (da : Option Addr) (dn dc u : Nat) (hdf : df.length = 32 * dn) (la : Option Addr) (lc : Nat) (lx : List Value) (lg : Lg) (hu : u ≤ 500000) (hlg : lg.length ≤ 500000) (rb : Nat) (dr : Option Addr) (drc : Nat) (ra : Option Addr) (rc : Nat) (rx : List Value) (dm sn : Int) (key data : List UInt8) (qa : Option Addr) (qn qc : Nat) (hk : key.length = 32) (hdl : data.length = qn) (hqn : qn ≤ 100000) (hqc : qn ≤ qc) (h1 : (1 : Int) ≤ 4 ∧ (4 : Int) ≤ 4) (h2 : 1 ≤ dm ∧ dm ≤ 16) (hz : (4 : Int) = 1 → key = List.replicate 32 0) (w : World) (h_0 : HP w00 w (Ent.blk ob .nw 66 [(1, [(.bool true)]), (32, (List.replicate 32 (0 : UInt8)).map vu8), (1, [(.slice da dn dc)]), (1, [(vi ((u : Nat) : Int))]), (1, [(.map (some mp))]), (1, [(.slice la lg.length lc)])] :: Ent.row la lg.length lc 47 67 lx :: Ent.obj mp .nw (.map (mArr lg) lg.length) :: Ent.pin (sblks lx) (fun w => Lgs w lx lg) :: Ent.view da (df.map vu8) :: Ent.blk rb .nw 33 [(1, [(.bool true)]), (32, (List.replicate 32 (0 : UInt8)).map vu8), (1, [(.slice dr dn drc)]), (1, [(vi ((u : Nat) : Int))]), (1, [(.slice ra lg.length rc)])] :: Ent.row ra lg.length rc 47 67 rx :: Ent.pin (sblks rx) (fun w => Lgs w rx lg) :: Ent.view dr (df.map vu8) :: Ent.view qa (data.map vu8) :: L)) :
  Cs Tryz.prog 8 [(.pointer (some ⟨ob, 0, none⟩)), (.pointer (some ⟨rb, 0, none⟩)), (.agg ⟨flat [(1, [(vi 1)]), (1, [(vi sn)]), (1, [(vi 4)]), (32, key.map vu8), (1, [(vi dm)]), (1, [(.slice qa qn qc)])]⟩)].toArray w (fun v w1 => ∃ la' lc' lx' ra' rc' rx', v = .bool true ∧ HP w00 w1 (Ent.blk ob .nw 66 [(1, [(.bool true)]), (32, (List.replicate 32 (0 : UInt8)).map vu8), (1, [(.slice da dn dc)]), (1, [(vi ((u : Nat) : Int))]), (1, [(.map (some mp))]), (1, [(.slice la' lg.length lc')])] :: Ent.row la' lg.length lc' 47 67 lx' :: Ent.obj mp .nw (.map (mArr lg) lg.length) :: Ent.pin (sblks lx') (fun w => Lgs w lx' lg) :: Ent.view da (df.map vu8) :: Ent.blk rb .nw 33 [(1, [(.bool true)]), (32, (List.replicate 32 (0 : UInt8)).map vu8), (1, [(.slice dr dn drc)]), (1, [(vi ((u : Nat) : Int))]), (1, [(.slice ra' lg.length rc')])] :: Ent.row ra' lg.length rc' 47 67 rx' :: Ent.pin (sblks rx') (fun w => Lgs w rx' lg) :: Ent.view dr (df.map vu8) :: Ent.view qa (data.map vu8) :: L)) := by
 refine Cs.of (n := 186) (args := [(pO ob 0), (pO rb 0), (.agg ⟨flat [(1, [(vi 1)]), (1, [(vi sn)]), (1, [(vi 4)]), (32, key.map vu8), (1, [(vi dm)]), (1, [(.slice qa qn qc)])]⟩)]) Tryz.func8 rfl rfl rfl ?_
 refine WP.seq (WP.reg ?_)
 refine WL.box (segs := [(1, [(vi 1)]), (1, [(vi sn)]), (1, [(vi 4)]), (32, key.map vu8), (1, [(vi dm)]), (1, [(.slice qa qn qc)])]) h_0 rfl rfl (sC sV (sC sV (sC sV (sC (s8 hk) (sC sV (sC sV sN)))))) rfl (fun b_1 w_2 h_3 => ?_)
 refine qA (.bool false) rfl rfl ?_
 refine WL.nil (thn_n (WP.seq (WP.reg ?_)))
 refine qV rfl (R.fieldAddr (off' := 2) rfl underlying41 rfl sizeOf39 rfl rfl) (qV rfl (R.loadA [(1, [(vi 1)]), (1, [(vi sn)])] [(1, [(vi 4)]), (32, key.map vu8), (1, [(vi dm)]), (1, [(.slice qa qn qc)])] [] rfl isAgg39 sizeOf39 (h_3.ok _ M0) rfl rfl rfl rfl) ?_)
 refine WL.alloc (segs := [(1, [(vi 0)]), (32, (zB 32).map vu8), (1, [(vi 0)]), (1, [(.slice none 0 0)])]) h_3 (zv typeInfo39 rfl) rfl (sC sV (sC (s8 lr) (sC sV (sC sV sN)))) rfl (fun b_4 w_5 h_6 => ?_)
 refine WL.storeA [] [(1, [(vi 0)]), (32, (zB 32).map vu8), (1, [(vi 0)]), (1, [(.slice none 0 0)])] [(1, [(vi 4)]), (32, key.map vu8), (1, [(vi dm)]), (1, [(.slice qa qn qc)])] [] h_6 rfl rfl sizeOf39 At.h (by decide) rfl rfl rfl rfl rfl rfl (sC sV (sC (s8 hk) (sC sV (sC sV sN)))) (fun w_7 h_8 => ?_)
 refine WL.nil (thn_n (WP.seq (WP.seq (WP.reg ?_))))
 refine qV rfl (R.fieldAddr (off' := 0) rfl underlying41 rfl sizeOf3 rfl rfl) (qV rfl (R.load1 rfl isAgg3 (h_8.ok _ M1) Sg.h) ?_)
 refine WL.nil (thn_n (WP.block (WP.seq (WP.reg ?_))))
 refine qV rfl (R.bin rfl rfl (bi_eql (r := true) (by decide))) (qA (.bool true) rfl rfl ?_)
 refine WL.nil (thn_n ?_)
 refine WP.condT rfl ?_
 refine WP.seq (WP.reg ?_)
 refine qM (pO ob 0) rfl rfl (qV rfl (R.loadA [] [(1, [(vi 4)]), (32, key.map vu8), (1, [(vi dm)]), (1, [(.slice qa qn qc)])] [] rfl isAgg39 sizeOf39 (h_8.ok _ M0) rfl rfl rfl rfl) ?_)
 refine WL.call Tryz.call13 rfl rfl (c_oAskS true ob mp (zB 32) lr da dn dc u la lg.length lc dm key qa qn qc hk h1 h2 hz _ (h_8.argR M2)) rfl ?_
 rintro _ w_10 ⟨rfl, hc_9⟩
 have h_11 := h_8.same hc_9
 refine qM (.tuple [(.agg ⟨(zB 32).map vu8⟩), (vi 2)].toArray) rfl rfl (qV rfl (R.extract rfl rfl) (qV rfl (R.extract rfl rfl) ?_))
 refine WL.alloc (segs := [(32, (zB 32).map vu8)]) h_11 (zv typeInfo29 rfl) rfl (sC (s8 lr) sN) rfl (fun b_12 w_13 h_14 => ?_)
 refine WL.storeA [] [(32, (zB 32).map vu8)] [(32, (zB 32).map vu8)] [] h_14 rfl rfl sizeOf29 At.h (by decide) rfl rfl rfl rfl rfl rfl (sC (s8 lr) sN) (fun w_15 h_16 => ?_)
 refine qA (vi 2) rfl rfl ?_
 refine WL.nil (thn_n (WP.seq (WP.seq (WP.reg ?_))))
 refine qV rfl (R.loadA [] [(1, [(vi 4)]), (32, key.map vu8), (1, [(vi dm)]), (1, [(.slice qa qn qc)])] [] rfl isAgg39 sizeOf39 (h_16.ok _ M1) rfl rfl rfl rfl) ?_
 refine WL.call Tryz.call20 rfl rfl (c_rMayT 4 dm key qa qn qc hk h1 h2 hz _ ) rfl ?_
 rintro _ w_18 ⟨rfl, hc_17⟩
 have h_19 := h_16.same hc_17
 refine qV rfl (R.not (b := true) rfl) (qM (.bool false) rfl rfl ?_)
 refine WL.want rfl rfl ?_
 refine qV rfl (R.fieldAddr (off' := 0) rfl underlying39 rfl sizeOf35 rfl rfl) ?_
 refine WL.want rfl rfl ?_
 refine qV rfl (R.load1 rfl isAgg35 (h_19.ok _ M1) Sg.h) ?_
 refine WL.want rfl rfl ?_
 refine qV rfl (R.bin rfl rfl (bi_eql (r := true) (by decide))) (qV rfl (R.pickF (v := (.bool true)) rfl rfl) ?_)
 refine WL.nil (thn_n ?_)
 refine WP.condT rfl ?_
 refine WP.seq (WP.reg ?_)
 refine qM (vi 2) rfl rfl (qV rfl (R.bin rfl rfl (bi_eql (r := true) (by decide))) (qM (.bool true) rfl rfl ?_))
 refine WL.want rfl rfl ?_
 refine qV rfl (R.loadA [] [(32, (zB 32).map vu8)] [] (cs := (zB 32).map vu8) rfl isAgg29 sizeOf29 (h_19.ok _ M0) rfl rfl rfl rfl) ?_
 refine WL.want rfl rfl ?_
 refine qV rfl (R.buildA (vs := []) (cs := (zB 32).map vu8) underlying29 sizeOf5 (zv typeInfo29 rfl) rfl rfl) ?_
 refine WL.want rfl rfl ?_
 refine qV rfl (R.eqA (xs := (zB 32).map vu8) (ys := (zB 32).map vu8) (r := true) rfl rfl eqGuardType29 kt29 (by decide) ag29 (Typ.u8s underlying29 ce29 underlying5 ce5 lr) (Typ.u8s underlying29 ce29 underlying5 ce5 lr) (eqT rfl)) (qV rfl (R.pickT (v := (.bool true)) rfl rfl) (qA (.bool true) rfl rfl ?_))
 refine WL.nil (thn_n (WP.ret (thn_r (inb_r (thn_r ?_)))))
 refine ret_of results8 (RV.tmp (v := (.bool true)) rfl RV.nil) ?_
 have h_32 := ((((((((((((h_19.drop rfl).drop rfl).drop rfl).up J9).up J9).up J9).up J9).up J9).up J9).up J9).up J9).up J9).up J9
 exact ⟨_, _, _, _, _, _, rfl, h_32⟩

theorem c_one2t {w00 : World} {L : List Ent} (ob mp : Nat) (df : List UInt8) (da : Option Addr) (dn dc u : Nat) (hdf : df.length = 32 * dn) (la : Option Addr) (lc : Nat) (lx : List Value) (lg : Lg) (hu : u ≤ 500000) (hlg : lg.length ≤ 500000) (rb : Nat) (dr : Option Addr) (drc : Nat) (ra : Option Addr) (rc : Nat) (rx : List Value) (dm : Int) (sn : Nat) (key data : List UInt8) (qa : Option Addr) (qn qc : Nat) (hk : key.length = 32) (hdl : data.length = qn) (hqn : qn ≤ 100000) (hqc : qn ≤ qc) (h1 : (1 : Int) ≤ 4 ∧ (4 : Int) ≤ 4) (h2 : 1 ≤ dm ∧ dm ≤ 16) (hz : (4 : Int) = 1 → key = List.replicate 32 0) (hsn : sn ≤ 1024) (w : World) (h_0 : HP w00 w (Ent.blk ob .nw 66 [(1, [(.bool true)]), (32, (List.replicate 32 (0 : UInt8)).map vu8), (1, [(.slice da dn dc)]), (1, [(vi ((u : Nat) : Int))]), (1, [(.map (some mp))]), (1, [(.slice la lg.length lc)])] :: Ent.row la lg.length lc 47 67 lx :: Ent.obj mp .nw (.map (mArr lg) lg.length) :: Ent.pin (sblks lx) (fun w => Lgs w lx lg) :: Ent.view da (df.map vu8) :: Ent.blk rb .nw 33 [(1, [(.bool true)]), (32, (List.replicate 32 (0 : UInt8)).map vu8), (1, [(.slice dr dn drc)]), (1, [(vi ((u : Nat) : Int))]), (1, [(.slice ra lg.length rc)])] :: Ent.row ra lg.length rc 47 67 rx :: Ent.pin (sblks rx) (fun w => Lgs w rx lg) :: Ent.view dr (df.map vu8) :: Ent.view qa (data.map vu8) :: L)) :
  Cs Tryz.prog 8 [(.pointer (some ⟨ob, 0, none⟩)), (.pointer (some ⟨rb, 0, none⟩)), (.agg ⟨flat [(1, [(vi 2)]), (1, [(vi ((sn : Nat) : Int))]), (1, [(vi 4)]), (32, key.map vu8), (1, [(vi dm)]), (1, [(.slice qa qn qc)])]⟩)].toArray w (fun v w1 => ∃ la' lc' lx' ra' rc' rx', v = .bool true ∧ HP w00 w1 (Ent.blk ob .nw 66 [(1, [(.bool true)]), (32, (List.replicate 32 (0 : UInt8)).map vu8), (1, [(.slice da dn dc)]), (1, [(vi (((sT df dn key dm data u lg ((sn + 31) / 32)).1 : Nat) : Int))]), (1, [(.map (some mp))]), (1, [(.slice la' ((sT df dn key dm data u lg ((sn + 31) / 32)).2.1.length) lc')])] :: Ent.row la' ((sT df dn key dm data u lg ((sn + 31) / 32)).2.1.length) lc' 47 67 lx' :: Ent.obj mp .nw (.map (mArr ((sT df dn key dm data u lg ((sn + 31) / 32)).2.1)) ((sT df dn key dm data u lg ((sn + 31) / 32)).2.1.length)) :: Ent.pin (sblks lx') (fun w => Lgs w lx' ((sT df dn key dm data u lg ((sn + 31) / 32)).2.1)) :: Ent.view da (df.map vu8) :: Ent.blk rb .nw 33 [(1, [(.bool true)]), (32, (List.replicate 32 (0 : UInt8)).map vu8), (1, [(.slice dr dn drc)]), (1, [(vi (((sT df dn key dm data u lg ((sn + 31) / 32)).1 : Nat) : Int))]), (1, [(.slice ra' ((sT df dn key dm data u lg ((sn + 31) / 32)).2.1.length) rc')])] :: Ent.row ra' ((sT df dn key dm data u lg ((sn + 31) / 32)).2.1.length) rc' 47 67 rx' :: Ent.pin (sblks rx') (fun w => Lgs w rx' ((sT df dn key dm data u lg ((sn + 31) / 32)).2.1)) :: Ent.view dr (df.map vu8) :: Ent.view qa (data.map vu8) :: L)) := by
 refine Cs.of (n := 186) (args := [(pO ob 0), (pO rb 0), (.agg ⟨flat [(1, [(vi 2)]), (1, [(vn sn)]), (1, [(vi 4)]), (32, key.map vu8), (1, [(vi dm)]), (1, [(.slice qa qn qc)])]⟩)]) Tryz.func8 rfl rfl rfl ?_
 refine WP.seq (WP.reg ?_)
 refine WL.box (segs := [(1, [(vi 2)]), (1, [(vn sn)]), (1, [(vi 4)]), (32, key.map vu8), (1, [(vi dm)]), (1, [(.slice qa qn qc)])]) h_0 rfl rfl (sC sV (sC sV (sC sV (sC (s8 hk) (sC sV (sC sV sN)))))) rfl (fun b_1 w_2 h_3 => ?_)
 refine qA (.bool false) rfl rfl ?_
 refine WL.nil (thn_n (WP.seq (WP.reg ?_)))
 refine qV rfl (R.fieldAddr (off' := 2) rfl underlying41 rfl sizeOf39 rfl rfl) (qV rfl (R.loadA [(1, [(vi 2)]), (1, [(vn sn)])] [(1, [(vi 4)]), (32, key.map vu8), (1, [(vi dm)]), (1, [(.slice qa qn qc)])] [] rfl isAgg39 sizeOf39 (h_3.ok _ M0) rfl rfl rfl rfl) ?_)
 refine WL.alloc (segs := [(1, [(vi 0)]), (32, (zB 32).map vu8), (1, [(vi 0)]), (1, [(.slice none 0 0)])]) h_3 (zv typeInfo39 rfl) rfl (sC sV (sC (s8 lr) (sC sV (sC sV sN)))) rfl (fun b_4 w_5 h_6 => ?_)
 refine WL.storeA [] [(1, [(vi 0)]), (32, (zB 32).map vu8), (1, [(vi 0)]), (1, [(.slice none 0 0)])] [(1, [(vi 4)]), (32, key.map vu8), (1, [(vi dm)]), (1, [(.slice qa qn qc)])] [] h_6 rfl rfl sizeOf39 At.h (by decide) rfl rfl rfl rfl rfl rfl (sC sV (sC (s8 hk) (sC sV (sC sV sN)))) (fun w_7 h_8 => ?_)
 refine WL.nil (thn_n (WP.seq (WP.seq (WP.reg ?_))))
 refine qV rfl (R.fieldAddr (off' := 0) rfl underlying41 rfl sizeOf3 rfl rfl) (qV rfl (R.load1 rfl isAgg3 (h_8.ok _ M1) Sg.h) ?_)
 refine WL.nil (thn_n (WP.block (WP.seq (WP.reg ?_))))
 refine qV rfl (R.bin rfl rfl (bi_eql (r := false) (by decide))) (qA (.bool false) rfl rfl ?_)
 refine WL.nil (thn_n ?_)
 refine WP.condF rfl ?_
 refine WP.seq (WP.reg ?_)
 refine qV rfl (R.bin rfl rfl (bi_eql (r := true) (by decide))) (qA (.bool true) rfl rfl ?_)
 refine WL.nil (thn_n ?_)
 refine WP.condT rfl ?_
 refine WP.seq (WP.reg ?_)
 refine qM (pO ob 0) rfl rfl (qV rfl (R.loadA [] [(1, [(vi 4)]), (32, key.map vu8), (1, [(vi dm)]), (1, [(.slice qa qn qc)])] [] rfl isAgg39 sizeOf39 (h_8.ok _ M0) rfl rfl rfl rfl) (qV rfl (R.fieldAddr (off' := 1) rfl underlying41 rfl sizeOf3 rfl rfl) (qV rfl (R.load1 rfl isAgg3 (h_8.ok _ M1) (Sg.t rfl Sg.h)) ?_)))
 have h_14 := (((((h_8.up J11).up J7).up J7).up J7).up J7).up J7
 have h32_w_19 := Lgs.ok32 (h_14.ok _ M3).1
 refine WL.call Tryz.call18 rfl rfl (c_oStream ob mp (zB 32) df lr da dn dc u hdf la lc lx lg (by omega) (by omega) dm key data qa qn qc hk h2 hdl (by omega) sn (by omega) _ h_14) rfl ?_
 rintro _ w_19 ⟨a_15, la_16, lc_17, lx_18, rfl, h_20⟩
 refine qM (.tuple [(.slice a_15 sn sn), (vi 0)].toArray) rfl rfl (qV rfl (R.extract rfl rfl) (qV rfl (R.extract rfl rfl) (qA (.slice a_15 sn sn) rfl rfl (qA (vi 0) rfl rfl ?_))))
 refine WL.nil (thn_n (WP.seq (WP.seq (WP.reg ?_))))
 refine qV rfl (R.loadA [] [(1, [(vi 4)]), (32, key.map vu8), (1, [(vi dm)]), (1, [(.slice qa qn qc)])] [] rfl isAgg39 sizeOf39 (h_20.ok _ M7) rfl rfl rfl rfl) ?_
 refine WL.call Tryz.call20 rfl rfl (c_rMayT 4 dm key qa qn qc hk h1 h2 hz _ ) rfl ?_
 rintro _ w_22 ⟨rfl, hc_21⟩
 have h_23 := h_20.same hc_21
 refine qV rfl (R.not (b := true) rfl) (qM (.bool false) rfl rfl ?_)
 refine WL.want rfl rfl ?_
 refine qV rfl (R.fieldAddr (off' := 0) rfl underlying39 rfl sizeOf35 rfl rfl) ?_
 refine WL.want rfl rfl ?_
 refine qV rfl (R.load1 rfl isAgg35 (h_23.ok _ M7) Sg.h) ?_
 refine WL.want rfl rfl ?_
 refine qV rfl (R.bin rfl rfl (bi_neq (r := false) (by decide))) (qV rfl (R.pickF (v := (.bool false)) rfl rfl) (qM (.bool false) rfl rfl ?_))
 refine WL.want rfl rfl ?_
 refine qV rfl (R.fieldAddr (off' := 1) rfl underlying41 rfl sizeOf3 rfl rfl) ?_
 refine WL.want rfl rfl ?_
 refine qV rfl (R.load1 rfl isAgg3 (h_23.ok _ M8) (Sg.t rfl Sg.h)) ?_
 refine WL.want rfl rfl ?_
 refine qV rfl (R.bin rfl rfl (bi_lss (r := decide ((((sn : Nat) : Int) : Int) < 0)) rfl)) (qV rfl (R.pickF (v := (.bool (decide ((((sn : Nat) : Int) : Int) < 0)))) rfl rfl) (qM (.bool (decide ((((sn : Nat) : Int) : Int) < 0))) rfl rfl ?_))
 refine WL.want rfl (congrArg Value.bool (decide_eq_false (by omega))) ?_
 refine qV rfl (R.fieldAddr (off' := 1) rfl underlying41 rfl sizeOf3 rfl rfl) ?_
 refine WL.want rfl (congrArg Value.bool (decide_eq_false (by omega))) ?_
 refine qV rfl (R.load1 rfl isAgg3 (h_23.ok _ M8) (Sg.t rfl Sg.h)) ?_
 refine WL.want rfl (congrArg Value.bool (decide_eq_false (by omega))) ?_
 refine qV rfl (R.bin rfl rfl (bi_gtr (r := decide ((((sn : Nat) : Int) : Int) > 1024)) rfl)) (qV rfl (R.pickF (v := (.bool (decide ((((sn : Nat) : Int) : Int) > 1024)))) (congrArg Value.bool (decide_eq_false (by omega))) rfl) ?_)
 refine WL.nil (thn_n ?_)
 refine WP.condF (congrArg Value.bool (decide_eq_false (by omega))) ?_
 refine WP.skip (thn_n (WP.seq ?_))
 refine WP.drawT (SL w00.heap.size [.row a_15 sn sn 5 1 ((((sT df dn key dm data u lg ((sn + 31) / 32)).2.2).take sn).map vu8), .blk ob .nw 66 [(1, [(.bool true)]), (32, (zB 32).map vu8), (1, [(.slice da dn dc)]), (1, [(vn ((sT df dn key dm data u lg ((sn + 31) / 32)).1))]), (1, [(.map (some mp))]), (1, [(.slice la_16 ((sT df dn key dm data u lg ((sn + 31) / 32)).2.1.length) lc_17)])], .row la_16 ((sT df dn key dm data u lg ((sn + 31) / 32)).2.1.length) lc_17 47 67 lx_18, .obj mp .nw (.map (mArr ((sT df dn key dm data u lg ((sn + 31) / 32)).2.1)) ((sT df dn key dm data u lg ((sn + 31) / 32)).2.1.length)), .pin (sblks lx_18) (fun w => Lgs w lx_18 ((sT df dn key dm data u lg ((sn + 31) / 32)).2.1)), .view da (df.map vu8), .view qa (data.map vu8), .blk b_4 .nw 39 [(1, [(vi 4)]), (32, key.map vu8), (1, [(vi dm)]), (1, [(.slice qa qn qc)])], .blk b_1 .nw 41 [(1, [(vi 2)]), (1, [(vn sn)]), (1, [(vi 4)]), (32, key.map vu8), (1, [(vi dm)]), (1, [(.slice qa qn qc)])]]) (.q 0 (.q 1 (.q 2 (.q 3 (.q 4 (.q 5 (.q 6 (.q 7 (.q 8 (.s 9 (.s 10 (.q 11 (.q 12 (.q 13 .nil)))))))))))))) (by kernel_rfl) (by kernel_rfl) rfl (by kernel_rfl) (fun w_24 hc_26 => (SL.cons ((h_23.same hc_26).ok _ M0) (SL.cons ((h_23.same hc_26).ok _ M1) (SL.cons ((h_23.same hc_26).ok _ M2) (SL.cons ((h_23.same hc_26).ok _ M3) (SL.cons ((h_23.same hc_26).ok _ M4) (SL.cons ((h_23.same hc_26).ok _ M5) (SL.cons ((h_23.same hc_26).ok _ M6) (SL.cons ((h_23.same hc_26).ok _ M7) (SL.cons ((h_23.same hc_26).ok _ M8) (SL.nil _ _))))))))))) (fun w_24 hc_26 => ?_)
 have h_25 := h_23.same hc_26
 refine qT rfl rfl (fun wq hS => R.move (v := (vi 0)) rfl) ?_
 refine qT rfl rfl (fun wq hS => R.bin rfl rfl (bi_eql (r := true) (by decide))) ?_
 refine qT rfl rfl (fun wq hS => R.move (v := (.bool true)) rfl) ?_
 refine WT.q rfl (Wn.yes rfl rfl rfl) rfl rfl (fun wq hS => R.move (v := (.slice a_15 sn sn)) rfl) ?_
 refine WT.q rfl (Wn.yes rfl rfl rfl) rfl rfl (fun wq hS => R.toStr (bs := ((sT df dn key dm data u lg ((sn + 31) / 32)).2.2).take sn) rfl underlying37 underlying5 underlying9 (ownView (hS _ M0)) (by rw [List.length_take, sT_len hdf h32_w_19]; omega)) ?_
 refine WT.q rfl (Wn.yes rfl rfl rfl) rfl rfl (fun wq hS => R.move (v := (pO rb 0)) rfl) ?_
 refine WT.q rfl (Wn.yes rfl rfl rfl) rfl rfl (fun wq hS => R.loadA [] [(1, [(vi 4)]), (32, key.map vu8), (1, [(vi dm)]), (1, [(.slice qa qn qc)])] [] rfl isAgg39 sizeOf39 (hS _ M7) rfl rfl rfl rfl) ?_
 refine WT.q rfl (Wn.yes rfl rfl rfl) rfl rfl (fun wq hS => R.fieldAddr (off' := 1) rfl underlying41 rfl sizeOf3 rfl rfl) ?_
 refine WT.q rfl (Wn.yes rfl rfl rfl) rfl rfl (fun wq hS => R.load1 rfl isAgg3 (hS _ M8) (Sg.t rfl Sg.h)) ?_
 refine WT.s ?_
 refine Op1.one rfl (Wn.yes rfl rfl rfl) ?_
 have h_31 := ((((h_25.up J6).up J12).up J12).up J12).up J12
 have h32_w_37 := (Lgs.ok32 (h_31.ok _ M2).1)
 refine WL.call Tryz.call22 rfl rfl (c_rStreamI rb (zB 32) df lr dr dn drc u hdf ra rc rx lg (by omega) (by omega) dm key data qa qn qc hk h2 hdl (by omega) sn (by omega) _ h_31) rfl ?_
 rintro _ w_37 ⟨a_32, c_33, la_34, lc_35, lx_36, rfl, h_38⟩
 refine WL.nil ?_
 refine ⟨(N6_7_8_9_10_11_5_12_13 h_38.ok), ?_⟩
 refine WT.s ?_
 refine Op1.one rfl (Wn.yes rfl rfl rfl) ?_
 refine qV rfl (R.toStr (bs := ((sT df dn key dm data u lg ((sn + 31) / 32)).2.2).take sn) rfl underlying37 underlying5 underlying9 (ownView (h_38.ok _ M0)) (by rw [List.length_take, sT_len hdf h32_w_37]; omega)) ?_
 refine WL.nil ?_
 refine ⟨(N6_7_8_9_10_11_5_12_13 h_38.ok), ?_⟩
 refine WT.q rfl (Wn.yes rfl rfl rfl) rfl rfl (fun wq hS => R.eqStr (a := ((sT df dn key dm data u lg ((sn + 31) / 32)).2.2).take sn) (b := ((sT df dn key dm data u lg ((sn + 31) / 32)).2.2).take sn) (r := true) rfl rfl (by simp)) ?_
 refine qT rfl rfl (fun wq hS => R.pickT (v := (.bool true)) rfl rfl) ?_
 refine qT rfl rfl (fun wq hS => R.assign (v := (.bool true)) rfl) ?_
 refine WT.nil (thn_n (WP.ret (inb_r (thn_r ?_))))
 refine ret_of results8 (RV.tmp (v := (.bool true)) rfl RV.nil) ?_
 have h_55 := ((((((((((((((((h_38.drop rfl).up J5).drop rfl).up J10).drop rfl).up J10).drop rfl).up J4).up J4).up J4).up J4).up J4).up J9).up J9).up J9).up J9).up J9
 exact ⟨_, _, _, _, _, _, rfl, h_55⟩

theorem c_one2n {w00 : World} {L : List Ent} (ob mp : Nat) (df : List UInt8) (da : Option Addr) (dn dc u : Nat) (hdf : df.length = 32 * dn) (la : Option Addr) (lc : Nat) (lx : List Value) (lg : Lg) (hu : u ≤ 500000) (hlg : lg.length ≤ 500000) (rb : Nat) (dr : Option Addr) (drc : Nat) (ra : Option Addr) (rc : Nat) (rx : List Value) (kd dm sn : Int) (key data : List UInt8) (qa : Option Addr) (qn qc : Nat) (hk : key.length = 32) (hdl : data.length = qn) (hqn : qn ≤ 100000) (hqc : qn ≤ qc) (hm : mayB kd dm key = false) (w : World) (h_0 : HP w00 w (Ent.blk ob .nw 66 [(1, [(.bool true)]), (32, (List.replicate 32 (0 : UInt8)).map vu8), (1, [(.slice da dn dc)]), (1, [(vi ((u : Nat) : Int))]), (1, [(.map (some mp))]), (1, [(.slice la lg.length lc)])] :: Ent.row la lg.length lc 47 67 lx :: Ent.obj mp .nw (.map (mArr lg) lg.length) :: Ent.pin (sblks lx) (fun w => Lgs w lx lg) :: Ent.view da (df.map vu8) :: Ent.blk rb .nw 33 [(1, [(.bool true)]), (32, (List.replicate 32 (0 : UInt8)).map vu8), (1, [(.slice dr dn drc)]), (1, [(vi ((u : Nat) : Int))]), (1, [(.slice ra lg.length rc)])] :: Ent.row ra lg.length rc 47 67 rx :: Ent.pin (sblks rx) (fun w => Lgs w rx lg) :: Ent.view dr (df.map vu8) :: Ent.view qa (data.map vu8) :: L)) :
  Cs Tryz.prog 8 [(.pointer (some ⟨ob, 0, none⟩)), (.pointer (some ⟨rb, 0, none⟩)), (.agg ⟨flat [(1, [(vi 2)]), (1, [(vi sn)]), (1, [(vi kd)]), (32, key.map vu8), (1, [(vi dm)]), (1, [(.slice qa qn qc)])]⟩)].toArray w (fun v w1 => ∃ la' lc' lx' ra' rc' rx', v = .bool true ∧ HP w00 w1 (Ent.blk ob .nw 66 [(1, [(.bool true)]), (32, (List.replicate 32 (0 : UInt8)).map vu8), (1, [(.slice da dn dc)]), (1, [(vi ((u : Nat) : Int))]), (1, [(.map (some mp))]), (1, [(.slice la' lg.length lc')])] :: Ent.row la' lg.length lc' 47 67 lx' :: Ent.obj mp .nw (.map (mArr lg) lg.length) :: Ent.pin (sblks lx') (fun w => Lgs w lx' lg) :: Ent.view da (df.map vu8) :: Ent.blk rb .nw 33 [(1, [(.bool true)]), (32, (List.replicate 32 (0 : UInt8)).map vu8), (1, [(.slice dr dn drc)]), (1, [(vi ((u : Nat) : Int))]), (1, [(.slice ra' lg.length rc')])] :: Ent.row ra' lg.length rc' 47 67 rx' :: Ent.pin (sblks rx') (fun w => Lgs w rx' lg) :: Ent.view dr (df.map vu8) :: Ent.view qa (data.map vu8) :: L)) := by
 refine Cs.of (n := 186) (args := [(pO ob 0), (pO rb 0), (.agg ⟨flat [(1, [(vi 2)]), (1, [(vi sn)]), (1, [(vi kd)]), (32, key.map vu8), (1, [(vi dm)]), (1, [(.slice qa qn qc)])]⟩)]) Tryz.func8 rfl rfl rfl ?_
 refine WP.seq (WP.reg ?_)
 refine WL.box (segs := [(1, [(vi 2)]), (1, [(vi sn)]), (1, [(vi kd)]), (32, key.map vu8), (1, [(vi dm)]), (1, [(.slice qa qn qc)])]) h_0 rfl rfl (sC sV (sC sV (sC sV (sC (s8 hk) (sC sV (sC sV sN)))))) rfl (fun b_1 w_2 h_3 => ?_)
 refine qA (.bool false) rfl rfl ?_
 refine WL.nil (thn_n (WP.seq (WP.reg ?_)))
 refine qV rfl (R.fieldAddr (off' := 2) rfl underlying41 rfl sizeOf39 rfl rfl) (qV rfl (R.loadA [(1, [(vi 2)]), (1, [(vi sn)])] [(1, [(vi kd)]), (32, key.map vu8), (1, [(vi dm)]), (1, [(.slice qa qn qc)])] [] rfl isAgg39 sizeOf39 (h_3.ok _ M0) rfl rfl rfl rfl) ?_)
 refine WL.alloc (segs := [(1, [(vi 0)]), (32, (zB 32).map vu8), (1, [(vi 0)]), (1, [(.slice none 0 0)])]) h_3 (zv typeInfo39 rfl) rfl (sC sV (sC (s8 lr) (sC sV (sC sV sN)))) rfl (fun b_4 w_5 h_6 => ?_)
 refine WL.storeA [] [(1, [(vi 0)]), (32, (zB 32).map vu8), (1, [(vi 0)]), (1, [(.slice none 0 0)])] [(1, [(vi kd)]), (32, key.map vu8), (1, [(vi dm)]), (1, [(.slice qa qn qc)])] [] h_6 rfl rfl sizeOf39 At.h (by decide) rfl rfl rfl rfl rfl rfl (sC sV (sC (s8 hk) (sC sV (sC sV sN)))) (fun w_7 h_8 => ?_)
 refine WL.nil (thn_n (WP.seq (WP.seq (WP.reg ?_))))
 refine qV rfl (R.fieldAddr (off' := 0) rfl underlying41 rfl sizeOf3 rfl rfl) (qV rfl (R.load1 rfl isAgg3 (h_8.ok _ M1) Sg.h) ?_)
 refine WL.nil (thn_n (WP.block (WP.seq (WP.reg ?_))))
 refine qV rfl (R.bin rfl rfl (bi_eql (r := false) (by decide))) (qA (.bool false) rfl rfl ?_)
 refine WL.nil (thn_n ?_)
 refine WP.condF rfl ?_
 refine WP.seq (WP.reg ?_)
 refine qV rfl (R.bin rfl rfl (bi_eql (r := true) (by decide))) (qA (.bool true) rfl rfl ?_)
 refine WL.nil (thn_n ?_)
 refine WP.condT rfl ?_
 refine WP.seq (WP.reg ?_)
 refine qM (pO ob 0) rfl rfl (qV rfl (R.loadA [] [(1, [(vi kd)]), (32, key.map vu8), (1, [(vi dm)]), (1, [(.slice qa qn qc)])] [] rfl isAgg39 sizeOf39 (h_8.ok _ M0) rfl rfl rfl rfl) (qV rfl (R.fieldAddr (off' := 1) rfl underlying41 rfl sizeOf3 rfl rfl) (qV rfl (R.load1 rfl isAgg3 (h_8.ok _ M1) (Sg.t rfl Sg.h)) ?_)))
 refine WL.call Tryz.call18 rfl rfl (c_oStrN true ob mp (zB 32) lr da dn dc u la lg.length lc kd dm key qa qn qc hk sn hm _ (h_8.argR M2)) rfl ?_
 rintro _ w_10 ⟨rfl, hc_9⟩
 have h_11 := h_8.same hc_9
 refine qM (.tuple [(.slice none 0 0), (vi 2)].toArray) rfl rfl (qV rfl (R.extract rfl rfl) (qV rfl (R.extract rfl rfl) (qA (.slice none 0 0) rfl rfl (qA (vi 2) rfl rfl ?_))))
 refine WL.nil (thn_n (WP.seq (WP.seq (WP.reg ?_))))
 refine qV rfl (R.loadA [] [(1, [(vi kd)]), (32, key.map vu8), (1, [(vi dm)]), (1, [(.slice qa qn qc)])] [] rfl isAgg39 sizeOf39 (h_11.ok _ M0) rfl rfl rfl rfl) ?_
 refine WL.call Tryz.call20 rfl rfl (c_rMayF kd dm key qa qn qc hk hm _ ) rfl ?_
 rintro _ w_13 ⟨rfl, hc_12⟩
 have h_14 := h_11.same hc_12
 refine qV rfl (R.not (b := false) rfl) (qM (.bool true) rfl rfl ?_)
 refine WL.skip rfl rfl rfl ?_
 refine WL.skip rfl rfl rfl ?_
 refine WL.skip rfl rfl rfl ?_
 refine qV rfl (R.pickT (v := (.bool true)) rfl rfl) (qM (.bool true) rfl rfl ?_)
 refine WL.skip rfl rfl rfl ?_
 refine WL.skip rfl rfl rfl ?_
 refine WL.skip rfl rfl rfl ?_
 refine qV rfl (R.pickT (v := (.bool true)) rfl rfl) (qM (.bool true) rfl rfl ?_)
 refine WL.skip rfl rfl rfl ?_
 refine WL.skip rfl rfl rfl ?_
 refine WL.skip rfl rfl rfl ?_
 refine qV rfl (R.pickT (v := (.bool true)) rfl rfl) ?_
 refine WL.nil (thn_n ?_)
 refine WP.condT rfl ?_
 refine WP.seq (WP.reg ?_)
 refine qM (vi 2) rfl rfl (qV rfl (R.bin rfl rfl (bi_eql (r := true) (by decide))) (qM (.bool true) rfl rfl ?_))
 refine WL.want rfl rfl ?_
 refine qM (.slice none 0 0) rfl rfl ?_
 refine WL.want rfl rfl ?_
 refine qV rfl (R.lenS (a := none) (m := 0) rfl rfl underlying37) ?_
 refine WL.want rfl rfl ?_
 refine qV rfl (R.bin rfl rfl (bi_eql (r := true) (by decide))) (qV rfl (R.pickT (v := (.bool true)) rfl rfl) (qA (.bool true) rfl rfl ?_))
 refine WL.nil (thn_n (WP.ret (thn_r (inb_r (thn_r ?_)))))
 refine ret_of results8 (RV.tmp (v := (.bool true)) rfl RV.nil) ?_
 have h_26 := (((((((((((h_14.drop rfl).drop rfl).up J9).up J9).up J9).up J9).up J9).up J9).up J9).up J9).up J9).up J9
 exact ⟨_, _, _, _, _, _, rfl, h_26⟩

theorem c_one2k {w00 : World} {L : List Ent} (ob mp : Nat) (df : List UInt8) (da : Option Addr) (dn dc u : Nat) (hdf : df.length = 32 * dn) (la : Option Addr) (lc : Nat) (lx : List Value) (lg : Lg) (hu : u ≤ 500000) (hlg : lg.length ≤ 500000) (rb : Nat) (dr : Option Addr) (drc : Nat) (ra : Option Addr) (rc : Nat) (rx : List Value) (kd dm sn : Int) (key data : List UInt8) (qa : Option Addr) (qn qc : Nat) (hk : key.length = 32) (hdl : data.length = qn) (hqn : qn ≤ 100000) (hqc : qn ≤ qc) (h1 : 1 ≤ kd ∧ kd ≤ 4) (h2 : 1 ≤ dm ∧ dm ≤ 16) (hz : kd = 1 → key = List.replicate 32 0) (hk4 : ¬ kd = 4) (w : World) (h_0 : HP w00 w (Ent.blk ob .nw 66 [(1, [(.bool true)]), (32, (List.replicate 32 (0 : UInt8)).map vu8), (1, [(.slice da dn dc)]), (1, [(vi ((u : Nat) : Int))]), (1, [(.map (some mp))]), (1, [(.slice la lg.length lc)])] :: Ent.row la lg.length lc 47 67 lx :: Ent.obj mp .nw (.map (mArr lg) lg.length) :: Ent.pin (sblks lx) (fun w => Lgs w lx lg) :: Ent.view da (df.map vu8) :: Ent.blk rb .nw 33 [(1, [(.bool true)]), (32, (List.replicate 32 (0 : UInt8)).map vu8), (1, [(.slice dr dn drc)]), (1, [(vi ((u : Nat) : Int))]), (1, [(.slice ra lg.length rc)])] :: Ent.row ra lg.length rc 47 67 rx :: Ent.pin (sblks rx) (fun w => Lgs w rx lg) :: Ent.view dr (df.map vu8) :: Ent.view qa (data.map vu8) :: L)) :
  Cs Tryz.prog 8 [(.pointer (some ⟨ob, 0, none⟩)), (.pointer (some ⟨rb, 0, none⟩)), (.agg ⟨flat [(1, [(vi 2)]), (1, [(vi sn)]), (1, [(vi kd)]), (32, key.map vu8), (1, [(vi dm)]), (1, [(.slice qa qn qc)])]⟩)].toArray w (fun v w1 => ∃ la' lc' lx' ra' rc' rx', v = .bool true ∧ HP w00 w1 (Ent.blk ob .nw 66 [(1, [(.bool true)]), (32, (List.replicate 32 (0 : UInt8)).map vu8), (1, [(.slice da dn dc)]), (1, [(vi ((u : Nat) : Int))]), (1, [(.map (some mp))]), (1, [(.slice la' lg.length lc')])] :: Ent.row la' lg.length lc' 47 67 lx' :: Ent.obj mp .nw (.map (mArr lg) lg.length) :: Ent.pin (sblks lx') (fun w => Lgs w lx' lg) :: Ent.view da (df.map vu8) :: Ent.blk rb .nw 33 [(1, [(.bool true)]), (32, (List.replicate 32 (0 : UInt8)).map vu8), (1, [(.slice dr dn drc)]), (1, [(vi ((u : Nat) : Int))]), (1, [(.slice ra' lg.length rc')])] :: Ent.row ra' lg.length rc' 47 67 rx' :: Ent.pin (sblks rx') (fun w => Lgs w rx' lg) :: Ent.view dr (df.map vu8) :: Ent.view qa (data.map vu8) :: L)) := by
 refine Cs.of (n := 186) (args := [(pO ob 0), (pO rb 0), (.agg ⟨flat [(1, [(vi 2)]), (1, [(vi sn)]), (1, [(vi kd)]), (32, key.map vu8), (1, [(vi dm)]), (1, [(.slice qa qn qc)])]⟩)]) Tryz.func8 rfl rfl rfl ?_
 refine WP.seq (WP.reg ?_)
 refine WL.box (segs := [(1, [(vi 2)]), (1, [(vi sn)]), (1, [(vi kd)]), (32, key.map vu8), (1, [(vi dm)]), (1, [(.slice qa qn qc)])]) h_0 rfl rfl (sC sV (sC sV (sC sV (sC (s8 hk) (sC sV (sC sV sN)))))) rfl (fun b_1 w_2 h_3 => ?_)
 refine qA (.bool false) rfl rfl ?_
 refine WL.nil (thn_n (WP.seq (WP.reg ?_)))
 refine qV rfl (R.fieldAddr (off' := 2) rfl underlying41 rfl sizeOf39 rfl rfl) (qV rfl (R.loadA [(1, [(vi 2)]), (1, [(vi sn)])] [(1, [(vi kd)]), (32, key.map vu8), (1, [(vi dm)]), (1, [(.slice qa qn qc)])] [] rfl isAgg39 sizeOf39 (h_3.ok _ M0) rfl rfl rfl rfl) ?_)
 refine WL.alloc (segs := [(1, [(vi 0)]), (32, (zB 32).map vu8), (1, [(vi 0)]), (1, [(.slice none 0 0)])]) h_3 (zv typeInfo39 rfl) rfl (sC sV (sC (s8 lr) (sC sV (sC sV sN)))) rfl (fun b_4 w_5 h_6 => ?_)
 refine WL.storeA [] [(1, [(vi 0)]), (32, (zB 32).map vu8), (1, [(vi 0)]), (1, [(.slice none 0 0)])] [(1, [(vi kd)]), (32, key.map vu8), (1, [(vi dm)]), (1, [(.slice qa qn qc)])] [] h_6 rfl rfl sizeOf39 At.h (by decide) rfl rfl rfl rfl rfl rfl (sC sV (sC (s8 hk) (sC sV (sC sV sN)))) (fun w_7 h_8 => ?_)
 refine WL.nil (thn_n (WP.seq (WP.seq (WP.reg ?_))))
 refine qV rfl (R.fieldAddr (off' := 0) rfl underlying41 rfl sizeOf3 rfl rfl) (qV rfl (R.load1 rfl isAgg3 (h_8.ok _ M1) Sg.h) ?_)
 refine WL.nil (thn_n (WP.block (WP.seq (WP.reg ?_))))
 refine qV rfl (R.bin rfl rfl (bi_eql (r := false) (by decide))) (qA (.bool false) rfl rfl ?_)
 refine WL.nil (thn_n ?_)
 refine WP.condF rfl ?_
 refine WP.seq (WP.reg ?_)
 refine qV rfl (R.bin rfl rfl (bi_eql (r := true) (by decide))) (qA (.bool true) rfl rfl ?_)
 refine WL.nil (thn_n ?_)
 refine WP.condT rfl ?_
 refine WP.seq (WP.reg ?_)
 refine qM (pO ob 0) rfl rfl (qV rfl (R.loadA [] [(1, [(vi kd)]), (32, key.map vu8), (1, [(vi dm)]), (1, [(.slice qa qn qc)])] [] rfl isAgg39 sizeOf39 (h_8.ok _ M0) rfl rfl rfl rfl) (qV rfl (R.fieldAddr (off' := 1) rfl underlying41 rfl sizeOf3 rfl rfl) (qV rfl (R.load1 rfl isAgg3 (h_8.ok _ M1) (Sg.t rfl Sg.h)) ?_)))
 refine WL.call Tryz.call18 rfl rfl (c_oStrK true ob mp (zB 32) lr da dn dc u la lg.length lc kd dm key qa qn qc hk sn h1 h2 hz hk4 _ (h_8.argR M2)) rfl ?_
 rintro _ w_10 ⟨rfl, hc_9⟩
 have h_11 := h_8.same hc_9
 refine qM (.tuple [(.slice none 0 0), (vi 2)].toArray) rfl rfl (qV rfl (R.extract rfl rfl) (qV rfl (R.extract rfl rfl) (qA (.slice none 0 0) rfl rfl (qA (vi 2) rfl rfl ?_))))
 refine WL.nil (thn_n (WP.seq (WP.seq (WP.reg ?_))))
 refine qV rfl (R.loadA [] [(1, [(vi kd)]), (32, key.map vu8), (1, [(vi dm)]), (1, [(.slice qa qn qc)])] [] rfl isAgg39 sizeOf39 (h_11.ok _ M0) rfl rfl rfl rfl) ?_
 refine WL.call Tryz.call20 rfl rfl (c_rMayT kd dm key qa qn qc hk h1 h2 hz _ ) rfl ?_
 rintro _ w_13 ⟨rfl, hc_12⟩
 have h_14 := h_11.same hc_12
 refine qV rfl (R.not (b := true) rfl) (qM (.bool false) rfl rfl ?_)
 refine WL.want rfl rfl ?_
 refine qV rfl (R.fieldAddr (off' := 0) rfl underlying39 rfl sizeOf35 rfl rfl) ?_
 refine WL.want rfl rfl ?_
 refine qV rfl (R.load1 rfl isAgg35 (h_14.ok _ M0) Sg.h) ?_
 refine WL.want rfl rfl ?_
 refine qV rfl (R.bin rfl rfl (bi_neq (r := decide ((kd : Int) ≠ 4)) rfl)) (qV rfl (R.pickF (v := (.bool (decide ((kd : Int) ≠ 4)))) rfl rfl) (qM (.bool (decide ((kd : Int) ≠ 4))) rfl rfl ?_))
 refine WL.skip rfl (congrArg Value.bool (decide_eq_true hk4)) rfl ?_
 refine WL.skip rfl (congrArg Value.bool (decide_eq_true hk4)) rfl ?_
 refine WL.skip rfl (congrArg Value.bool (decide_eq_true hk4)) rfl ?_
 refine qV rfl (R.pickT (v := (.bool true)) (congrArg Value.bool (decide_eq_true hk4)) rfl) (qM (.bool true) rfl rfl ?_)
 refine WL.skip rfl rfl rfl ?_
 refine WL.skip rfl rfl rfl ?_
 refine WL.skip rfl rfl rfl ?_
 refine qV rfl (R.pickT (v := (.bool true)) rfl rfl) ?_
 refine WL.nil (thn_n ?_)
 refine WP.condT rfl ?_
 refine WP.seq (WP.reg ?_)
 refine qM (vi 2) rfl rfl (qV rfl (R.bin rfl rfl (bi_eql (r := true) (by decide))) (qM (.bool true) rfl rfl ?_))
 refine WL.want rfl rfl ?_
 refine qM (.slice none 0 0) rfl rfl ?_
 refine WL.want rfl rfl ?_
 refine qV rfl (R.lenS (a := none) (m := 0) rfl rfl underlying37) ?_
 refine WL.want rfl rfl ?_
 refine qV rfl (R.bin rfl rfl (bi_eql (r := true) (by decide))) (qV rfl (R.pickT (v := (.bool true)) rfl rfl) (qA (.bool true) rfl rfl ?_))
 refine WL.nil (thn_n (WP.ret (thn_r (inb_r (thn_r ?_)))))
 refine ret_of results8 (RV.tmp (v := (.bool true)) rfl RV.nil) ?_
 have h_26 := (((((((((((h_14.drop rfl).drop rfl).up J9).up J9).up J9).up J9).up J9).up J9).up J9).up J9).up J9).up J9
 exact ⟨_, _, _, _, _, _, rfl, h_26⟩

theorem c_one2L {w00 : World} {L : List Ent} (ob mp : Nat) (df : List UInt8) (da : Option Addr) (dn dc u : Nat) (hdf : df.length = 32 * dn) (la : Option Addr) (lc : Nat) (lx : List Value) (lg : Lg) (hu : u ≤ 500000) (hlg : lg.length ≤ 500000) (rb : Nat) (dr : Option Addr) (drc : Nat) (ra : Option Addr) (rc : Nat) (rx : List Value) (dm sn : Int) (key data : List UInt8) (qa : Option Addr) (qn qc : Nat) (hk : key.length = 32) (hdl : data.length = qn) (hqn : qn ≤ 100000) (hqc : qn ≤ qc) (h1 : (1 : Int) ≤ 4 ∧ (4 : Int) ≤ 4) (h2 : 1 ≤ dm ∧ dm ≤ 16) (hz : (4 : Int) = 1 → key = List.replicate 32 0) (hsn : sn < 0) (w : World) (h_0 : HP w00 w (Ent.blk ob .nw 66 [(1, [(.bool true)]), (32, (List.replicate 32 (0 : UInt8)).map vu8), (1, [(.slice da dn dc)]), (1, [(vi ((u : Nat) : Int))]), (1, [(.map (some mp))]), (1, [(.slice la lg.length lc)])] :: Ent.row la lg.length lc 47 67 lx :: Ent.obj mp .nw (.map (mArr lg) lg.length) :: Ent.pin (sblks lx) (fun w => Lgs w lx lg) :: Ent.view da (df.map vu8) :: Ent.blk rb .nw 33 [(1, [(.bool true)]), (32, (List.replicate 32 (0 : UInt8)).map vu8), (1, [(.slice dr dn drc)]), (1, [(vi ((u : Nat) : Int))]), (1, [(.slice ra lg.length rc)])] :: Ent.row ra lg.length rc 47 67 rx :: Ent.pin (sblks rx) (fun w => Lgs w rx lg) :: Ent.view dr (df.map vu8) :: Ent.view qa (data.map vu8) :: L)) :
  Cs Tryz.prog 8 [(.pointer (some ⟨ob, 0, none⟩)), (.pointer (some ⟨rb, 0, none⟩)), (.agg ⟨flat [(1, [(vi 2)]), (1, [(vi sn)]), (1, [(vi 4)]), (32, key.map vu8), (1, [(vi dm)]), (1, [(.slice qa qn qc)])]⟩)].toArray w (fun v w1 => ∃ la' lc' lx' ra' rc' rx', v = .bool true ∧ HP w00 w1 (Ent.blk ob .nw 66 [(1, [(.bool true)]), (32, (List.replicate 32 (0 : UInt8)).map vu8), (1, [(.slice da dn dc)]), (1, [(vi ((u : Nat) : Int))]), (1, [(.map (some mp))]), (1, [(.slice la' lg.length lc')])] :: Ent.row la' lg.length lc' 47 67 lx' :: Ent.obj mp .nw (.map (mArr lg) lg.length) :: Ent.pin (sblks lx') (fun w => Lgs w lx' lg) :: Ent.view da (df.map vu8) :: Ent.blk rb .nw 33 [(1, [(.bool true)]), (32, (List.replicate 32 (0 : UInt8)).map vu8), (1, [(.slice dr dn drc)]), (1, [(vi ((u : Nat) : Int))]), (1, [(.slice ra' lg.length rc')])] :: Ent.row ra' lg.length rc' 47 67 rx' :: Ent.pin (sblks rx') (fun w => Lgs w rx' lg) :: Ent.view dr (df.map vu8) :: Ent.view qa (data.map vu8) :: L)) := by
 refine Cs.of (n := 186) (args := [(pO ob 0), (pO rb 0), (.agg ⟨flat [(1, [(vi 2)]), (1, [(vi sn)]), (1, [(vi 4)]), (32, key.map vu8), (1, [(vi dm)]), (1, [(.slice qa qn qc)])]⟩)]) Tryz.func8 rfl rfl rfl ?_
 refine WP.seq (WP.reg ?_)
 refine WL.box (segs := [(1, [(vi 2)]), (1, [(vi sn)]), (1, [(vi 4)]), (32, key.map vu8), (1, [(vi dm)]), (1, [(.slice qa qn qc)])]) h_0 rfl rfl (sC sV (sC sV (sC sV (sC (s8 hk) (sC sV (sC sV sN)))))) rfl (fun b_1 w_2 h_3 => ?_)
 refine qA (.bool false) rfl rfl ?_
 refine WL.nil (thn_n (WP.seq (WP.reg ?_)))
 refine qV rfl (R.fieldAddr (off' := 2) rfl underlying41 rfl sizeOf39 rfl rfl) (qV rfl (R.loadA [(1, [(vi 2)]), (1, [(vi sn)])] [(1, [(vi 4)]), (32, key.map vu8), (1, [(vi dm)]), (1, [(.slice qa qn qc)])] [] rfl isAgg39 sizeOf39 (h_3.ok _ M0) rfl rfl rfl rfl) ?_)
 refine WL.alloc (segs := [(1, [(vi 0)]), (32, (zB 32).map vu8), (1, [(vi 0)]), (1, [(.slice none 0 0)])]) h_3 (zv typeInfo39 rfl) rfl (sC sV (sC (s8 lr) (sC sV (sC sV sN)))) rfl (fun b_4 w_5 h_6 => ?_)
 refine WL.storeA [] [(1, [(vi 0)]), (32, (zB 32).map vu8), (1, [(vi 0)]), (1, [(.slice none 0 0)])] [(1, [(vi 4)]), (32, key.map vu8), (1, [(vi dm)]), (1, [(.slice qa qn qc)])] [] h_6 rfl rfl sizeOf39 At.h (by decide) rfl rfl rfl rfl rfl rfl (sC sV (sC (s8 hk) (sC sV (sC sV sN)))) (fun w_7 h_8 => ?_)
 refine WL.nil (thn_n (WP.seq (WP.seq (WP.reg ?_))))
 refine qV rfl (R.fieldAddr (off' := 0) rfl underlying41 rfl sizeOf3 rfl rfl) (qV rfl (R.load1 rfl isAgg3 (h_8.ok _ M1) Sg.h) ?_)
 refine WL.nil (thn_n (WP.block (WP.seq (WP.reg ?_))))
 refine qV rfl (R.bin rfl rfl (bi_eql (r := false) (by decide))) (qA (.bool false) rfl rfl ?_)
 refine WL.nil (thn_n ?_)
 refine WP.condF rfl ?_
 refine WP.seq (WP.reg ?_)
 refine qV rfl (R.bin rfl rfl (bi_eql (r := true) (by decide))) (qA (.bool true) rfl rfl ?_)
 refine WL.nil (thn_n ?_)
 refine WP.condT rfl ?_
 refine WP.seq (WP.reg ?_)
 refine qM (pO ob 0) rfl rfl (qV rfl (R.loadA [] [(1, [(vi 4)]), (32, key.map vu8), (1, [(vi dm)]), (1, [(.slice qa qn qc)])] [] rfl isAgg39 sizeOf39 (h_8.ok _ M0) rfl rfl rfl rfl) (qV rfl (R.fieldAddr (off' := 1) rfl underlying41 rfl sizeOf3 rfl rfl) (qV rfl (R.load1 rfl isAgg3 (h_8.ok _ M1) (Sg.t rfl Sg.h)) ?_)))
 refine WL.call Tryz.call18 rfl rfl (c_oStrL true ob mp (zB 32) lr da dn dc u la lg.length lc dm key qa qn qc hk sn h1 h2 hz hsn _ (h_8.argR M2)) rfl ?_
 rintro _ w_10 ⟨rfl, hc_9⟩
 have h_11 := h_8.same hc_9
 refine qM (.tuple [(.slice none 0 0), (vi 2)].toArray) rfl rfl (qV rfl (R.extract rfl rfl) (qV rfl (R.extract rfl rfl) (qA (.slice none 0 0) rfl rfl (qA (vi 2) rfl rfl ?_))))
 refine WL.nil (thn_n (WP.seq (WP.seq (WP.reg ?_))))
 refine qV rfl (R.loadA [] [(1, [(vi 4)]), (32, key.map vu8), (1, [(vi dm)]), (1, [(.slice qa qn qc)])] [] rfl isAgg39 sizeOf39 (h_11.ok _ M0) rfl rfl rfl rfl) ?_
 refine WL.call Tryz.call20 rfl rfl (c_rMayT 4 dm key qa qn qc hk h1 h2 hz _ ) rfl ?_
 rintro _ w_13 ⟨rfl, hc_12⟩
 have h_14 := h_11.same hc_12
 refine qV rfl (R.not (b := true) rfl) (qM (.bool false) rfl rfl ?_)
 refine WL.want rfl rfl ?_
 refine qV rfl (R.fieldAddr (off' := 0) rfl underlying39 rfl sizeOf35 rfl rfl) ?_
 refine WL.want rfl rfl ?_
 refine qV rfl (R.load1 rfl isAgg35 (h_14.ok _ M0) Sg.h) ?_
 refine WL.want rfl rfl ?_
 refine qV rfl (R.bin rfl rfl (bi_neq (r := false) (by decide))) (qV rfl (R.pickF (v := (.bool false)) rfl rfl) (qM (.bool false) rfl rfl ?_))
 refine WL.want rfl rfl ?_
 refine qV rfl (R.fieldAddr (off' := 1) rfl underlying41 rfl sizeOf3 rfl rfl) ?_
 refine WL.want rfl rfl ?_
 refine qV rfl (R.load1 rfl isAgg3 (h_14.ok _ M1) (Sg.t rfl Sg.h)) ?_
 refine WL.want rfl rfl ?_
 refine qV rfl (R.bin rfl rfl (bi_lss (r := decide ((sn : Int) < 0)) rfl)) (qV rfl (R.pickF (v := (.bool (decide ((sn : Int) < 0)))) rfl rfl) (qM (.bool (decide ((sn : Int) < 0))) rfl rfl ?_))
 refine WL.skip rfl (congrArg Value.bool (decide_eq_true (by omega))) rfl ?_
 refine WL.skip rfl (congrArg Value.bool (decide_eq_true (by omega))) rfl ?_
 refine WL.skip rfl (congrArg Value.bool (decide_eq_true (by omega))) rfl ?_
 refine qV rfl (R.pickT (v := (.bool true)) (congrArg Value.bool (decide_eq_true (by omega))) rfl) ?_
 refine WL.nil (thn_n ?_)
 refine WP.condT rfl ?_
 refine WP.seq (WP.reg ?_)
 refine qM (vi 2) rfl rfl (qV rfl (R.bin rfl rfl (bi_eql (r := true) (by decide))) (qM (.bool true) rfl rfl ?_))
 refine WL.want rfl rfl ?_
 refine qM (.slice none 0 0) rfl rfl ?_
 refine WL.want rfl rfl ?_
 refine qV rfl (R.lenS (a := none) (m := 0) rfl rfl underlying37) ?_
 refine WL.want rfl rfl ?_
 refine qV rfl (R.bin rfl rfl (bi_eql (r := true) (by decide))) (qV rfl (R.pickT (v := (.bool true)) rfl rfl) (qA (.bool true) rfl rfl ?_))
 refine WL.nil (thn_n (WP.ret (thn_r (inb_r (thn_r ?_)))))
 refine ret_of results8 (RV.tmp (v := (.bool true)) rfl RV.nil) ?_
 have h_26 := (((((((((((h_14.drop rfl).drop rfl).up J9).up J9).up J9).up J9).up J9).up J9).up J9).up J9).up J9).up J9
 exact ⟨_, _, _, _, _, _, rfl, h_26⟩

theorem c_one2H {w00 : World} {L : List Ent} (ob mp : Nat) (df : List UInt8) (da : Option Addr) (dn dc u : Nat) (hdf : df.length = 32 * dn) (la : Option Addr) (lc : Nat) (lx : List Value) (lg : Lg) (hu : u ≤ 500000) (hlg : lg.length ≤ 500000) (rb : Nat) (dr : Option Addr) (drc : Nat) (ra : Option Addr) (rc : Nat) (rx : List Value) (dm sn : Int) (key data : List UInt8) (qa : Option Addr) (qn qc : Nat) (hk : key.length = 32) (hdl : data.length = qn) (hqn : qn ≤ 100000) (hqc : qn ≤ qc) (h1 : (1 : Int) ≤ 4 ∧ (4 : Int) ≤ 4) (h2 : 1 ≤ dm ∧ dm ≤ 16) (hz : (4 : Int) = 1 → key = List.replicate 32 0) (hsn : 1024 < sn) (w : World) (h_0 : HP w00 w (Ent.blk ob .nw 66 [(1, [(.bool true)]), (32, (List.replicate 32 (0 : UInt8)).map vu8), (1, [(.slice da dn dc)]), (1, [(vi ((u : Nat) : Int))]), (1, [(.map (some mp))]), (1, [(.slice la lg.length lc)])] :: Ent.row la lg.length lc 47 67 lx :: Ent.obj mp .nw (.map (mArr lg) lg.length) :: Ent.pin (sblks lx) (fun w => Lgs w lx lg) :: Ent.view da (df.map vu8) :: Ent.blk rb .nw 33 [(1, [(.bool true)]), (32, (List.replicate 32 (0 : UInt8)).map vu8), (1, [(.slice dr dn drc)]), (1, [(vi ((u : Nat) : Int))]), (1, [(.slice ra lg.length rc)])] :: Ent.row ra lg.length rc 47 67 rx :: Ent.pin (sblks rx) (fun w => Lgs w rx lg) :: Ent.view dr (df.map vu8) :: Ent.view qa (data.map vu8) :: L)) :
  Cs Tryz.prog 8 [(.pointer (some ⟨ob, 0, none⟩)), (.pointer (some ⟨rb, 0, none⟩)), (.agg ⟨flat [(1, [(vi 2)]), (1, [(vi sn)]), (1, [(vi 4)]), (32, key.map vu8), (1, [(vi dm)]), (1, [(.slice qa qn qc)])]⟩)].toArray w (fun v w1 => ∃ la' lc' lx' ra' rc' rx', v = .bool true ∧ HP w00 w1 (Ent.blk ob .nw 66 [(1, [(.bool true)]), (32, (List.replicate 32 (0 : UInt8)).map vu8), (1, [(.slice da dn dc)]), (1, [(vi ((u : Nat) : Int))]), (1, [(.map (some mp))]), (1, [(.slice la' lg.length lc')])] :: Ent.row la' lg.length lc' 47 67 lx' :: Ent.obj mp .nw (.map (mArr lg) lg.length) :: Ent.pin (sblks lx') (fun w => Lgs w lx' lg) :: Ent.view da (df.map vu8) :: Ent.blk rb .nw 33 [(1, [(.bool true)]), (32, (List.replicate 32 (0 : UInt8)).map vu8), (1, [(.slice dr dn drc)]), (1, [(vi ((u : Nat) : Int))]), (1, [(.slice ra' lg.length rc')])] :: Ent.row ra' lg.length rc' 47 67 rx' :: Ent.pin (sblks rx') (fun w => Lgs w rx' lg) :: Ent.view dr (df.map vu8) :: Ent.view qa (data.map vu8) :: L)) := by
 refine Cs.of (n := 186) (args := [(pO ob 0), (pO rb 0), (.agg ⟨flat [(1, [(vi 2)]), (1, [(vi sn)]), (1, [(vi 4)]), (32, key.map vu8), (1, [(vi dm)]), (1, [(.slice qa qn qc)])]⟩)]) Tryz.func8 rfl rfl rfl ?_
 refine WP.seq (WP.reg ?_)
 refine WL.box (segs := [(1, [(vi 2)]), (1, [(vi sn)]), (1, [(vi 4)]), (32, key.map vu8), (1, [(vi dm)]), (1, [(.slice qa qn qc)])]) h_0 rfl rfl (sC sV (sC sV (sC sV (sC (s8 hk) (sC sV (sC sV sN)))))) rfl (fun b_1 w_2 h_3 => ?_)
 refine qA (.bool false) rfl rfl ?_
 refine WL.nil (thn_n (WP.seq (WP.reg ?_)))
 refine qV rfl (R.fieldAddr (off' := 2) rfl underlying41 rfl sizeOf39 rfl rfl) (qV rfl (R.loadA [(1, [(vi 2)]), (1, [(vi sn)])] [(1, [(vi 4)]), (32, key.map vu8), (1, [(vi dm)]), (1, [(.slice qa qn qc)])] [] rfl isAgg39 sizeOf39 (h_3.ok _ M0) rfl rfl rfl rfl) ?_)
 refine WL.alloc (segs := [(1, [(vi 0)]), (32, (zB 32).map vu8), (1, [(vi 0)]), (1, [(.slice none 0 0)])]) h_3 (zv typeInfo39 rfl) rfl (sC sV (sC (s8 lr) (sC sV (sC sV sN)))) rfl (fun b_4 w_5 h_6 => ?_)
 refine WL.storeA [] [(1, [(vi 0)]), (32, (zB 32).map vu8), (1, [(vi 0)]), (1, [(.slice none 0 0)])] [(1, [(vi 4)]), (32, key.map vu8), (1, [(vi dm)]), (1, [(.slice qa qn qc)])] [] h_6 rfl rfl sizeOf39 At.h (by decide) rfl rfl rfl rfl rfl rfl (sC sV (sC (s8 hk) (sC sV (sC sV sN)))) (fun w_7 h_8 => ?_)
 refine WL.nil (thn_n (WP.seq (WP.seq (WP.reg ?_))))
 refine qV rfl (R.fieldAddr (off' := 0) rfl underlying41 rfl sizeOf3 rfl rfl) (qV rfl (R.load1 rfl isAgg3 (h_8.ok _ M1) Sg.h) ?_)
 refine WL.nil (thn_n (WP.block (WP.seq (WP.reg ?_))))
 refine qV rfl (R.bin rfl rfl (bi_eql (r := false) (by decide))) (qA (.bool false) rfl rfl ?_)
 refine WL.nil (thn_n ?_)
 refine WP.condF rfl ?_
 refine WP.seq (WP.reg ?_)
 refine qV rfl (R.bin rfl rfl (bi_eql (r := true) (by decide))) (qA (.bool true) rfl rfl ?_)
 refine WL.nil (thn_n ?_)
 refine WP.condT rfl ?_
 refine WP.seq (WP.reg ?_)
 refine qM (pO ob 0) rfl rfl (qV rfl (R.loadA [] [(1, [(vi 4)]), (32, key.map vu8), (1, [(vi dm)]), (1, [(.slice qa qn qc)])] [] rfl isAgg39 sizeOf39 (h_8.ok _ M0) rfl rfl rfl rfl) (qV rfl (R.fieldAddr (off' := 1) rfl underlying41 rfl sizeOf3 rfl rfl) (qV rfl (R.load1 rfl isAgg3 (h_8.ok _ M1) (Sg.t rfl Sg.h)) ?_)))
 refine WL.call Tryz.call18 rfl rfl (c_oStrH true ob mp (zB 32) lr da dn dc u la lg.length lc dm key qa qn qc hk sn h1 h2 hz hsn _ (h_8.argR M2)) rfl ?_
 rintro _ w_10 ⟨rfl, hc_9⟩
 have h_11 := h_8.same hc_9
 refine qM (.tuple [(.slice none 0 0), (vi 2)].toArray) rfl rfl (qV rfl (R.extract rfl rfl) (qV rfl (R.extract rfl rfl) (qA (.slice none 0 0) rfl rfl (qA (vi 2) rfl rfl ?_))))
 refine WL.nil (thn_n (WP.seq (WP.seq (WP.reg ?_))))
 refine qV rfl (R.loadA [] [(1, [(vi 4)]), (32, key.map vu8), (1, [(vi dm)]), (1, [(.slice qa qn qc)])] [] rfl isAgg39 sizeOf39 (h_11.ok _ M0) rfl rfl rfl rfl) ?_
 refine WL.call Tryz.call20 rfl rfl (c_rMayT 4 dm key qa qn qc hk h1 h2 hz _ ) rfl ?_
 rintro _ w_13 ⟨rfl, hc_12⟩
 have h_14 := h_11.same hc_12
 refine qV rfl (R.not (b := true) rfl) (qM (.bool false) rfl rfl ?_)
 refine WL.want rfl rfl ?_
 refine qV rfl (R.fieldAddr (off' := 0) rfl underlying39 rfl sizeOf35 rfl rfl) ?_
 refine WL.want rfl rfl ?_
 refine qV rfl (R.load1 rfl isAgg35 (h_14.ok _ M0) Sg.h) ?_
 refine WL.want rfl rfl ?_
 refine qV rfl (R.bin rfl rfl (bi_neq (r := false) (by decide))) (qV rfl (R.pickF (v := (.bool false)) rfl rfl) (qM (.bool false) rfl rfl ?_))
 refine WL.want rfl rfl ?_
 refine qV rfl (R.fieldAddr (off' := 1) rfl underlying41 rfl sizeOf3 rfl rfl) ?_
 refine WL.want rfl rfl ?_
 refine qV rfl (R.load1 rfl isAgg3 (h_14.ok _ M1) (Sg.t rfl Sg.h)) ?_
 refine WL.want rfl rfl ?_
 refine qV rfl (R.bin rfl rfl (bi_lss (r := decide ((sn : Int) < 0)) rfl)) (qV rfl (R.pickF (v := (.bool (decide ((sn : Int) < 0)))) rfl rfl) (qM (.bool (decide ((sn : Int) < 0))) rfl rfl ?_))
 refine WL.want rfl (congrArg Value.bool (decide_eq_false (by omega))) ?_
 refine qV rfl (R.fieldAddr (off' := 1) rfl underlying41 rfl sizeOf3 rfl rfl) ?_
 refine WL.want rfl (congrArg Value.bool (decide_eq_false (by omega))) ?_
 refine qV rfl (R.load1 rfl isAgg3 (h_14.ok _ M1) (Sg.t rfl Sg.h)) ?_
 refine WL.want rfl (congrArg Value.bool (decide_eq_false (by omega))) ?_
 refine qV rfl (R.bin rfl rfl (bi_gtr (r := decide ((sn : Int) > 1024)) rfl)) (qV rfl (R.pickF (v := (.bool (decide ((sn : Int) > 1024)))) (congrArg Value.bool (decide_eq_false (by omega))) rfl) ?_)
 refine WL.nil (thn_n ?_)
 refine WP.condT (congrArg Value.bool (decide_eq_true (by omega))) ?_
 refine WP.seq (WP.reg ?_)
 refine qM (vi 2) rfl rfl (qV rfl (R.bin rfl rfl (bi_eql (r := true) (by decide))) (qM (.bool true) rfl rfl ?_))
 refine WL.want rfl rfl ?_
 refine qM (.slice none 0 0) rfl rfl ?_
 refine WL.want rfl rfl ?_
 refine qV rfl (R.lenS (a := none) (m := 0) rfl rfl underlying37) ?_
 refine WL.want rfl rfl ?_
 refine qV rfl (R.bin rfl rfl (bi_eql (r := true) (by decide))) (qV rfl (R.pickT (v := (.bool true)) rfl rfl) (qA (.bool true) rfl rfl ?_))
 refine WL.nil (thn_n (WP.ret (thn_r (inb_r (thn_r ?_)))))
 refine ret_of results8 (RV.tmp (v := (.bool true)) rfl RV.nil) ?_
 have h_26 := (((((((((((h_14.drop rfl).drop rfl).up J9).up J9).up J9).up J9).up J9).up J9).up J9).up J9).up J9).up J9
 exact ⟨_, _, _, _, _, _, rfl, h_26⟩

theorem c_one3t {w00 : World} {L : List Ent} (ob mp : Nat) (df : List UInt8) (da : Option Addr) (dn dc u : Nat) (hdf : df.length = 32 * dn) (la : Option Addr) (lc : Nat) (lx : List Value) (lg : Lg) (hu : u ≤ 500000) (hlg : lg.length ≤ 500000) (rb : Nat) (dr : Option Addr) (drc : Nat) (ra : Option Addr) (rc : Nat) (rx : List Value) (kd dm sn : Int) (key data : List UInt8) (qa : Option Addr) (qn qc : Nat) (hk : key.length = 32) (hdl : data.length = qn) (hqn : qn ≤ 100000) (hqc : qn ≤ qc) (h2 : 1 ≤ dm ∧ dm ≤ 16) (w : World) (h_0 : HP w00 w (Ent.blk ob .nw 66 [(1, [(.bool true)]), (32, (List.replicate 32 (0 : UInt8)).map vu8), (1, [(.slice da dn dc)]), (1, [(vi ((u : Nat) : Int))]), (1, [(.map (some mp))]), (1, [(.slice la lg.length lc)])] :: Ent.row la lg.length lc 47 67 lx :: Ent.obj mp .nw (.map (mArr lg) lg.length) :: Ent.pin (sblks lx) (fun w => Lgs w lx lg) :: Ent.view da (df.map vu8) :: Ent.blk rb .nw 33 [(1, [(.bool true)]), (32, (List.replicate 32 (0 : UInt8)).map vu8), (1, [(.slice dr dn drc)]), (1, [(vi ((u : Nat) : Int))]), (1, [(.slice ra lg.length rc)])] :: Ent.row ra lg.length rc 47 67 rx :: Ent.pin (sblks rx) (fun w => Lgs w rx lg) :: Ent.view dr (df.map vu8) :: Ent.view qa (data.map vu8) :: L)) :
  Cs Tryz.prog 8 [(.pointer (some ⟨ob, 0, none⟩)), (.pointer (some ⟨rb, 0, none⟩)), (.agg ⟨flat [(1, [(vi 3)]), (1, [(vi sn)]), (1, [(vi kd)]), (32, key.map vu8), (1, [(vi dm)]), (1, [(.slice qa qn qc)])]⟩)].toArray w (fun v w1 => ∃ la' lc' lx' ra' rc' rx', v = .bool true ∧ HP w00 w1 (Ent.blk ob .nw 66 [(1, [(.bool true)]), (32, (List.replicate 32 (0 : UInt8)).map vu8), (1, [(.slice da dn dc)]), (1, [(vi (((anU true u lg (1, List.replicate 32 (0 : UInt8), dm, data)) : Nat) : Int))]), (1, [(.map (some mp))]), (1, [(.slice la' ((anL true df dn u lg (1, List.replicate 32 (0 : UInt8), dm, data)).length) lc')])] :: Ent.row la' ((anL true df dn u lg (1, List.replicate 32 (0 : UInt8), dm, data)).length) lc' 47 67 lx' :: Ent.obj mp .nw (.map (mArr (anL true df dn u lg (1, List.replicate 32 (0 : UInt8), dm, data))) ((anL true df dn u lg (1, List.replicate 32 (0 : UInt8), dm, data)).length)) :: Ent.pin (sblks lx') (fun w => Lgs w lx' (anL true df dn u lg (1, List.replicate 32 (0 : UInt8), dm, data))) :: Ent.view da (df.map vu8) :: Ent.blk rb .nw 33 [(1, [(.bool true)]), (32, (List.replicate 32 (0 : UInt8)).map vu8), (1, [(.slice dr dn drc)]), (1, [(vi (((anU true u lg (1, List.replicate 32 (0 : UInt8), dm, data)) : Nat) : Int))]), (1, [(.slice ra' ((anL true df dn u lg (1, List.replicate 32 (0 : UInt8), dm, data)).length) rc')])] :: Ent.row ra' ((anL true df dn u lg (1, List.replicate 32 (0 : UInt8), dm, data)).length) rc' 47 67 rx' :: Ent.pin (sblks rx') (fun w => Lgs w rx' (anL true df dn u lg (1, List.replicate 32 (0 : UInt8), dm, data))) :: Ent.view dr (df.map vu8) :: Ent.view qa (data.map vu8) :: L)) := by
 refine Cs.of (n := 186) (args := [(pO ob 0), (pO rb 0), (.agg ⟨flat [(1, [(vi 3)]), (1, [(vi sn)]), (1, [(vi kd)]), (32, key.map vu8), (1, [(vi dm)]), (1, [(.slice qa qn qc)])]⟩)]) Tryz.func8 rfl rfl rfl ?_
 refine WP.seq (WP.reg ?_)
 refine WL.box (segs := [(1, [(vi 3)]), (1, [(vi sn)]), (1, [(vi kd)]), (32, key.map vu8), (1, [(vi dm)]), (1, [(.slice qa qn qc)])]) h_0 rfl rfl (sC sV (sC sV (sC sV (sC (s8 hk) (sC sV (sC sV sN)))))) rfl (fun b_1 w_2 h_3 => ?_)
 refine qA (.bool false) rfl rfl ?_
 refine WL.nil (thn_n (WP.seq (WP.reg ?_)))
 refine qV rfl (R.fieldAddr (off' := 2) rfl underlying41 rfl sizeOf39 rfl rfl) (qV rfl (R.loadA [(1, [(vi 3)]), (1, [(vi sn)])] [(1, [(vi kd)]), (32, key.map vu8), (1, [(vi dm)]), (1, [(.slice qa qn qc)])] [] rfl isAgg39 sizeOf39 (h_3.ok _ M0) rfl rfl rfl rfl) ?_)
 refine WL.alloc (segs := [(1, [(vi 0)]), (32, (zB 32).map vu8), (1, [(vi 0)]), (1, [(.slice none 0 0)])]) h_3 (zv typeInfo39 rfl) rfl (sC sV (sC (s8 lr) (sC sV (sC sV sN)))) rfl (fun b_4 w_5 h_6 => ?_)
 refine WL.storeA [] [(1, [(vi 0)]), (32, (zB 32).map vu8), (1, [(vi 0)]), (1, [(.slice none 0 0)])] [(1, [(vi kd)]), (32, key.map vu8), (1, [(vi dm)]), (1, [(.slice qa qn qc)])] [] h_6 rfl rfl sizeOf39 At.h (by decide) rfl rfl rfl rfl rfl rfl (sC sV (sC (s8 hk) (sC sV (sC sV sN)))) (fun w_7 h_8 => ?_)
 refine WL.nil (thn_n (WP.seq (WP.seq (WP.reg ?_))))
 refine qV rfl (R.fieldAddr (off' := 0) rfl underlying41 rfl sizeOf3 rfl rfl) (qV rfl (R.load1 rfl isAgg3 (h_8.ok _ M1) Sg.h) ?_)
 refine WL.nil (thn_n (WP.block (WP.seq (WP.reg ?_))))
 refine qV rfl (R.bin rfl rfl (bi_eql (r := false) (by decide))) (qA (.bool false) rfl rfl ?_)
 refine WL.nil (thn_n ?_)
 refine WP.condF rfl ?_
 refine WP.seq (WP.reg ?_)
 refine qV rfl (R.bin rfl rfl (bi_eql (r := false) (by decide))) (qA (.bool false) rfl rfl ?_)
 refine WL.nil (thn_n ?_)
 refine WP.condF rfl ?_
 refine WP.seq (WP.seq (WP.reg ?_))
 refine qV rfl (R.bin rfl rfl (bi_eql (r := true) (by decide))) (qA (.bool true) rfl rfl ?_)
 refine WL.nil (thn_n ?_)
 refine WP.condT rfl ?_
 refine WP.skip (thn_n ?_)
 refine WP.condT rfl ?_
 refine WP.seq (WP.reg ?_)
 refine qV rfl (R.fieldAddr (off' := 34) rfl underlying39 rfl sizeOf37 rfl rfl) (qV rfl (R.load1 rfl isAgg37 (h_8.ok _ M0) (Sg.t rfl (Sg.t rfl (Sg.t rfl Sg.h)))) (qV rfl (R.lenS (a := qa) (m := qn) rfl rfl underlying37) (qV rfl (R.bin rfl rfl (bi_quo (c := ((qn / 2 : Nat) : Int)) (by first | omega | exact ⟨Int.natCast_nonneg _, by omega⟩) (by omega) (by first | omega | rfl))) (qA (vn (qn / 2)) rfl rfl ?_))))
 refine WL.nil (thn_n (WP.seq ?_))
 refine WP.drawT (SL w00.heap.size [.blk b_4 .nw 39 [(1, [(vi kd)]), (32, key.map vu8), (1, [(vi dm)]), (1, [(.slice qa qn qc)])], .blk b_1 .nw 41 [(1, [(vi 3)]), (1, [(vi sn)]), (1, [(vi kd)]), (32, key.map vu8), (1, [(vi dm)]), (1, [(.slice qa qn qc)])], .blk ob .nw 66 [(1, [(.bool true)]), (32, (zB 32).map vu8), (1, [(.slice da dn dc)]), (1, [(vn u)]), (1, [(.map (some mp))]), (1, [(.slice la lg.length lc)])], .row la lg.length lc 47 67 lx, .obj mp .nw (.map (mArr lg) lg.length), .pin (sblks lx) (fun w => Lgs w lx lg), .view da (df.map vu8), .blk rb .nw 33 [(1, [(.bool true)]), (32, (zB 32).map vu8), (1, [(.slice dr dn drc)]), (1, [(vn u)]), (1, [(.slice ra lg.length rc)])], .row ra lg.length rc 47 67 rx, .pin (sblks rx) (fun w => Lgs w rx lg), .view dr (df.map vu8), .view qa (data.map vu8)]) (.q 0 (.q 1 (.q 2 (.q 3 (.q 4 (.q 5 (.q 6 (.q 7 (.q 8 (.q 9 .nil)))))))))) (by kernel_rfl) (by kernel_rfl) rfl (by kernel_rfl) (fun w_9 hc_11 => (SL.cons ((h_8.same hc_11).ok _ M0) (SL.cons ((h_8.same hc_11).ok _ M1) (SL.cons ((h_8.same hc_11).ok _ M2) (SL.cons ((h_8.same hc_11).ok _ M3) (SL.cons ((h_8.same hc_11).ok _ M4) (SL.cons ((h_8.same hc_11).ok _ M5) (SL.cons ((h_8.same hc_11).ok _ M6) (SL.cons ((h_8.same hc_11).ok _ M7) (SL.cons ((h_8.same hc_11).ok _ M8) (SL.cons ((h_8.same hc_11).ok _ M9) (SL.cons ((h_8.same hc_11).ok _ M10) (SL.cons ((h_8.same hc_11).ok _ M11) (SL.nil _ _)))))))))))))) (fun w_9 hc_11 => ?_)
 have h_10 := h_8.same hc_11
 refine qT rfl rfl (fun wq hS => R.fieldAddr (off' := 34) rfl underlying39 rfl sizeOf37 rfl rfl) ?_
 refine qT rfl rfl (fun wq hS => R.load1 rfl isAgg37 (hS _ M0) (Sg.t rfl (Sg.t rfl (Sg.t rfl Sg.h)))) ?_
 refine qT rfl rfl (fun wq hS => R.move (v := (vn (qn / 2))) rfl) ?_
 refine qT rfl rfl (fun wq hS => R.sliceS (a := qa) (len := qn) (l := 0) (h := qn / 2) rfl EvB.dflt (EvB.it (l := qn / 2) rfl rfl) (by omega) (by omega) underlying37 sizeOf5) ?_
 refine qT rfl rfl (fun wq hS => R.fieldAddr (off' := 34) rfl underlying39 rfl sizeOf37 rfl rfl) ?_
 refine qT rfl rfl (fun wq hS => R.load1 rfl isAgg37 (hS _ M0) (Sg.t rfl (Sg.t rfl (Sg.t rfl Sg.h)))) ?_
 refine qT rfl rfl (fun wq hS => R.move (v := (vn (qn / 2))) rfl) ?_
 refine qT rfl rfl (fun wq hS => R.sliceS (a := qa) (len := qn) (l := qn / 2) (h := qn) rfl (EvB.it (l := qn / 2) rfl rfl) EvB.dflt (by omega) (by omega) underlying37 sizeOf5) ?_
 refine qT rfl rfl (fun wq hS => R.assign (v := (.slice (slA qa 0 qc 1) (qn / 2) qc)) rfl) ?_
 refine qT rfl rfl (fun wq hS => R.assign (v := (.slice (slA qa (qn / 2) qc 1) (qn - (qn / 2)) (qc - (qn / 2)))) rfl) ?_
 refine WT.nil (thn_n (WP.seq (WP.reg ?_)))
 refine WL.alloc (segs := [(32, (zB 32).map vu8)]) h_10 (zv typeInfo29 rfl) rfl (sC (s8 lr) sN) rfl (fun b_12 w_13 h_14 => ?_)
 refine WL.nil (thn_n (WP.seq (WP.reg ?_)))
 refine qA (vi 0) rfl rfl ?_
 refine WL.nil (thn_n (WP.seq (WP.seq (WP.reg ?_))))
 refine qV rfl (R.fieldAddr (off' := 0) rfl underlying41 rfl sizeOf3 rfl rfl) (qV rfl (R.load1 rfl isAgg3 (h_14.ok _ M2) Sg.h) ?_)
 refine WL.nil (thn_n (WP.block (WP.seq (WP.reg ?_))))
 refine qV rfl (R.bin rfl rfl (bi_eql (r := true) (by decide))) (qA (.bool true) rfl rfl ?_)
 refine WL.nil (thn_n ?_)
 refine WP.condT rfl ?_
 refine WP.seq (WP.reg ?_)
 refine qV rfl (R.fieldAddr (off' := 33) rfl underlying39 rfl sizeOf36 rfl rfl) (qV rfl (R.load1 rfl isAgg36 (h_14.ok _ M1) (Sg.t rfl (Sg.t rfl Sg.h))) (qV rfl (R.fieldAddr (off' := 34) rfl underlying39 rfl sizeOf37 rfl rfl) (qV rfl (R.load1 rfl isAgg37 (h_14.ok _ M1) (Sg.t rfl (Sg.t rfl (Sg.t rfl Sg.h)))) (qV rfl (R.buildS (pl := [(0, 1), (1, 32), (33, 1), (34, 1)]) (zs := [(1, [(vi 0)]), (32, (zB 32).map vu8), (1, [(vi 0)]), (1, [(.slice none 0 0)])]) (vs := [(0, (vi 1)), (2, (vi dm)), (3, (.slice qa qn qc))]) (out := [(1, [(vi 1)]), (32, (zB 32).map vu8), (1, [(vi dm)]), (1, [(.slice qa qn qc)])]) underlying39 (zv typeInfo39 rfl) rfl (sC sV (sC (s8 lr) (sC sV (sC sV sN)))) (pl39 _ underlying39) rfl (FillR.cons [] [(1, [(vi 0)])] [(1, [(vi 1)])] [(32, (zB 32).map vu8), (1, [(vi 0)]), (1, [(.slice none 0 0)])] rfl rfl rfl rfl (sC sV sN) rfl rfl rfl (FillR.cons [(1, [(vi 1)]), (32, (zB 32).map vu8)] [(1, [(vi 0)])] [(1, [(vi dm)])] [(1, [(.slice none 0 0)])] rfl rfl rfl rfl (sC sV sN) rfl rfl rfl (FillR.cons [(1, [(vi 1)]), (32, (zB 32).map vu8), (1, [(vi dm)])] [(1, [(.slice none 0 0)])] [(1, [(.slice qa qn qc)])] [] rfl rfl rfl rfl (sC sV sN) rfl rfl rfl FillR.nil))) rfl) ?_))))
 refine WL.storeA [] [(1, [(vi kd)]), (32, key.map vu8), (1, [(vi dm)]), (1, [(.slice qa qn qc)])] [(1, [(vi 1)]), (32, (zB 32).map vu8), (1, [(vi dm)]), (1, [(.slice qa qn qc)])] [] h_14 rfl rfl sizeOf39 Y1 (by decide) rfl rfl rfl rfl rfl rfl (sC sV (sC (s8 lr) (sC sV (sC sV sN)))) (fun w_16 h_17 => ?_)
 refine WL.nil (thn_n (WP.reg ?_))
 refine qM (pO ob 0) rfl rfl (qV rfl (R.fieldAddr (off' := 33) rfl underlying39 rfl sizeOf36 rfl rfl) (qV rfl (R.load1 rfl isAgg36 (h_17.ok _ M1) (Sg.t rfl (Sg.t rfl Sg.h))) (qM (.slice (slA qa 0 qc 1) (qn / 2) qc) rfl rfl (qM (.slice (slA qa (qn / 2) qc 1) (qn - (qn / 2)) (qc - (qn / 2))) rfl rfl ?_))))
 refine WL.buildSl (vs := [(0, (.slice (slA qa 0 qc 1) (qn / 2) qc)), (1, (.slice none 0 0)), (2, (.slice (slA qa (qn / 2) qc 1) (qn - (qn / 2)) (qc - (qn / 2))))]) (cs := [(.slice (slA qa 0 qc 1) (qn / 2) qc), (.slice none 0 0), (.slice (slA qa (qn / 2) qc 1) (qn - (qn / 2)) (qc - (qn / 2)))]) h_17 underlying82 sizeOf37 (zv typeInfo37 rfl) rfl rfl (by kernel_rfl) rfl (by simp [Value.oneCell']) rfl rfl (fun b_18 w_19 h_20 => ?_)
 have h_21 := h_20.within (e' := .view (slA qa 0 qc 1) (((data.drop 0).take (qn / 2)).map vu8)) M13 rfl (View.arg (View.slM (l := 0) (m := qc) (k := qn / 2) (viewV (h_20.ok _ M13)) (by omega))) rfl rfl sub_blk2
 have h_22 := HP_viewNil h_21
 have h_23 := h_22.within (e' := .view (slA qa (qn / 2) qc 1) (((data.drop (qn / 2)).take (qn - (qn / 2))).map vu8)) M15 rfl (View.arg (View.slM (l := qn / 2) (m := qc) (k := qn - (qn / 2)) (viewV (h_22.ok _ M15)) (by omega))) rfl rfl sub_blk2
 have h_24 := h_23.up J3
 have h_25 := HP_blkView h_24
 have hbl_26 : ∀ b ∈ sblks [(.slice (slA qa 0 qc 1) (qn / 2) qc), (.slice none 0 0), (.slice (slA qa (qn / 2) qc 1) (qn - (qn / 2)) (qc - (qn / 2)))], ∃ e ∈ ((Ent.view (some ⟨b_18, 0, none⟩) [(.slice (slA qa 0 qc 1) (qn / 2) qc), (.slice none 0 0), (.slice (slA qa (qn / 2) qc 1) (qn - (qn / 2)) (qc - (qn / 2)))] :: Ent.view (slA qa (qn / 2) qc 1) (((data.drop (qn / 2)).take (qn - (qn / 2))).map vu8) :: Ent.view none (([] : List UInt8).map vu8) :: Ent.view (slA qa 0 qc 1) (((data.drop 0).take (qn / 2)).map vu8) :: Ent.blk b_12 .nw 29 [(32, (List.replicate 32 (0 : UInt8)).map vu8)] :: Ent.blk b_4 .nw 39 [(1, [(vi 1)]), (32, (List.replicate 32 (0 : UInt8)).map vu8), (1, [(vi dm)]), (1, [(.slice qa qn qc)])] :: Ent.blk b_1 .nw 41 [(1, [(vi 3)]), (1, [(vi sn)]), (1, [(vi kd)]), (32, key.map vu8), (1, [(vi dm)]), (1, [(.slice qa qn qc)])] :: Ent.blk ob .nw 66 [(1, [(.bool true)]), (32, (List.replicate 32 (0 : UInt8)).map vu8), (1, [(.slice da dn dc)]), (1, [(vi ((u : Nat) : Int))]), (1, [(.map (some mp))]), (1, [(.slice la lg.length lc)])] :: Ent.row la lg.length lc 47 67 lx :: Ent.obj mp .nw (.map (mArr lg) lg.length) :: Ent.pin (sblks lx) (fun w => Lgs w lx lg) :: Ent.view da (df.map vu8) :: Ent.blk rb .nw 33 [(1, [(.bool true)]), (32, (List.replicate 32 (0 : UInt8)).map vu8), (1, [(.slice dr dn drc)]), (1, [(vi ((u : Nat) : Int))]), (1, [(.slice ra lg.length rc)])] :: Ent.row ra lg.length rc 47 67 rx :: Ent.pin (sblks rx) (fun w => Lgs w rx lg) :: Ent.view dr (df.map vu8) :: Ent.view qa (data.map vu8) :: L) : List Ent), e.mut = false ∧ b ∈ e.blocks := by
  intro b hb
  rcases List.mem_append.1 hb with hb | hb
  ·exact ⟨_, M3, rfl, sblk_in_view (subLen (K := qn) hdl (by omega) : List.length ((data.drop 0).take (qn / 2)) = qn / 2) b hb⟩
  rcases List.mem_append.1 hb with hb | hb
  ·exact ⟨_, M2, rfl, sblk_in_view (rfl : List.length ([] : List UInt8) = 0) b hb⟩
  rcases List.mem_append.1 hb with hb | hb
  ·exact ⟨_, M1, rfl, sblk_in_view (subLen (K := qn) hdl (by omega) : List.length ((data.drop (qn / 2)).take (qn - (qn / 2))) = qn - (qn / 2)) b hb⟩
  cases hb
 have h_27 := HP_within (e' := .pin (sblks [(.slice (slA qa 0 qc 1) (qn / 2) qc), (.slice none 0 0), (.slice (slA qa (qn / 2) qc 1) (qn - (qn / 2)) (qc - (qn / 2)))]) (fun w => Sls w [(.slice (slA qa 0 qc 1) (qn / 2) qc), (.slice none 0 0), (.slice (slA qa (qn / 2) qc 1) (qn - (qn / 2)) (qc - (qn / 2)))] [(data.drop 0).take (qn / 2), ([] : List UInt8), (data.drop (qn / 2)).take (qn - (qn / 2))])) h_25 (Sls.pin (Sls.cons (subLen (K := qn) hdl (by omega) : List.length ((data.drop 0).take (qn / 2)) = qn / 2) (by omega) (viewV (h_25.ok _ M3)) (Sls.cons (rfl : List.length ([] : List UInt8) = 0) (by decide) (viewV (h_25.ok _ M2)) (Sls.cons (subLen (K := qn) hdl (by omega) : List.length ((data.drop (qn / 2)).take (qn - (qn / 2))) = qn - (qn / 2)) (by omega) (viewV (h_25.ok _ M1)) Sls.nil)))) rfl rfl hbl_26
 have h_34 := ((((((h_27.up J1).up J1).up J12).up J12).up J12).up J12).up J12
 have h32_w_35 := Lgs.ok32 (h_34.ok _ M3).1
 refine WL.call Tryz.call17 rfl rfl (c_oDigestI ob mp (zB 32) df lr da dn dc u hdf la lc lx lg (by omega) (by omega) (some ⟨b_18, 0, none⟩) 3 3 [(.slice (slA qa 0 qc 1) (qn / 2) qc), (.slice none 0 0), (.slice (slA qa (qn / 2) qc 1) (qn - (qn / 2)) (qc - (qn / 2)))] [(data.drop 0).take (qn / 2), ([] : List UInt8), (data.drop (qn / 2)).take (qn - (qn / 2))] rfl dm h2 (by rw [halves hdl]; omega) (by omega) _ h_34) rfl ?_
 rintro _ w_35 ⟨la_37, lc_38, lx_39, rfl, h_36⟩
 rw [halves hdl] at h_36 ⊢
 refine qM (.tuple [(.agg ⟨(anD true df dn u lg (1, (zB 32), dm, data)).map vu8⟩), (vi 0)].toArray) rfl rfl (qV rfl (R.extract rfl rfl) (qV rfl (R.extract rfl rfl) ?_))
 refine WL.storeA [] [(32, (zB 32).map vu8)] [(32, (anD true df dn u lg (1, (zB 32), dm, data)).map vu8)] [] h_36 rfl rfl sizeOf29 Y10 (by decide) rfl rfl rfl rfl rfl rfl (sC (s8 (anD_len hdf h32_w_35)) sN) (fun w_40 h_41 => ?_)
 refine qA (vi 0) rfl rfl ?_
 refine WL.nil (inb_n (thn_n (WP.seq (WP.seq (WP.reg ?_)))))
 refine qV rfl (R.loadA [] [(1, [(vi 1)]), (32, (zB 32).map vu8), (1, [(vi dm)]), (1, [(.slice qa qn qc)])] [] rfl isAgg39 sizeOf39 (h_41.ok _ M11) rfl rfl rfl rfl) ?_
 refine WL.call Tryz.call20 rfl rfl (c_rMayT 1 dm (zB 32) qa qn qc lr (by decide) h2 (fun _ => rfl) _ ) rfl ?_
 rintro _ w_43 ⟨rfl, hc_42⟩
 have h_44 := h_41.same hc_42
 refine qV rfl (R.not (b := true) rfl) ?_
 refine WL.nil (thn_n ?_)
 refine WP.condF rfl ?_
 refine WP.skip (thn_n (WP.seq ?_))
 refine WP.drawT (SL w00.heap.size [.blk ob .nw 66 [(1, [(.bool true)]), (32, (zB 32).map vu8), (1, [(.slice da dn dc)]), (1, [(vn (anU true u lg (1, (zB 32), dm, data)))]), (1, [(.map (some mp))]), (1, [(.slice la_37 ((anL true df dn u lg (1, (zB 32), dm, data)).length) lc_38)])], .row la_37 ((anL true df dn u lg (1, (zB 32), dm, data)).length) lc_38 47 67 lx_39, .obj mp .nw (.map (mArr (anL true df dn u lg (1, (zB 32), dm, data))) ((anL true df dn u lg (1, (zB 32), dm, data)).length)), .pin (sblks lx_39) (fun w => Lgs w lx_39 (anL true df dn u lg (1, (zB 32), dm, data))), .view da (df.map vu8), .pin (sblks [(.slice (slA qa 0 qc 1) (qn / 2) qc), (.slice none 0 0), (.slice (slA qa (qn / 2) qc 1) (qn - (qn / 2)) (qc - (qn / 2)))]) (fun w => Sls w [(.slice (slA qa 0 qc 1) (qn / 2) qc), (.slice none 0 0), (.slice (slA qa (qn / 2) qc 1) (qn - (qn / 2)) (qc - (qn / 2)))] [(data.drop 0).take (qn / 2), ([] : List UInt8), (data.drop (qn / 2)).take (qn - (qn / 2))]), .view (some ⟨b_18, 0, none⟩) [(.slice (slA qa 0 qc 1) (qn / 2) qc), (.slice none 0 0), (.slice (slA qa (qn / 2) qc 1) (qn - (qn / 2)) (qc - (qn / 2)))], .view (slA qa (qn / 2) qc 1) (((data.drop (qn / 2)).take (qn - (qn / 2))).map vu8), .view none (([] : List UInt8).map vu8), .view (slA qa 0 qc 1) (((data.drop 0).take (qn / 2)).map vu8), .blk b_12 .nw 29 [(32, (anD true df dn u lg (1, (zB 32), dm, data)).map vu8)], .blk b_4 .nw 39 [(1, [(vi 1)]), (32, (zB 32).map vu8), (1, [(vi dm)]), (1, [(.slice qa qn qc)])], .blk b_1 .nw 41 [(1, [(vi 3)]), (1, [(vi sn)]), (1, [(vi kd)]), (32, key.map vu8), (1, [(vi dm)]), (1, [(.slice qa qn qc)])], .view qa (data.map vu8)]) (.q 0 (.q 1 (.q 2 (.q 3 (.q 4 (.q 5 (.s 6 (.q 7 (.q 8 (.q 9 .nil)))))))))) (by kernel_rfl) (by kernel_rfl) rfl (by kernel_rfl) (fun w_45 hc_47 => (SL.cons ((h_44.same hc_47).ok _ M0) (SL.cons ((h_44.same hc_47).ok _ M1) (SL.cons ((h_44.same hc_47).ok _ M2) (SL.cons ((h_44.same hc_47).ok _ M3) (SL.cons ((h_44.same hc_47).ok _ M4) (SL.cons ((h_44.same hc_47).ok _ M5) (SL.cons ((h_44.same hc_47).ok _ M6) (SL.cons ((h_44.same hc_47).ok _ M7) (SL.cons ((h_44.same hc_47).ok _ M8) (SL.cons ((h_44.same hc_47).ok _ M9) (SL.cons ((h_44.same hc_47).ok _ M10) (SL.cons ((h_44.same hc_47).ok _ M11) (SL.cons ((h_44.same hc_47).ok _ M12) (SL.cons ((h_44.same hc_47).ok _ M17) (SL.nil _ _)))))))))))))))) (fun w_45 hc_47 => ?_)
 have h_46 := h_44.same hc_47
 refine qT rfl rfl (fun wq hS => R.move (v := (vi 0)) rfl) ?_
 refine qT rfl rfl (fun wq hS => R.bin rfl rfl (bi_eql (r := true) (by decide))) ?_
 refine qT rfl rfl (fun wq hS => R.move (v := (.bool true)) rfl) ?_
 refine WT.q rfl (Wn.yes rfl rfl rfl) rfl rfl (fun wq hS => R.loadA [] [(32, (anD true df dn u lg (1, (zB 32), dm, data)).map vu8)] [] (cs := (anD true df dn u lg (1, (zB 32), dm, data)).map vu8) rfl isAgg29 sizeOf29 (hS _ M10) rfl rfl rfl rfl) ?_
 refine WT.q rfl (Wn.yes rfl rfl rfl) rfl rfl (fun wq hS => R.move (v := (pO rb 0)) rfl) ?_
 refine WT.q rfl (Wn.yes rfl rfl rfl) rfl rfl (fun wq hS => R.loadA [] [(1, [(vi 1)]), (32, (zB 32).map vu8), (1, [(vi dm)]), (1, [(.slice qa qn qc)])] [] rfl isAgg39 sizeOf39 (hS _ M11) rfl rfl rfl rfl) ?_
 refine WT.s ?_
 refine Op1.one rfl (Wn.yes rfl rfl rfl) ?_
 have h_52 := ((((h_46.up J17).up J17).up J17).up J17).up J17
 have h32_w_56 := (Lgs.ok32 (h_52.ok _ M2).1)
 refine WL.call Tryz.call21 rfl rfl (c_rAskI rb (zB 32) df lr dr dn drc u hdf ra rc rx lg (by omega) (by omega) 1 dm (zB 32) data qa qn qc ⟨lr, by show (1 : Int) ≤ 1 ∧ (1 : Int) ≤ 4; omega, by show (1 : Int) ≤ dm ∧ (dm : Int) ≤ 16; omega, by show List.length data ≤ 1000000000; first | decide | (simp only [List.length_append, leN_len]; omega) | omega⟩ hdl  _ h_52) rfl ?_
 rintro _ w_56 ⟨la_53, lc_54, lx_55, rfl, h_57⟩
 refine WL.nil ?_
 refine ⟨(SL.cons (h_57.ok _ M5) (SL.cons (h_57.ok _ M6) (SL.cons (h_57.ok _ M7) (SL.cons (h_57.ok _ M8) (SL.cons (h_57.ok _ M9) (SL.cons (h_57.ok _ M10) (SL.cons (h_57.ok _ M11) (SL.cons (h_57.ok _ M12) (SL.cons (h_57.ok _ M13) (SL.cons (h_57.ok _ M14) (SL.cons (h_57.ok _ M15) (SL.cons (h_57.ok _ M16) (SL.cons (h_57.ok _ M17) (SL.cons (h_57.ok _ M4) (SL.nil _ _))))))))))))))), ?_⟩
 refine WT.q rfl (Wn.yes rfl rfl rfl) rfl rfl (fun wq hS => R.eqA (xs := (anD true df dn u lg (1, (zB 32), dm, data)).map vu8) (ys := (anD true df dn u lg (1, List.replicate 32 (0 : UInt8), dm, data)).map vu8) (r := true) rfl rfl eqGuardType29 kt29 (by decide) ag29 (Typ.u8s underlying29 ce29 underlying5 ce5 (anD_len hdf h32_w_35)) (Typ.u8s underlying29 ce29 underlying5 ce5 (anD_len hdf h32_w_56)) (eqT rfl)) ?_
 refine qT rfl rfl (fun wq hS => R.pickT (v := (.bool true)) rfl rfl) ?_
 refine qT rfl rfl (fun wq hS => R.assign (v := (.bool true)) rfl) ?_
 refine WT.nil (thn_n (WP.ret (inb_r (thn_r ?_))))
 refine ret_of results8 (RV.tmp (v := (.bool true)) rfl RV.nil) ?_
 have h_83 := (((((((((((((((((((((((((h_57.up J10).drop rfl).up J10).drop rfl).up J10).drop rfl).up J10).drop rfl).up J10).drop rfl).up J10).drop rfl).up J10).drop rfl).up J10).drop rfl).up J4).up J4).up J4).up J4).up J4).up J9).up J9).up J9).up J9).up J9
 exact ⟨_, _, _, _, _, _, rfl, h_83⟩

theorem c_one3n {w00 : World} {L : List Ent} (ob mp : Nat) (df : List UInt8) (da : Option Addr) (dn dc u : Nat) (hdf : df.length = 32 * dn) (la : Option Addr) (lc : Nat) (lx : List Value) (lg : Lg) (hu : u ≤ 500000) (hlg : lg.length ≤ 500000) (rb : Nat) (dr : Option Addr) (drc : Nat) (ra : Option Addr) (rc : Nat) (rx : List Value) (kd dm sn : Int) (key data : List UInt8) (qa : Option Addr) (qn qc : Nat) (hk : key.length = 32) (hdl : data.length = qn) (hqn : qn ≤ 100000) (hqc : qn ≤ qc) (hm : mayB 1 dm (List.replicate 32 (0 : UInt8)) = false) (w : World) (h_0 : HP w00 w (Ent.blk ob .nw 66 [(1, [(.bool true)]), (32, (List.replicate 32 (0 : UInt8)).map vu8), (1, [(.slice da dn dc)]), (1, [(vi ((u : Nat) : Int))]), (1, [(.map (some mp))]), (1, [(.slice la lg.length lc)])] :: Ent.row la lg.length lc 47 67 lx :: Ent.obj mp .nw (.map (mArr lg) lg.length) :: Ent.pin (sblks lx) (fun w => Lgs w lx lg) :: Ent.view da (df.map vu8) :: Ent.blk rb .nw 33 [(1, [(.bool true)]), (32, (List.replicate 32 (0 : UInt8)).map vu8), (1, [(.slice dr dn drc)]), (1, [(vi ((u : Nat) : Int))]), (1, [(.slice ra lg.length rc)])] :: Ent.row ra lg.length rc 47 67 rx :: Ent.pin (sblks rx) (fun w => Lgs w rx lg) :: Ent.view dr (df.map vu8) :: Ent.view qa (data.map vu8) :: L)) :
  Cs Tryz.prog 8 [(.pointer (some ⟨ob, 0, none⟩)), (.pointer (some ⟨rb, 0, none⟩)), (.agg ⟨flat [(1, [(vi 3)]), (1, [(vi sn)]), (1, [(vi kd)]), (32, key.map vu8), (1, [(vi dm)]), (1, [(.slice qa qn qc)])]⟩)].toArray w (fun v w1 => ∃ la' lc' lx' ra' rc' rx', v = .bool true ∧ HP w00 w1 (Ent.blk ob .nw 66 [(1, [(.bool true)]), (32, (List.replicate 32 (0 : UInt8)).map vu8), (1, [(.slice da dn dc)]), (1, [(vi ((u : Nat) : Int))]), (1, [(.map (some mp))]), (1, [(.slice la' lg.length lc')])] :: Ent.row la' lg.length lc' 47 67 lx' :: Ent.obj mp .nw (.map (mArr lg) lg.length) :: Ent.pin (sblks lx') (fun w => Lgs w lx' lg) :: Ent.view da (df.map vu8) :: Ent.blk rb .nw 33 [(1, [(.bool true)]), (32, (List.replicate 32 (0 : UInt8)).map vu8), (1, [(.slice dr dn drc)]), (1, [(vi ((u : Nat) : Int))]), (1, [(.slice ra' lg.length rc')])] :: Ent.row ra' lg.length rc' 47 67 rx' :: Ent.pin (sblks rx') (fun w => Lgs w rx' lg) :: Ent.view dr (df.map vu8) :: Ent.view qa (data.map vu8) :: L)) := by
 refine Cs.of (n := 186) (args := [(pO ob 0), (pO rb 0), (.agg ⟨flat [(1, [(vi 3)]), (1, [(vi sn)]), (1, [(vi kd)]), (32, key.map vu8), (1, [(vi dm)]), (1, [(.slice qa qn qc)])]⟩)]) Tryz.func8 rfl rfl rfl ?_
 refine WP.seq (WP.reg ?_)
 refine WL.box (segs := [(1, [(vi 3)]), (1, [(vi sn)]), (1, [(vi kd)]), (32, key.map vu8), (1, [(vi dm)]), (1, [(.slice qa qn qc)])]) h_0 rfl rfl (sC sV (sC sV (sC sV (sC (s8 hk) (sC sV (sC sV sN)))))) rfl (fun b_1 w_2 h_3 => ?_)
 refine qA (.bool false) rfl rfl ?_
 refine WL.nil (thn_n (WP.seq (WP.reg ?_)))
 refine qV rfl (R.fieldAddr (off' := 2) rfl underlying41 rfl sizeOf39 rfl rfl) (qV rfl (R.loadA [(1, [(vi 3)]), (1, [(vi sn)])] [(1, [(vi kd)]), (32, key.map vu8), (1, [(vi dm)]), (1, [(.slice qa qn qc)])] [] rfl isAgg39 sizeOf39 (h_3.ok _ M0) rfl rfl rfl rfl) ?_)
 refine WL.alloc (segs := [(1, [(vi 0)]), (32, (zB 32).map vu8), (1, [(vi 0)]), (1, [(.slice none 0 0)])]) h_3 (zv typeInfo39 rfl) rfl (sC sV (sC (s8 lr) (sC sV (sC sV sN)))) rfl (fun b_4 w_5 h_6 => ?_)
 refine WL.storeA [] [(1, [(vi 0)]), (32, (zB 32).map vu8), (1, [(vi 0)]), (1, [(.slice none 0 0)])] [(1, [(vi kd)]), (32, key.map vu8), (1, [(vi dm)]), (1, [(.slice qa qn qc)])] [] h_6 rfl rfl sizeOf39 At.h (by decide) rfl rfl rfl rfl rfl rfl (sC sV (sC (s8 hk) (sC sV (sC sV sN)))) (fun w_7 h_8 => ?_)
 refine WL.nil (thn_n (WP.seq (WP.seq (WP.reg ?_))))
 refine qV rfl (R.fieldAddr (off' := 0) rfl underlying41 rfl sizeOf3 rfl rfl) (qV rfl (R.load1 rfl isAgg3 (h_8.ok _ M1) Sg.h) ?_)
 refine WL.nil (thn_n (WP.block (WP.seq (WP.reg ?_))))
 refine qV rfl (R.bin rfl rfl (bi_eql (r := false) (by decide))) (qA (.bool false) rfl rfl ?_)
 refine WL.nil (thn_n ?_)
 refine WP.condF rfl ?_
 refine WP.seq (WP.reg ?_)
 refine qV rfl (R.bin rfl rfl (bi_eql (r := false) (by decide))) (qA (.bool false) rfl rfl ?_)
 refine WL.nil (thn_n ?_)
 refine WP.condF rfl ?_
 refine WP.seq (WP.seq (WP.reg ?_))
 refine qV rfl (R.bin rfl rfl (bi_eql (r := true) (by decide))) (qA (.bool true) rfl rfl ?_)
 refine WL.nil (thn_n ?_)
 refine WP.condT rfl ?_
 refine WP.skip (thn_n ?_)
 refine WP.condT rfl ?_
 refine WP.seq (WP.reg ?_)
 refine qV rfl (R.fieldAddr (off' := 34) rfl underlying39 rfl sizeOf37 rfl rfl) (qV rfl (R.load1 rfl isAgg37 (h_8.ok _ M0) (Sg.t rfl (Sg.t rfl (Sg.t rfl Sg.h)))) (qV rfl (R.lenS (a := qa) (m := qn) rfl rfl underlying37) (qV rfl (R.bin rfl rfl (bi_quo (c := ((qn / 2 : Nat) : Int)) (by first | omega | exact ⟨Int.natCast_nonneg _, by omega⟩) (by omega) (by first | omega | rfl))) (qA (vn (qn / 2)) rfl rfl ?_))))
 refine WL.nil (thn_n (WP.seq ?_))
 refine WP.drawT (SL w00.heap.size [.blk b_4 .nw 39 [(1, [(vi kd)]), (32, key.map vu8), (1, [(vi dm)]), (1, [(.slice qa qn qc)])], .blk b_1 .nw 41 [(1, [(vi 3)]), (1, [(vi sn)]), (1, [(vi kd)]), (32, key.map vu8), (1, [(vi dm)]), (1, [(.slice qa qn qc)])], .blk ob .nw 66 [(1, [(.bool true)]), (32, (zB 32).map vu8), (1, [(.slice da dn dc)]), (1, [(vn u)]), (1, [(.map (some mp))]), (1, [(.slice la lg.length lc)])], .row la lg.length lc 47 67 lx, .obj mp .nw (.map (mArr lg) lg.length), .pin (sblks lx) (fun w => Lgs w lx lg), .view da (df.map vu8), .blk rb .nw 33 [(1, [(.bool true)]), (32, (zB 32).map vu8), (1, [(.slice dr dn drc)]), (1, [(vn u)]), (1, [(.slice ra lg.length rc)])], .row ra lg.length rc 47 67 rx, .pin (sblks rx) (fun w => Lgs w rx lg), .view dr (df.map vu8), .view qa (data.map vu8)]) (.q 0 (.q 1 (.q 2 (.q 3 (.q 4 (.q 5 (.q 6 (.q 7 (.q 8 (.q 9 .nil)))))))))) (by kernel_rfl) (by kernel_rfl) rfl (by kernel_rfl) (fun w_9 hc_11 => (SL.cons ((h_8.same hc_11).ok _ M0) (SL.cons ((h_8.same hc_11).ok _ M1) (SL.cons ((h_8.same hc_11).ok _ M2) (SL.cons ((h_8.same hc_11).ok _ M3) (SL.cons ((h_8.same hc_11).ok _ M4) (SL.cons ((h_8.same hc_11).ok _ M5) (SL.cons ((h_8.same hc_11).ok _ M6) (SL.cons ((h_8.same hc_11).ok _ M7) (SL.cons ((h_8.same hc_11).ok _ M8) (SL.cons ((h_8.same hc_11).ok _ M9) (SL.cons ((h_8.same hc_11).ok _ M10) (SL.cons ((h_8.same hc_11).ok _ M11) (SL.nil _ _)))))))))))))) (fun w_9 hc_11 => ?_)
 have h_10 := h_8.same hc_11
 refine qT rfl rfl (fun wq hS => R.fieldAddr (off' := 34) rfl underlying39 rfl sizeOf37 rfl rfl) ?_
 refine qT rfl rfl (fun wq hS => R.load1 rfl isAgg37 (hS _ M0) (Sg.t rfl (Sg.t rfl (Sg.t rfl Sg.h)))) ?_
 refine qT rfl rfl (fun wq hS => R.move (v := (vn (qn / 2))) rfl) ?_
 refine qT rfl rfl (fun wq hS => R.sliceS (a := qa) (len := qn) (l := 0) (h := qn / 2) rfl EvB.dflt (EvB.it (l := qn / 2) rfl rfl) (by omega) (by omega) underlying37 sizeOf5) ?_
 refine qT rfl rfl (fun wq hS => R.fieldAddr (off' := 34) rfl underlying39 rfl sizeOf37 rfl rfl) ?_
 refine qT rfl rfl (fun wq hS => R.load1 rfl isAgg37 (hS _ M0) (Sg.t rfl (Sg.t rfl (Sg.t rfl Sg.h)))) ?_
 refine qT rfl rfl (fun wq hS => R.move (v := (vn (qn / 2))) rfl) ?_
 refine qT rfl rfl (fun wq hS => R.sliceS (a := qa) (len := qn) (l := qn / 2) (h := qn) rfl (EvB.it (l := qn / 2) rfl rfl) EvB.dflt (by omega) (by omega) underlying37 sizeOf5) ?_
 refine qT rfl rfl (fun wq hS => R.assign (v := (.slice (slA qa 0 qc 1) (qn / 2) qc)) rfl) ?_
 refine qT rfl rfl (fun wq hS => R.assign (v := (.slice (slA qa (qn / 2) qc 1) (qn - (qn / 2)) (qc - (qn / 2)))) rfl) ?_
 refine WT.nil (thn_n (WP.seq (WP.reg ?_)))
 refine WL.alloc (segs := [(32, (zB 32).map vu8)]) h_10 (zv typeInfo29 rfl) rfl (sC (s8 lr) sN) rfl (fun b_12 w_13 h_14 => ?_)
 refine WL.nil (thn_n (WP.seq (WP.reg ?_)))
 refine qA (vi 0) rfl rfl ?_
 refine WL.nil (thn_n (WP.seq (WP.seq (WP.reg ?_))))
 refine qV rfl (R.fieldAddr (off' := 0) rfl underlying41 rfl sizeOf3 rfl rfl) (qV rfl (R.load1 rfl isAgg3 (h_14.ok _ M2) Sg.h) ?_)
 refine WL.nil (thn_n (WP.block (WP.seq (WP.reg ?_))))
 refine qV rfl (R.bin rfl rfl (bi_eql (r := true) (by decide))) (qA (.bool true) rfl rfl ?_)
 refine WL.nil (thn_n ?_)
 refine WP.condT rfl ?_
 refine WP.seq (WP.reg ?_)
 refine qV rfl (R.fieldAddr (off' := 33) rfl underlying39 rfl sizeOf36 rfl rfl) (qV rfl (R.load1 rfl isAgg36 (h_14.ok _ M1) (Sg.t rfl (Sg.t rfl Sg.h))) (qV rfl (R.fieldAddr (off' := 34) rfl underlying39 rfl sizeOf37 rfl rfl) (qV rfl (R.load1 rfl isAgg37 (h_14.ok _ M1) (Sg.t rfl (Sg.t rfl (Sg.t rfl Sg.h)))) (qV rfl (R.buildS (pl := [(0, 1), (1, 32), (33, 1), (34, 1)]) (zs := [(1, [(vi 0)]), (32, (zB 32).map vu8), (1, [(vi 0)]), (1, [(.slice none 0 0)])]) (vs := [(0, (vi 1)), (2, (vi dm)), (3, (.slice qa qn qc))]) (out := [(1, [(vi 1)]), (32, (zB 32).map vu8), (1, [(vi dm)]), (1, [(.slice qa qn qc)])]) underlying39 (zv typeInfo39 rfl) rfl (sC sV (sC (s8 lr) (sC sV (sC sV sN)))) (pl39 _ underlying39) rfl (FillR.cons [] [(1, [(vi 0)])] [(1, [(vi 1)])] [(32, (zB 32).map vu8), (1, [(vi 0)]), (1, [(.slice none 0 0)])] rfl rfl rfl rfl (sC sV sN) rfl rfl rfl (FillR.cons [(1, [(vi 1)]), (32, (zB 32).map vu8)] [(1, [(vi 0)])] [(1, [(vi dm)])] [(1, [(.slice none 0 0)])] rfl rfl rfl rfl (sC sV sN) rfl rfl rfl (FillR.cons [(1, [(vi 1)]), (32, (zB 32).map vu8), (1, [(vi dm)])] [(1, [(.slice none 0 0)])] [(1, [(.slice qa qn qc)])] [] rfl rfl rfl rfl (sC sV sN) rfl rfl rfl FillR.nil))) rfl) ?_))))
 refine WL.storeA [] [(1, [(vi kd)]), (32, key.map vu8), (1, [(vi dm)]), (1, [(.slice qa qn qc)])] [(1, [(vi 1)]), (32, (zB 32).map vu8), (1, [(vi dm)]), (1, [(.slice qa qn qc)])] [] h_14 rfl rfl sizeOf39 Y1 (by decide) rfl rfl rfl rfl rfl rfl (sC sV (sC (s8 lr) (sC sV (sC sV sN)))) (fun w_16 h_17 => ?_)
 refine WL.nil (thn_n (WP.reg ?_))
 refine qM (pO ob 0) rfl rfl (qV rfl (R.fieldAddr (off' := 33) rfl underlying39 rfl sizeOf36 rfl rfl) (qV rfl (R.load1 rfl isAgg36 (h_17.ok _ M1) (Sg.t rfl (Sg.t rfl Sg.h))) (qM (.slice (slA qa 0 qc 1) (qn / 2) qc) rfl rfl (qM (.slice (slA qa (qn / 2) qc 1) (qn - (qn / 2)) (qc - (qn / 2))) rfl rfl ?_))))
 refine WL.buildSl (vs := [(0, (.slice (slA qa 0 qc 1) (qn / 2) qc)), (1, (.slice none 0 0)), (2, (.slice (slA qa (qn / 2) qc 1) (qn - (qn / 2)) (qc - (qn / 2))))]) (cs := [(.slice (slA qa 0 qc 1) (qn / 2) qc), (.slice none 0 0), (.slice (slA qa (qn / 2) qc 1) (qn - (qn / 2)) (qc - (qn / 2)))]) h_17 underlying82 sizeOf37 (zv typeInfo37 rfl) rfl rfl (by kernel_rfl) rfl (by simp [Value.oneCell']) rfl rfl (fun b_18 w_19 h_20 => ?_)
 have h_21 := h_20.within (e' := .view (slA qa 0 qc 1) (((data.drop 0).take (qn / 2)).map vu8)) M13 rfl (View.arg (View.slM (l := 0) (m := qc) (k := qn / 2) (viewV (h_20.ok _ M13)) (by omega))) rfl rfl sub_blk2
 have h_22 := HP_viewNil h_21
 have h_23 := h_22.within (e' := .view (slA qa (qn / 2) qc 1) (((data.drop (qn / 2)).take (qn - (qn / 2))).map vu8)) M15 rfl (View.arg (View.slM (l := qn / 2) (m := qc) (k := qn - (qn / 2)) (viewV (h_22.ok _ M15)) (by omega))) rfl rfl sub_blk2
 have h_24 := h_23.up J3
 have h_25 := HP_blkView h_24
 have hbl_26 : ∀ b ∈ sblks [(.slice (slA qa 0 qc 1) (qn / 2) qc), (.slice none 0 0), (.slice (slA qa (qn / 2) qc 1) (qn - (qn / 2)) (qc - (qn / 2)))], ∃ e ∈ ((Ent.view (some ⟨b_18, 0, none⟩) [(.slice (slA qa 0 qc 1) (qn / 2) qc), (.slice none 0 0), (.slice (slA qa (qn / 2) qc 1) (qn - (qn / 2)) (qc - (qn / 2)))] :: Ent.view (slA qa (qn / 2) qc 1) (((data.drop (qn / 2)).take (qn - (qn / 2))).map vu8) :: Ent.view none (([] : List UInt8).map vu8) :: Ent.view (slA qa 0 qc 1) (((data.drop 0).take (qn / 2)).map vu8) :: Ent.blk b_12 .nw 29 [(32, (List.replicate 32 (0 : UInt8)).map vu8)] :: Ent.blk b_4 .nw 39 [(1, [(vi 1)]), (32, (List.replicate 32 (0 : UInt8)).map vu8), (1, [(vi dm)]), (1, [(.slice qa qn qc)])] :: Ent.blk b_1 .nw 41 [(1, [(vi 3)]), (1, [(vi sn)]), (1, [(vi kd)]), (32, key.map vu8), (1, [(vi dm)]), (1, [(.slice qa qn qc)])] :: Ent.blk ob .nw 66 [(1, [(.bool true)]), (32, (List.replicate 32 (0 : UInt8)).map vu8), (1, [(.slice da dn dc)]), (1, [(vi ((u : Nat) : Int))]), (1, [(.map (some mp))]), (1, [(.slice la lg.length lc)])] :: Ent.row la lg.length lc 47 67 lx :: Ent.obj mp .nw (.map (mArr lg) lg.length) :: Ent.pin (sblks lx) (fun w => Lgs w lx lg) :: Ent.view da (df.map vu8) :: Ent.blk rb .nw 33 [(1, [(.bool true)]), (32, (List.replicate 32 (0 : UInt8)).map vu8), (1, [(.slice dr dn drc)]), (1, [(vi ((u : Nat) : Int))]), (1, [(.slice ra lg.length rc)])] :: Ent.row ra lg.length rc 47 67 rx :: Ent.pin (sblks rx) (fun w => Lgs w rx lg) :: Ent.view dr (df.map vu8) :: Ent.view qa (data.map vu8) :: L) : List Ent), e.mut = false ∧ b ∈ e.blocks := by
  intro b hb
  rcases List.mem_append.1 hb with hb | hb
  ·exact ⟨_, M3, rfl, sblk_in_view (subLen (K := qn) hdl (by omega) : List.length ((data.drop 0).take (qn / 2)) = qn / 2) b hb⟩
  rcases List.mem_append.1 hb with hb | hb
  ·exact ⟨_, M2, rfl, sblk_in_view (rfl : List.length ([] : List UInt8) = 0) b hb⟩
  rcases List.mem_append.1 hb with hb | hb
  ·exact ⟨_, M1, rfl, sblk_in_view (subLen (K := qn) hdl (by omega) : List.length ((data.drop (qn / 2)).take (qn - (qn / 2))) = qn - (qn / 2)) b hb⟩
  cases hb
 have h_27 := HP_within (e' := .pin (sblks [(.slice (slA qa 0 qc 1) (qn / 2) qc), (.slice none 0 0), (.slice (slA qa (qn / 2) qc 1) (qn - (qn / 2)) (qc - (qn / 2)))]) (fun w => Sls w [(.slice (slA qa 0 qc 1) (qn / 2) qc), (.slice none 0 0), (.slice (slA qa (qn / 2) qc 1) (qn - (qn / 2)) (qc - (qn / 2)))] [(data.drop 0).take (qn / 2), ([] : List UInt8), (data.drop (qn / 2)).take (qn - (qn / 2))])) h_25 (Sls.pin (Sls.cons (subLen (K := qn) hdl (by omega) : List.length ((data.drop 0).take (qn / 2)) = qn / 2) (by omega) (viewV (h_25.ok _ M3)) (Sls.cons (rfl : List.length ([] : List UInt8) = 0) (by decide) (viewV (h_25.ok _ M2)) (Sls.cons (subLen (K := qn) hdl (by omega) : List.length ((data.drop (qn / 2)).take (qn - (qn / 2))) = qn - (qn / 2)) (by omega) (viewV (h_25.ok _ M1)) Sls.nil)))) rfl rfl hbl_26
 have h_34 := ((((((h_27.up J1).up J1).up J12).up J12).up J12).up J12).up J12
 refine WL.call Tryz.call17 rfl rfl (c_oDigestN ob mp (zB 32) df lr da dn dc u hdf la lc lx lg (by omega) (by omega) (some ⟨b_18, 0, none⟩) 3 3 [(.slice (slA qa 0 qc 1) (qn / 2) qc), (.slice none 0 0), (.slice (slA qa (qn / 2) qc 1) (qn - (qn / 2)) (qc - (qn / 2)))] [(data.drop 0).take (qn / 2), ([] : List UInt8), (data.drop (qn / 2)).take (qn - (qn / 2))] rfl dm hm (by rw [halves hdl]; omega) (by omega) _ h_34) rfl ?_
 rintro _ w_35 ⟨rfl, h_36⟩
 refine qM (.tuple [(.agg ⟨(zB 32).map vu8⟩), (vi 2)].toArray) rfl rfl (qV rfl (R.extract rfl rfl) (qV rfl (R.extract rfl rfl) ?_))
 refine WL.storeA [] [(32, (zB 32).map vu8)] [(32, (zB 32).map vu8)] [] h_36 rfl rfl sizeOf29 Y10 (by decide) rfl rfl rfl rfl rfl rfl (sC (s8 lr) sN) (fun w_37 h_38 => ?_)
 refine qA (vi 2) rfl rfl ?_
 refine WL.nil (inb_n (thn_n (WP.seq (WP.seq (WP.reg ?_)))))
 refine qV rfl (R.loadA [] [(1, [(vi 1)]), (32, (zB 32).map vu8), (1, [(vi dm)]), (1, [(.slice qa qn qc)])] [] rfl isAgg39 sizeOf39 (h_38.ok _ M11) rfl rfl rfl rfl) ?_
 refine WL.call Tryz.call20 rfl rfl (c_rMayF 1 dm (zB 32) qa qn qc lr hm _ ) rfl ?_
 rintro _ w_40 ⟨rfl, hc_39⟩
 have h_41 := h_38.same hc_39
 refine qV rfl (R.not (b := false) rfl) ?_
 refine WL.nil (thn_n ?_)
 refine WP.condT rfl ?_
 refine WP.seq (WP.reg ?_)
 refine qM (vi 2) rfl rfl (qV rfl (R.bin rfl rfl (bi_eql (r := true) (by decide))) (qM (.bool true) rfl rfl ?_))
 refine WL.want rfl rfl ?_
 refine qV rfl (R.loadA [] [(32, (zB 32).map vu8)] [] (cs := (zB 32).map vu8) rfl isAgg29 sizeOf29 (h_41.ok _ M10) rfl rfl rfl rfl) ?_
 refine WL.want rfl rfl ?_
 refine qV rfl (R.buildA (vs := []) (cs := (zB 32).map vu8) underlying29 sizeOf5 (zv typeInfo29 rfl) rfl rfl) ?_
 refine WL.want rfl rfl ?_
 refine qV rfl (R.eqA (xs := (zB 32).map vu8) (ys := (zB 32).map vu8) (r := true) rfl rfl eqGuardType29 kt29 (by decide) ag29 (Typ.u8s underlying29 ce29 underlying5 ce5 lr) (Typ.u8s underlying29 ce29 underlying5 ce5 lr) (eqT rfl)) (qV rfl (R.pickT (v := (.bool true)) rfl rfl) (qA (.bool true) rfl rfl ?_))
 refine WL.nil (thn_n (WP.ret (thn_r (inb_r (thn_r ?_)))))
 refine ret_of results8 (RV.tmp (v := (.bool true)) rfl RV.nil) ?_
 have h_67 := (((((((((((((((((((((((((h_41.up J5).drop rfl).up J5).drop rfl).up J5).drop rfl).up J5).drop rfl).up J5).drop rfl).up J5).drop rfl).up J5).drop rfl).up J5).drop rfl).up J9).up J9).up J9).up J9).up J9).up J9).up J9).up J9).up J9).up J9
 exact ⟨_, _, _, _, _, _, rfl, h_67⟩

theorem c_one4t {w00 : World} {L : List Ent} (ob mp : Nat) (df : List UInt8) (da : Option Addr) (dn dc u : Nat) (hdf : df.length = 32 * dn) (la : Option Addr) (lc : Nat) (lx : List Value) (lg : Lg) (hu : u ≤ 500000) (hlg : lg.length ≤ 500000) (rb : Nat) (dr : Option Addr) (drc : Nat) (ra : Option Addr) (rc : Nat) (rx : List Value) (kd dm sn : Int) (key data : List UInt8) (qa : Option Addr) (qn qc : Nat) (hk : key.length = 32) (hdl : data.length = qn) (hqn : qn ≤ 100000) (hqc : qn ≤ qc) (h2 : 1 ≤ dm ∧ dm ≤ 16) (w : World) (h_0 : HP w00 w (Ent.blk ob .nw 66 [(1, [(.bool true)]), (32, (List.replicate 32 (0 : UInt8)).map vu8), (1, [(.slice da dn dc)]), (1, [(vi ((u : Nat) : Int))]), (1, [(.map (some mp))]), (1, [(.slice la lg.length lc)])] :: Ent.row la lg.length lc 47 67 lx :: Ent.obj mp .nw (.map (mArr lg) lg.length) :: Ent.pin (sblks lx) (fun w => Lgs w lx lg) :: Ent.view da (df.map vu8) :: Ent.blk rb .nw 33 [(1, [(.bool true)]), (32, (List.replicate 32 (0 : UInt8)).map vu8), (1, [(.slice dr dn drc)]), (1, [(vi ((u : Nat) : Int))]), (1, [(.slice ra lg.length rc)])] :: Ent.row ra lg.length rc 47 67 rx :: Ent.pin (sblks rx) (fun w => Lgs w rx lg) :: Ent.view dr (df.map vu8) :: Ent.view qa (data.map vu8) :: L)) :
  Cs Tryz.prog 8 [(.pointer (some ⟨ob, 0, none⟩)), (.pointer (some ⟨rb, 0, none⟩)), (.agg ⟨flat [(1, [(vi 4)]), (1, [(vi sn)]), (1, [(vi kd)]), (32, key.map vu8), (1, [(vi dm)]), (1, [(.slice qa qn qc)])]⟩)].toArray w (fun v w1 => ∃ la' lc' lx' ra' rc' rx', v = .bool true ∧ HP w00 w1 (Ent.blk ob .nw 66 [(1, [(.bool true)]), (32, (List.replicate 32 (0 : UInt8)).map vu8), (1, [(.slice da dn dc)]), (1, [(vi (((anU true u lg (2, key, dm, data)) : Nat) : Int))]), (1, [(.map (some mp))]), (1, [(.slice la' ((anL true df dn u lg (2, key, dm, data)).length) lc')])] :: Ent.row la' ((anL true df dn u lg (2, key, dm, data)).length) lc' 47 67 lx' :: Ent.obj mp .nw (.map (mArr (anL true df dn u lg (2, key, dm, data))) ((anL true df dn u lg (2, key, dm, data)).length)) :: Ent.pin (sblks lx') (fun w => Lgs w lx' (anL true df dn u lg (2, key, dm, data))) :: Ent.view da (df.map vu8) :: Ent.blk rb .nw 33 [(1, [(.bool true)]), (32, (List.replicate 32 (0 : UInt8)).map vu8), (1, [(.slice dr dn drc)]), (1, [(vi (((anU true u lg (2, key, dm, data)) : Nat) : Int))]), (1, [(.slice ra' ((anL true df dn u lg (2, key, dm, data)).length) rc')])] :: Ent.row ra' ((anL true df dn u lg (2, key, dm, data)).length) rc' 47 67 rx' :: Ent.pin (sblks rx') (fun w => Lgs w rx' (anL true df dn u lg (2, key, dm, data))) :: Ent.view dr (df.map vu8) :: Ent.view qa (data.map vu8) :: L)) := by
 refine Cs.of (n := 186) (args := [(pO ob 0), (pO rb 0), (.agg ⟨flat [(1, [(vi 4)]), (1, [(vi sn)]), (1, [(vi kd)]), (32, key.map vu8), (1, [(vi dm)]), (1, [(.slice qa qn qc)])]⟩)]) Tryz.func8 rfl rfl rfl ?_
 refine WP.seq (WP.reg ?_)
 refine WL.box (segs := [(1, [(vi 4)]), (1, [(vi sn)]), (1, [(vi kd)]), (32, key.map vu8), (1, [(vi dm)]), (1, [(.slice qa qn qc)])]) h_0 rfl rfl (sC sV (sC sV (sC sV (sC (s8 hk) (sC sV (sC sV sN)))))) rfl (fun b_1 w_2 h_3 => ?_)
 refine qA (.bool false) rfl rfl ?_
 refine WL.nil (thn_n (WP.seq (WP.reg ?_)))
 refine qV rfl (R.fieldAddr (off' := 2) rfl underlying41 rfl sizeOf39 rfl rfl) (qV rfl (R.loadA [(1, [(vi 4)]), (1, [(vi sn)])] [(1, [(vi kd)]), (32, key.map vu8), (1, [(vi dm)]), (1, [(.slice qa qn qc)])] [] rfl isAgg39 sizeOf39 (h_3.ok _ M0) rfl rfl rfl rfl) ?_)
 refine WL.alloc (segs := [(1, [(vi 0)]), (32, (zB 32).map vu8), (1, [(vi 0)]), (1, [(.slice none 0 0)])]) h_3 (zv typeInfo39 rfl) rfl (sC sV (sC (s8 lr) (sC sV (sC sV sN)))) rfl (fun b_4 w_5 h_6 => ?_)
 refine WL.storeA [] [(1, [(vi 0)]), (32, (zB 32).map vu8), (1, [(vi 0)]), (1, [(.slice none 0 0)])] [(1, [(vi kd)]), (32, key.map vu8), (1, [(vi dm)]), (1, [(.slice qa qn qc)])] [] h_6 rfl rfl sizeOf39 At.h (by decide) rfl rfl rfl rfl rfl rfl (sC sV (sC (s8 hk) (sC sV (sC sV sN)))) (fun w_7 h_8 => ?_)
 refine WL.nil (thn_n (WP.seq (WP.seq (WP.reg ?_))))
 refine qV rfl (R.fieldAddr (off' := 0) rfl underlying41 rfl sizeOf3 rfl rfl) (qV rfl (R.load1 rfl isAgg3 (h_8.ok _ M1) Sg.h) ?_)
 refine WL.nil (thn_n (WP.block (WP.seq (WP.reg ?_))))
 refine qV rfl (R.bin rfl rfl (bi_eql (r := false) (by decide))) (qA (.bool false) rfl rfl ?_)
 refine WL.nil (thn_n ?_)
 refine WP.condF rfl ?_
 refine WP.seq (WP.reg ?_)
 refine qV rfl (R.bin rfl rfl (bi_eql (r := false) (by decide))) (qA (.bool false) rfl rfl ?_)
 refine WL.nil (thn_n ?_)
 refine WP.condF rfl ?_
 refine WP.seq (WP.seq (WP.reg ?_))
 refine qV rfl (R.bin rfl rfl (bi_eql (r := false) (by decide))) (qA (.bool false) rfl rfl ?_)
 refine WL.nil (thn_n ?_)
 refine WP.condF rfl ?_
 refine WP.seq (WP.reg ?_)
 refine qV rfl (R.bin rfl rfl (bi_eql (r := true) (by decide))) (qA (.bool true) rfl rfl ?_)
 refine WL.nil (thn_n ?_)
 refine WP.condT rfl ?_
 refine WP.skip (thn_n ?_)
 refine WP.condT rfl ?_
 refine WP.seq (WP.reg ?_)
 refine qV rfl (R.fieldAddr (off' := 34) rfl underlying39 rfl sizeOf37 rfl rfl) (qV rfl (R.load1 rfl isAgg37 (h_8.ok _ M0) (Sg.t rfl (Sg.t rfl (Sg.t rfl Sg.h)))) (qV rfl (R.lenS (a := qa) (m := qn) rfl rfl underlying37) (qV rfl (R.bin rfl rfl (bi_quo (c := ((qn / 2 : Nat) : Int)) (by first | omega | exact ⟨Int.natCast_nonneg _, by omega⟩) (by omega) (by first | omega | rfl))) (qA (vn (qn / 2)) rfl rfl ?_))))
 refine WL.nil (thn_n (WP.seq ?_))
 refine WP.drawT (SL w00.heap.size [.blk b_4 .nw 39 [(1, [(vi kd)]), (32, key.map vu8), (1, [(vi dm)]), (1, [(.slice qa qn qc)])], .blk b_1 .nw 41 [(1, [(vi 4)]), (1, [(vi sn)]), (1, [(vi kd)]), (32, key.map vu8), (1, [(vi dm)]), (1, [(.slice qa qn qc)])], .blk ob .nw 66 [(1, [(.bool true)]), (32, (zB 32).map vu8), (1, [(.slice da dn dc)]), (1, [(vn u)]), (1, [(.map (some mp))]), (1, [(.slice la lg.length lc)])], .row la lg.length lc 47 67 lx, .obj mp .nw (.map (mArr lg) lg.length), .pin (sblks lx) (fun w => Lgs w lx lg), .view da (df.map vu8), .blk rb .nw 33 [(1, [(.bool true)]), (32, (zB 32).map vu8), (1, [(.slice dr dn drc)]), (1, [(vn u)]), (1, [(.slice ra lg.length rc)])], .row ra lg.length rc 47 67 rx, .pin (sblks rx) (fun w => Lgs w rx lg), .view dr (df.map vu8), .view qa (data.map vu8)]) (.q 0 (.q 1 (.q 2 (.q 3 (.q 4 (.q 5 (.q 6 (.q 7 (.q 8 (.q 9 .nil)))))))))) (by kernel_rfl) (by kernel_rfl) rfl (by kernel_rfl) (fun w_9 hc_11 => (SL.cons ((h_8.same hc_11).ok _ M0) (SL.cons ((h_8.same hc_11).ok _ M1) (SL.cons ((h_8.same hc_11).ok _ M2) (SL.cons ((h_8.same hc_11).ok _ M3) (SL.cons ((h_8.same hc_11).ok _ M4) (SL.cons ((h_8.same hc_11).ok _ M5) (SL.cons ((h_8.same hc_11).ok _ M6) (SL.cons ((h_8.same hc_11).ok _ M7) (SL.cons ((h_8.same hc_11).ok _ M8) (SL.cons ((h_8.same hc_11).ok _ M9) (SL.cons ((h_8.same hc_11).ok _ M10) (SL.cons ((h_8.same hc_11).ok _ M11) (SL.nil _ _)))))))))))))) (fun w_9 hc_11 => ?_)
 have h_10 := h_8.same hc_11
 refine qT rfl rfl (fun wq hS => R.fieldAddr (off' := 34) rfl underlying39 rfl sizeOf37 rfl rfl) ?_
 refine qT rfl rfl (fun wq hS => R.load1 rfl isAgg37 (hS _ M0) (Sg.t rfl (Sg.t rfl (Sg.t rfl Sg.h)))) ?_
 refine qT rfl rfl (fun wq hS => R.move (v := (vn (qn / 2))) rfl) ?_
 refine qT rfl rfl (fun wq hS => R.sliceS (a := qa) (len := qn) (l := 0) (h := qn / 2) rfl EvB.dflt (EvB.it (l := qn / 2) rfl rfl) (by omega) (by omega) underlying37 sizeOf5) ?_
 refine qT rfl rfl (fun wq hS => R.fieldAddr (off' := 34) rfl underlying39 rfl sizeOf37 rfl rfl) ?_
 refine qT rfl rfl (fun wq hS => R.load1 rfl isAgg37 (hS _ M0) (Sg.t rfl (Sg.t rfl (Sg.t rfl Sg.h)))) ?_
 refine qT rfl rfl (fun wq hS => R.move (v := (vn (qn / 2))) rfl) ?_
 refine qT rfl rfl (fun wq hS => R.sliceS (a := qa) (len := qn) (l := qn / 2) (h := qn) rfl (EvB.it (l := qn / 2) rfl rfl) EvB.dflt (by omega) (by omega) underlying37 sizeOf5) ?_
 refine qT rfl rfl (fun wq hS => R.assign (v := (.slice (slA qa 0 qc 1) (qn / 2) qc)) rfl) ?_
 refine qT rfl rfl (fun wq hS => R.assign (v := (.slice (slA qa (qn / 2) qc 1) (qn - (qn / 2)) (qc - (qn / 2)))) rfl) ?_
 refine WT.nil (thn_n (WP.seq (WP.reg ?_)))
 refine WL.alloc (segs := [(32, (zB 32).map vu8)]) h_10 (zv typeInfo29 rfl) rfl (sC (s8 lr) sN) rfl (fun b_12 w_13 h_14 => ?_)
 refine WL.nil (thn_n (WP.seq (WP.reg ?_)))
 refine qA (vi 0) rfl rfl ?_
 refine WL.nil (thn_n (WP.seq (WP.seq (WP.reg ?_))))
 refine qV rfl (R.fieldAddr (off' := 0) rfl underlying41 rfl sizeOf3 rfl rfl) (qV rfl (R.load1 rfl isAgg3 (h_14.ok _ M2) Sg.h) ?_)
 refine WL.nil (thn_n (WP.block (WP.seq (WP.reg ?_))))
 refine qV rfl (R.bin rfl rfl (bi_eql (r := false) (by decide))) (qA (.bool false) rfl rfl ?_)
 refine WL.nil (thn_n ?_)
 refine WP.condF rfl ?_
 refine WP.seq (WP.reg ?_)
 refine qV rfl (R.bin rfl rfl (bi_eql (r := true) (by decide))) (qA (.bool true) rfl rfl ?_)
 refine WL.nil (thn_n ?_)
 refine WP.condT rfl ?_
 refine WP.seq (WP.reg ?_)
 refine qV rfl (R.fieldAddr (off' := 0) rfl underlying39 rfl sizeOf35 rfl rfl) ?_
 refine WL.store1 h_14 rfl rfl sizeOf35 rfl Y1 (by decide) Sg.h (fun w_15 h_16 => ?_)
 refine WL.nil (thn_n (WP.reg ?_))
 refine qM (pO ob 0) rfl rfl (qV rfl (R.fieldAddr (off' := 1) rfl underlying39 rfl sizeOf29 rfl rfl) (qV rfl (R.loadA [(1, [(vi 2)])] [(32, key.map vu8)] [(1, [(vi dm)]), (1, [(.slice qa qn qc)])] (cs := key.map vu8) rfl isAgg29 sizeOf29 (h_16.ok _ M1) rfl rfl rfl rfl) (qV rfl (R.fieldAddr (off' := 33) rfl underlying39 rfl sizeOf36 rfl rfl) (qV rfl (R.load1 rfl isAgg36 (h_16.ok _ M1) (Sg.t rfl (Sg.t rfl Sg.h))) (qM (.slice (slA qa 0 qc 1) (qn / 2) qc) rfl rfl (qM (.slice (slA qa (qn / 2) qc 1) (qn - (qn / 2)) (qc - (qn / 2))) rfl rfl ?_))))))
 refine WL.buildSl (vs := [(0, (.slice (slA qa 0 qc 1) (qn / 2) qc)), (1, (.slice (slA qa (qn / 2) qc 1) (qn - (qn / 2)) (qc - (qn / 2))))]) (cs := [(.slice (slA qa 0 qc 1) (qn / 2) qc), (.slice (slA qa (qn / 2) qc 1) (qn - (qn / 2)) (qc - (qn / 2)))]) h_16 underlying82 sizeOf37 (zv typeInfo37 rfl) rfl rfl (by kernel_rfl) rfl (by simp [Value.oneCell']) rfl rfl (fun b_17 w_18 h_19 => ?_)
 have h_20 := h_19.within (e' := .view (slA qa 0 qc 1) (((data.drop 0).take (qn / 2)).map vu8)) M13 rfl (View.arg (View.slM (l := 0) (m := qc) (k := qn / 2) (viewV (h_19.ok _ M13)) (by omega))) rfl rfl sub_blk2
 have h_21 := h_20.within (e' := .view (slA qa (qn / 2) qc 1) (((data.drop (qn / 2)).take (qn - (qn / 2))).map vu8)) M14 rfl (View.arg (View.slM (l := qn / 2) (m := qc) (k := qn - (qn / 2)) (viewV (h_20.ok _ M14)) (by omega))) rfl rfl sub_blk2
 have h_22 := h_21.up J2
 have h_23 := HP_blkView h_22
 have hbl_24 : ∀ b ∈ sblks [(.slice (slA qa 0 qc 1) (qn / 2) qc), (.slice (slA qa (qn / 2) qc 1) (qn - (qn / 2)) (qc - (qn / 2)))], ∃ e ∈ ((Ent.view (some ⟨b_17, 0, none⟩) [(.slice (slA qa 0 qc 1) (qn / 2) qc), (.slice (slA qa (qn / 2) qc 1) (qn - (qn / 2)) (qc - (qn / 2)))] :: Ent.view (slA qa (qn / 2) qc 1) (((data.drop (qn / 2)).take (qn - (qn / 2))).map vu8) :: Ent.view (slA qa 0 qc 1) (((data.drop 0).take (qn / 2)).map vu8) :: Ent.blk b_12 .nw 29 [(32, (List.replicate 32 (0 : UInt8)).map vu8)] :: Ent.blk b_4 .nw 39 [(1, [(vi 2)]), (32, key.map vu8), (1, [(vi dm)]), (1, [(.slice qa qn qc)])] :: Ent.blk b_1 .nw 41 [(1, [(vi 4)]), (1, [(vi sn)]), (1, [(vi kd)]), (32, key.map vu8), (1, [(vi dm)]), (1, [(.slice qa qn qc)])] :: Ent.blk ob .nw 66 [(1, [(.bool true)]), (32, (List.replicate 32 (0 : UInt8)).map vu8), (1, [(.slice da dn dc)]), (1, [(vi ((u : Nat) : Int))]), (1, [(.map (some mp))]), (1, [(.slice la lg.length lc)])] :: Ent.row la lg.length lc 47 67 lx :: Ent.obj mp .nw (.map (mArr lg) lg.length) :: Ent.pin (sblks lx) (fun w => Lgs w lx lg) :: Ent.view da (df.map vu8) :: Ent.blk rb .nw 33 [(1, [(.bool true)]), (32, (List.replicate 32 (0 : UInt8)).map vu8), (1, [(.slice dr dn drc)]), (1, [(vi ((u : Nat) : Int))]), (1, [(.slice ra lg.length rc)])] :: Ent.row ra lg.length rc 47 67 rx :: Ent.pin (sblks rx) (fun w => Lgs w rx lg) :: Ent.view dr (df.map vu8) :: Ent.view qa (data.map vu8) :: L) : List Ent), e.mut = false ∧ b ∈ e.blocks := by
  intro b hb
  rcases List.mem_append.1 hb with hb | hb
  ·exact ⟨_, M2, rfl, sblk_in_view (subLen (K := qn) hdl (by omega) : List.length ((data.drop 0).take (qn / 2)) = qn / 2) b hb⟩
  rcases List.mem_append.1 hb with hb | hb
  ·exact ⟨_, M1, rfl, sblk_in_view (subLen (K := qn) hdl (by omega) : List.length ((data.drop (qn / 2)).take (qn - (qn / 2))) = qn - (qn / 2)) b hb⟩
  cases hb
 have h_25 := HP_within (e' := .pin (sblks [(.slice (slA qa 0 qc 1) (qn / 2) qc), (.slice (slA qa (qn / 2) qc 1) (qn - (qn / 2)) (qc - (qn / 2)))]) (fun w => Sls w [(.slice (slA qa 0 qc 1) (qn / 2) qc), (.slice (slA qa (qn / 2) qc 1) (qn - (qn / 2)) (qc - (qn / 2)))] [(data.drop 0).take (qn / 2), (data.drop (qn / 2)).take (qn - (qn / 2))])) h_23 (Sls.pin (Sls.cons (subLen (K := qn) hdl (by omega) : List.length ((data.drop 0).take (qn / 2)) = qn / 2) (by omega) (viewV (h_23.ok _ M2)) (Sls.cons (subLen (K := qn) hdl (by omega) : List.length ((data.drop (qn / 2)).take (qn - (qn / 2))) = qn - (qn / 2)) (by omega) (viewV (h_23.ok _ M1)) Sls.nil))) rfl rfl hbl_24
 have h_32 := ((((((h_25.up J1).up J1).up J11).up J11).up J11).up J11).up J11
 have h32_w_33 := Lgs.ok32 (h_32.ok _ M3).1
 refine WL.call Tryz.call23 rfl rfl (c_oTagI ob mp (zB 32) df lr da dn dc u hdf la lc lx lg (by omega) (by omega) (some ⟨b_17, 0, none⟩) 2 2 [(.slice (slA qa 0 qc 1) (qn / 2) qc), (.slice (slA qa (qn / 2) qc 1) (qn - (qn / 2)) (qc - (qn / 2)))] [(data.drop 0).take (qn / 2), (data.drop (qn / 2)).take (qn - (qn / 2))] rfl key hk dm h2 (by rw [halves2 hdl]; omega) (by omega) _ h_32) rfl ?_
 rintro _ w_33 ⟨la_35, lc_36, lx_37, rfl, h_34⟩
 rw [halves2 hdl] at h_34 ⊢
 refine qM (.tuple [(.agg ⟨(anD true df dn u lg (2, key, dm, data)).map vu8⟩), (vi 0)].toArray) rfl rfl (qV rfl (R.extract rfl rfl) (qV rfl (R.extract rfl rfl) ?_))
 refine WL.storeA [] [(32, (zB 32).map vu8)] [(32, (anD true df dn u lg (2, key, dm, data)).map vu8)] [] h_34 rfl rfl sizeOf29 Y9 (by decide) rfl rfl rfl rfl rfl rfl (sC (s8 (anD_len hdf h32_w_33)) sN) (fun w_38 h_39 => ?_)
 refine qA (vi 0) rfl rfl ?_
 refine WL.nil (inb_n (thn_n (WP.seq (WP.seq (WP.reg ?_)))))
 refine qV rfl (R.loadA [] [(1, [(vi 2)]), (32, key.map vu8), (1, [(vi dm)]), (1, [(.slice qa qn qc)])] [] rfl isAgg39 sizeOf39 (h_39.ok _ M10) rfl rfl rfl rfl) ?_
 refine WL.call Tryz.call20 rfl rfl (c_rMayT 2 dm key qa qn qc hk (by decide) h2 (fun h => absurd h (by decide)) _ ) rfl ?_
 rintro _ w_41 ⟨rfl, hc_40⟩
 have h_42 := h_39.same hc_40
 refine qV rfl (R.not (b := true) rfl) ?_
 refine WL.nil (thn_n ?_)
 refine WP.condF rfl ?_
 refine WP.skip (thn_n (WP.seq ?_))
 refine WP.drawT (SL w00.heap.size [.blk ob .nw 66 [(1, [(.bool true)]), (32, (zB 32).map vu8), (1, [(.slice da dn dc)]), (1, [(vn (anU true u lg (2, key, dm, data)))]), (1, [(.map (some mp))]), (1, [(.slice la_35 ((anL true df dn u lg (2, key, dm, data)).length) lc_36)])], .row la_35 ((anL true df dn u lg (2, key, dm, data)).length) lc_36 47 67 lx_37, .obj mp .nw (.map (mArr (anL true df dn u lg (2, key, dm, data))) ((anL true df dn u lg (2, key, dm, data)).length)), .pin (sblks lx_37) (fun w => Lgs w lx_37 (anL true df dn u lg (2, key, dm, data))), .view da (df.map vu8), .pin (sblks [(.slice (slA qa 0 qc 1) (qn / 2) qc), (.slice (slA qa (qn / 2) qc 1) (qn - (qn / 2)) (qc - (qn / 2)))]) (fun w => Sls w [(.slice (slA qa 0 qc 1) (qn / 2) qc), (.slice (slA qa (qn / 2) qc 1) (qn - (qn / 2)) (qc - (qn / 2)))] [(data.drop 0).take (qn / 2), (data.drop (qn / 2)).take (qn - (qn / 2))]), .view (some ⟨b_17, 0, none⟩) [(.slice (slA qa 0 qc 1) (qn / 2) qc), (.slice (slA qa (qn / 2) qc 1) (qn - (qn / 2)) (qc - (qn / 2)))], .view (slA qa (qn / 2) qc 1) (((data.drop (qn / 2)).take (qn - (qn / 2))).map vu8), .view (slA qa 0 qc 1) (((data.drop 0).take (qn / 2)).map vu8), .blk b_12 .nw 29 [(32, (anD true df dn u lg (2, key, dm, data)).map vu8)], .blk b_4 .nw 39 [(1, [(vi 2)]), (32, key.map vu8), (1, [(vi dm)]), (1, [(.slice qa qn qc)])], .blk b_1 .nw 41 [(1, [(vi 4)]), (1, [(vi sn)]), (1, [(vi kd)]), (32, key.map vu8), (1, [(vi dm)]), (1, [(.slice qa qn qc)])], .view qa (data.map vu8)]) (.q 0 (.q 1 (.q 2 (.q 3 (.q 4 (.q 5 (.s 6 (.q 7 (.q 8 (.q 9 .nil)))))))))) (by kernel_rfl) (by kernel_rfl) rfl (by kernel_rfl) (fun w_43 hc_45 => (SL.cons ((h_42.same hc_45).ok _ M0) (SL.cons ((h_42.same hc_45).ok _ M1) (SL.cons ((h_42.same hc_45).ok _ M2) (SL.cons ((h_42.same hc_45).ok _ M3) (SL.cons ((h_42.same hc_45).ok _ M4) (SL.cons ((h_42.same hc_45).ok _ M5) (SL.cons ((h_42.same hc_45).ok _ M6) (SL.cons ((h_42.same hc_45).ok _ M7) (SL.cons ((h_42.same hc_45).ok _ M8) (SL.cons ((h_42.same hc_45).ok _ M9) (SL.cons ((h_42.same hc_45).ok _ M10) (SL.cons ((h_42.same hc_45).ok _ M11) (SL.cons ((h_42.same hc_45).ok _ M16) (SL.nil _ _))))))))))))))) (fun w_43 hc_45 => ?_)
 have h_44 := h_42.same hc_45
 refine qT rfl rfl (fun wq hS => R.move (v := (vi 0)) rfl) ?_
 refine qT rfl rfl (fun wq hS => R.bin rfl rfl (bi_eql (r := true) (by decide))) ?_
 refine qT rfl rfl (fun wq hS => R.move (v := (.bool true)) rfl) ?_
 refine WT.q rfl (Wn.yes rfl rfl rfl) rfl rfl (fun wq hS => R.loadA [] [(32, (anD true df dn u lg (2, key, dm, data)).map vu8)] [] (cs := (anD true df dn u lg (2, key, dm, data)).map vu8) rfl isAgg29 sizeOf29 (hS _ M9) rfl rfl rfl rfl) ?_
 refine WT.q rfl (Wn.yes rfl rfl rfl) rfl rfl (fun wq hS => R.move (v := (pO rb 0)) rfl) ?_
 refine WT.q rfl (Wn.yes rfl rfl rfl) rfl rfl (fun wq hS => R.loadA [] [(1, [(vi 2)]), (32, key.map vu8), (1, [(vi dm)]), (1, [(.slice qa qn qc)])] [] rfl isAgg39 sizeOf39 (hS _ M10) rfl rfl rfl rfl) ?_
 refine WT.s ?_
 refine Op1.one rfl (Wn.yes rfl rfl rfl) ?_
 have h_50 := ((((h_44.up J16).up J16).up J16).up J16).up J16
 have h32_w_54 := (Lgs.ok32 (h_50.ok _ M2).1)
 refine WL.call Tryz.call21 rfl rfl (c_rAskI rb (zB 32) df lr dr dn drc u hdf ra rc rx lg (by omega) (by omega) 2 dm key data qa qn qc ⟨hk, by show (1 : Int) ≤ 2 ∧ (2 : Int) ≤ 4; omega, by show (1 : Int) ≤ dm ∧ (dm : Int) ≤ 16; omega, by show List.length data ≤ 1000000000; first | decide | (simp only [List.length_append, leN_len]; omega) | omega⟩ hdl  _ h_50) rfl ?_
 rintro _ w_54 ⟨la_51, lc_52, lx_53, rfl, h_55⟩
 refine WL.nil ?_
 refine ⟨(N5_6_7_8_9_10_11_12_13_14_15_16_4 h_55.ok), ?_⟩
 refine WT.q rfl (Wn.yes rfl rfl rfl) rfl rfl (fun wq hS => R.eqA (xs := (anD true df dn u lg (2, key, dm, data)).map vu8) (ys := (anD true df dn u lg (2, key, dm, data)).map vu8) (r := true) rfl rfl eqGuardType29 kt29 (by decide) ag29 (Typ.u8s underlying29 ce29 underlying5 ce5 (anD_len hdf h32_w_33)) (Typ.u8s underlying29 ce29 underlying5 ce5 (anD_len hdf h32_w_54)) (eqT rfl)) ?_
 refine qT rfl rfl (fun wq hS => R.pickT (v := (.bool true)) rfl rfl) ?_
 refine qT rfl rfl (fun wq hS => R.assign (v := (.bool true)) rfl) ?_
 refine WT.nil (thn_n (WP.ret (inb_r (thn_r ?_))))
 refine ret_of results8 (RV.tmp (v := (.bool true)) rfl RV.nil) ?_
 have h_79 := (((((((((((((((((((((((h_55.up J10).drop rfl).up J10).drop rfl).up J10).drop rfl).up J10).drop rfl).up J10).drop rfl).up J10).drop rfl).up J10).drop rfl).up J4).up J4).up J4).up J4).up J4).up J9).up J9).up J9).up J9).up J9
 exact ⟨_, _, _, _, _, _, rfl, h_79⟩

theorem c_one4n {w00 : World} {L : List Ent} (ob mp : Nat) (df : List UInt8) (da : Option Addr) (dn dc u : Nat) (hdf : df.length = 32 * dn) (la : Option Addr) (lc : Nat) (lx : List Value) (lg : Lg) (hu : u ≤ 500000) (hlg : lg.length ≤ 500000) (rb : Nat) (dr : Option Addr) (drc : Nat) (ra : Option Addr) (rc : Nat) (rx : List Value) (kd dm sn : Int) (key data : List UInt8) (qa : Option Addr) (qn qc : Nat) (hk : key.length = 32) (hdl : data.length = qn) (hqn : qn ≤ 100000) (hqc : qn ≤ qc) (hm : mayB 2 dm (key) = false) (w : World) (h_0 : HP w00 w (Ent.blk ob .nw 66 [(1, [(.bool true)]), (32, (List.replicate 32 (0 : UInt8)).map vu8), (1, [(.slice da dn dc)]), (1, [(vi ((u : Nat) : Int))]), (1, [(.map (some mp))]), (1, [(.slice la lg.length lc)])] :: Ent.row la lg.length lc 47 67 lx :: Ent.obj mp .nw (.map (mArr lg) lg.length) :: Ent.pin (sblks lx) (fun w => Lgs w lx lg) :: Ent.view da (df.map vu8) :: Ent.blk rb .nw 33 [(1, [(.bool true)]), (32, (List.replicate 32 (0 : UInt8)).map vu8), (1, [(.slice dr dn drc)]), (1, [(vi ((u : Nat) : Int))]), (1, [(.slice ra lg.length rc)])] :: Ent.row ra lg.length rc 47 67 rx :: Ent.pin (sblks rx) (fun w => Lgs w rx lg) :: Ent.view dr (df.map vu8) :: Ent.view qa (data.map vu8) :: L)) :
  Cs Tryz.prog 8 [(.pointer (some ⟨ob, 0, none⟩)), (.pointer (some ⟨rb, 0, none⟩)), (.agg ⟨flat [(1, [(vi 4)]), (1, [(vi sn)]), (1, [(vi kd)]), (32, key.map vu8), (1, [(vi dm)]), (1, [(.slice qa qn qc)])]⟩)].toArray w (fun v w1 => ∃ la' lc' lx' ra' rc' rx', v = .bool true ∧ HP w00 w1 (Ent.blk ob .nw 66 [(1, [(.bool true)]), (32, (List.replicate 32 (0 : UInt8)).map vu8), (1, [(.slice da dn dc)]), (1, [(vi ((u : Nat) : Int))]), (1, [(.map (some mp))]), (1, [(.slice la' lg.length lc')])] :: Ent.row la' lg.length lc' 47 67 lx' :: Ent.obj mp .nw (.map (mArr lg) lg.length) :: Ent.pin (sblks lx') (fun w => Lgs w lx' lg) :: Ent.view da (df.map vu8) :: Ent.blk rb .nw 33 [(1, [(.bool true)]), (32, (List.replicate 32 (0 : UInt8)).map vu8), (1, [(.slice dr dn drc)]), (1, [(vi ((u : Nat) : Int))]), (1, [(.slice ra' lg.length rc')])] :: Ent.row ra' lg.length rc' 47 67 rx' :: Ent.pin (sblks rx') (fun w => Lgs w rx' lg) :: Ent.view dr (df.map vu8) :: Ent.view qa (data.map vu8) :: L)) := by
 refine Cs.of (n := 186) (args := [(pO ob 0), (pO rb 0), (.agg ⟨flat [(1, [(vi 4)]), (1, [(vi sn)]), (1, [(vi kd)]), (32, key.map vu8), (1, [(vi dm)]), (1, [(.slice qa qn qc)])]⟩)]) Tryz.func8 rfl rfl rfl ?_
 refine WP.seq (WP.reg ?_)
 refine WL.box (segs := [(1, [(vi 4)]), (1, [(vi sn)]), (1, [(vi kd)]), (32, key.map vu8), (1, [(vi dm)]), (1, [(.slice qa qn qc)])]) h_0 rfl rfl (sC sV (sC sV (sC sV (sC (s8 hk) (sC sV (sC sV sN)))))) rfl (fun b_1 w_2 h_3 => ?_)
 refine qA (.bool false) rfl rfl ?_
 refine WL.nil (thn_n (WP.seq (WP.reg ?_)))
 refine qV rfl (R.fieldAddr (off' := 2) rfl underlying41 rfl sizeOf39 rfl rfl) (qV rfl (R.loadA [(1, [(vi 4)]), (1, [(vi sn)])] [(1, [(vi kd)]), (32, key.map vu8), (1, [(vi dm)]), (1, [(.slice qa qn qc)])] [] rfl isAgg39 sizeOf39 (h_3.ok _ M0) rfl rfl rfl rfl) ?_)
 refine WL.alloc (segs := [(1, [(vi 0)]), (32, (zB 32).map vu8), (1, [(vi 0)]), (1, [(.slice none 0 0)])]) h_3 (zv typeInfo39 rfl) rfl (sC sV (sC (s8 lr) (sC sV (sC sV sN)))) rfl (fun b_4 w_5 h_6 => ?_)
 refine WL.storeA [] [(1, [(vi 0)]), (32, (zB 32).map vu8), (1, [(vi 0)]), (1, [(.slice none 0 0)])] [(1, [(vi kd)]), (32, key.map vu8), (1, [(vi dm)]), (1, [(.slice qa qn qc)])] [] h_6 rfl rfl sizeOf39 At.h (by decide) rfl rfl rfl rfl rfl rfl (sC sV (sC (s8 hk) (sC sV (sC sV sN)))) (fun w_7 h_8 => ?_)
 refine WL.nil (thn_n (WP.seq (WP.seq (WP.reg ?_))))
 refine qV rfl (R.fieldAddr (off' := 0) rfl underlying41 rfl sizeOf3 rfl rfl) (qV rfl (R.load1 rfl isAgg3 (h_8.ok _ M1) Sg.h) ?_)
 refine WL.nil (thn_n (WP.block (WP.seq (WP.reg ?_))))
 refine qV rfl (R.bin rfl rfl (bi_eql (r := false) (by decide))) (qA (.bool false) rfl rfl ?_)
 refine WL.nil (thn_n ?_)
 refine WP.condF rfl ?_
 refine WP.seq (WP.reg ?_)
 refine qV rfl (R.bin rfl rfl (bi_eql (r := false) (by decide))) (qA (.bool false) rfl rfl ?_)
 refine WL.nil (thn_n ?_)
 refine WP.condF rfl ?_
 refine WP.seq (WP.seq (WP.reg ?_))
 refine qV rfl (R.bin rfl rfl (bi_eql (r := false) (by decide))) (qA (.bool false) rfl rfl ?_)
 refine WL.nil (thn_n ?_)
 refine WP.condF rfl ?_
 refine WP.seq (WP.reg ?_)
 refine qV rfl (R.bin rfl rfl (bi_eql (r := true) (by decide))) (qA (.bool true) rfl rfl ?_)
 refine WL.nil (thn_n ?_)
 refine WP.condT rfl ?_
 refine WP.skip (thn_n ?_)
 refine WP.condT rfl ?_
 refine WP.seq (WP.reg ?_)
 refine qV rfl (R.fieldAddr (off' := 34) rfl underlying39 rfl sizeOf37 rfl rfl) (qV rfl (R.load1 rfl isAgg37 (h_8.ok _ M0) (Sg.t rfl (Sg.t rfl (Sg.t rfl Sg.h)))) (qV rfl (R.lenS (a := qa) (m := qn) rfl rfl underlying37) (qV rfl (R.bin rfl rfl (bi_quo (c := ((qn / 2 : Nat) : Int)) (by first | omega | exact ⟨Int.natCast_nonneg _, by omega⟩) (by omega) (by first | omega | rfl))) (qA (vn (qn / 2)) rfl rfl ?_))))
 refine WL.nil (thn_n (WP.seq ?_))
 refine WP.drawT (SL w00.heap.size [.blk b_4 .nw 39 [(1, [(vi kd)]), (32, key.map vu8), (1, [(vi dm)]), (1, [(.slice qa qn qc)])], .blk b_1 .nw 41 [(1, [(vi 4)]), (1, [(vi sn)]), (1, [(vi kd)]), (32, key.map vu8), (1, [(vi dm)]), (1, [(.slice qa qn qc)])], .blk ob .nw 66 [(1, [(.bool true)]), (32, (zB 32).map vu8), (1, [(.slice da dn dc)]), (1, [(vn u)]), (1, [(.map (some mp))]), (1, [(.slice la lg.length lc)])], .row la lg.length lc 47 67 lx, .obj mp .nw (.map (mArr lg) lg.length), .pin (sblks lx) (fun w => Lgs w lx lg), .view da (df.map vu8), .blk rb .nw 33 [(1, [(.bool true)]), (32, (zB 32).map vu8), (1, [(.slice dr dn drc)]), (1, [(vn u)]), (1, [(.slice ra lg.length rc)])], .row ra lg.length rc 47 67 rx, .pin (sblks rx) (fun w => Lgs w rx lg), .view dr (df.map vu8), .view qa (data.map vu8)]) (.q 0 (.q 1 (.q 2 (.q 3 (.q 4 (.q 5 (.q 6 (.q 7 (.q 8 (.q 9 .nil)))))))))) (by kernel_rfl) (by kernel_rfl) rfl (by kernel_rfl) (fun w_9 hc_11 => (SL.cons ((h_8.same hc_11).ok _ M0) (SL.cons ((h_8.same hc_11).ok _ M1) (SL.cons ((h_8.same hc_11).ok _ M2) (SL.cons ((h_8.same hc_11).ok _ M3) (SL.cons ((h_8.same hc_11).ok _ M4) (SL.cons ((h_8.same hc_11).ok _ M5) (SL.cons ((h_8.same hc_11).ok _ M6) (SL.cons ((h_8.same hc_11).ok _ M7) (SL.cons ((h_8.same hc_11).ok _ M8) (SL.cons ((h_8.same hc_11).ok _ M9) (SL.cons ((h_8.same hc_11).ok _ M10) (SL.cons ((h_8.same hc_11).ok _ M11) (SL.nil _ _)))))))))))))) (fun w_9 hc_11 => ?_)
 have h_10 := h_8.same hc_11
 refine qT rfl rfl (fun wq hS => R.fieldAddr (off' := 34) rfl underlying39 rfl sizeOf37 rfl rfl) ?_
 refine qT rfl rfl (fun wq hS => R.load1 rfl isAgg37 (hS _ M0) (Sg.t rfl (Sg.t rfl (Sg.t rfl Sg.h)))) ?_
 refine qT rfl rfl (fun wq hS => R.move (v := (vn (qn / 2))) rfl) ?_
 refine qT rfl rfl (fun wq hS => R.sliceS (a := qa) (len := qn) (l := 0) (h := qn / 2) rfl EvB.dflt (EvB.it (l := qn / 2) rfl rfl) (by omega) (by omega) underlying37 sizeOf5) ?_
 refine qT rfl rfl (fun wq hS => R.fieldAddr (off' := 34) rfl underlying39 rfl sizeOf37 rfl rfl) ?_
 refine qT rfl rfl (fun wq hS => R.load1 rfl isAgg37 (hS _ M0) (Sg.t rfl (Sg.t rfl (Sg.t rfl Sg.h)))) ?_
 refine qT rfl rfl (fun wq hS => R.move (v := (vn (qn / 2))) rfl) ?_
 refine qT rfl rfl (fun wq hS => R.sliceS (a := qa) (len := qn) (l := qn / 2) (h := qn) rfl (EvB.it (l := qn / 2) rfl rfl) EvB.dflt (by omega) (by omega) underlying37 sizeOf5) ?_
 refine qT rfl rfl (fun wq hS => R.assign (v := (.slice (slA qa 0 qc 1) (qn / 2) qc)) rfl) ?_
 refine qT rfl rfl (fun wq hS => R.assign (v := (.slice (slA qa (qn / 2) qc 1) (qn - (qn / 2)) (qc - (qn / 2)))) rfl) ?_
 refine WT.nil (thn_n (WP.seq (WP.reg ?_)))
 refine WL.alloc (segs := [(32, (zB 32).map vu8)]) h_10 (zv typeInfo29 rfl) rfl (sC (s8 lr) sN) rfl (fun b_12 w_13 h_14 => ?_)
 refine WL.nil (thn_n (WP.seq (WP.reg ?_)))
 refine qA (vi 0) rfl rfl ?_
 refine WL.nil (thn_n (WP.seq (WP.seq (WP.reg ?_))))
 refine qV rfl (R.fieldAddr (off' := 0) rfl underlying41 rfl sizeOf3 rfl rfl) (qV rfl (R.load1 rfl isAgg3 (h_14.ok _ M2) Sg.h) ?_)
 refine WL.nil (thn_n (WP.block (WP.seq (WP.reg ?_))))
 refine qV rfl (R.bin rfl rfl (bi_eql (r := false) (by decide))) (qA (.bool false) rfl rfl ?_)
 refine WL.nil (thn_n ?_)
 refine WP.condF rfl ?_
 refine WP.seq (WP.reg ?_)
 refine qV rfl (R.bin rfl rfl (bi_eql (r := true) (by decide))) (qA (.bool true) rfl rfl ?_)
 refine WL.nil (thn_n ?_)
 refine WP.condT rfl ?_
 refine WP.seq (WP.reg ?_)
 refine qV rfl (R.fieldAddr (off' := 0) rfl underlying39 rfl sizeOf35 rfl rfl) ?_
 refine WL.store1 h_14 rfl rfl sizeOf35 rfl Y1 (by decide) Sg.h (fun w_15 h_16 => ?_)
 refine WL.nil (thn_n (WP.reg ?_))
 refine qM (pO ob 0) rfl rfl (qV rfl (R.fieldAddr (off' := 1) rfl underlying39 rfl sizeOf29 rfl rfl) (qV rfl (R.loadA [(1, [(vi 2)])] [(32, key.map vu8)] [(1, [(vi dm)]), (1, [(.slice qa qn qc)])] (cs := key.map vu8) rfl isAgg29 sizeOf29 (h_16.ok _ M1) rfl rfl rfl rfl) (qV rfl (R.fieldAddr (off' := 33) rfl underlying39 rfl sizeOf36 rfl rfl) (qV rfl (R.load1 rfl isAgg36 (h_16.ok _ M1) (Sg.t rfl (Sg.t rfl Sg.h))) (qM (.slice (slA qa 0 qc 1) (qn / 2) qc) rfl rfl (qM (.slice (slA qa (qn / 2) qc 1) (qn - (qn / 2)) (qc - (qn / 2))) rfl rfl ?_))))))
 refine WL.buildSl (vs := [(0, (.slice (slA qa 0 qc 1) (qn / 2) qc)), (1, (.slice (slA qa (qn / 2) qc 1) (qn - (qn / 2)) (qc - (qn / 2))))]) (cs := [(.slice (slA qa 0 qc 1) (qn / 2) qc), (.slice (slA qa (qn / 2) qc 1) (qn - (qn / 2)) (qc - (qn / 2)))]) h_16 underlying82 sizeOf37 (zv typeInfo37 rfl) rfl rfl (by kernel_rfl) rfl (by simp [Value.oneCell']) rfl rfl (fun b_17 w_18 h_19 => ?_)
 have h_20 := h_19.within (e' := .view (slA qa 0 qc 1) (((data.drop 0).take (qn / 2)).map vu8)) M13 rfl (View.arg (View.slM (l := 0) (m := qc) (k := qn / 2) (viewV (h_19.ok _ M13)) (by omega))) rfl rfl sub_blk2
 have h_21 := h_20.within (e' := .view (slA qa (qn / 2) qc 1) (((data.drop (qn / 2)).take (qn - (qn / 2))).map vu8)) M14 rfl (View.arg (View.slM (l := qn / 2) (m := qc) (k := qn - (qn / 2)) (viewV (h_20.ok _ M14)) (by omega))) rfl rfl sub_blk2
 have h_22 := h_21.up J2
 have h_23 := HP_blkView h_22
 have hbl_24 : ∀ b ∈ sblks [(.slice (slA qa 0 qc 1) (qn / 2) qc), (.slice (slA qa (qn / 2) qc 1) (qn - (qn / 2)) (qc - (qn / 2)))], ∃ e ∈ ((Ent.view (some ⟨b_17, 0, none⟩) [(.slice (slA qa 0 qc 1) (qn / 2) qc), (.slice (slA qa (qn / 2) qc 1) (qn - (qn / 2)) (qc - (qn / 2)))] :: Ent.view (slA qa (qn / 2) qc 1) (((data.drop (qn / 2)).take (qn - (qn / 2))).map vu8) :: Ent.view (slA qa 0 qc 1) (((data.drop 0).take (qn / 2)).map vu8) :: Ent.blk b_12 .nw 29 [(32, (List.replicate 32 (0 : UInt8)).map vu8)] :: Ent.blk b_4 .nw 39 [(1, [(vi 2)]), (32, key.map vu8), (1, [(vi dm)]), (1, [(.slice qa qn qc)])] :: Ent.blk b_1 .nw 41 [(1, [(vi 4)]), (1, [(vi sn)]), (1, [(vi kd)]), (32, key.map vu8), (1, [(vi dm)]), (1, [(.slice qa qn qc)])] :: Ent.blk ob .nw 66 [(1, [(.bool true)]), (32, (List.replicate 32 (0 : UInt8)).map vu8), (1, [(.slice da dn dc)]), (1, [(vi ((u : Nat) : Int))]), (1, [(.map (some mp))]), (1, [(.slice la lg.length lc)])] :: Ent.row la lg.length lc 47 67 lx :: Ent.obj mp .nw (.map (mArr lg) lg.length) :: Ent.pin (sblks lx) (fun w => Lgs w lx lg) :: Ent.view da (df.map vu8) :: Ent.blk rb .nw 33 [(1, [(.bool true)]), (32, (List.replicate 32 (0 : UInt8)).map vu8), (1, [(.slice dr dn drc)]), (1, [(vi ((u : Nat) : Int))]), (1, [(.slice ra lg.length rc)])] :: Ent.row ra lg.length rc 47 67 rx :: Ent.pin (sblks rx) (fun w => Lgs w rx lg) :: Ent.view dr (df.map vu8) :: Ent.view qa (data.map vu8) :: L) : List Ent), e.mut = false ∧ b ∈ e.blocks := by
  intro b hb
  rcases List.mem_append.1 hb with hb | hb
  ·exact ⟨_, M2, rfl, sblk_in_view (subLen (K := qn) hdl (by omega) : List.length ((data.drop 0).take (qn / 2)) = qn / 2) b hb⟩
  rcases List.mem_append.1 hb with hb | hb
  ·exact ⟨_, M1, rfl, sblk_in_view (subLen (K := qn) hdl (by omega) : List.length ((data.drop (qn / 2)).take (qn - (qn / 2))) = qn - (qn / 2)) b hb⟩
  cases hb
 have h_25 := HP_within (e' := .pin (sblks [(.slice (slA qa 0 qc 1) (qn / 2) qc), (.slice (slA qa (qn / 2) qc 1) (qn - (qn / 2)) (qc - (qn / 2)))]) (fun w => Sls w [(.slice (slA qa 0 qc 1) (qn / 2) qc), (.slice (slA qa (qn / 2) qc 1) (qn - (qn / 2)) (qc - (qn / 2)))] [(data.drop 0).take (qn / 2), (data.drop (qn / 2)).take (qn - (qn / 2))])) h_23 (Sls.pin (Sls.cons (subLen (K := qn) hdl (by omega) : List.length ((data.drop 0).take (qn / 2)) = qn / 2) (by omega) (viewV (h_23.ok _ M2)) (Sls.cons (subLen (K := qn) hdl (by omega) : List.length ((data.drop (qn / 2)).take (qn - (qn / 2))) = qn - (qn / 2)) (by omega) (viewV (h_23.ok _ M1)) Sls.nil))) rfl rfl hbl_24
 have h_32 := ((((((h_25.up J1).up J1).up J11).up J11).up J11).up J11).up J11
 refine WL.call Tryz.call23 rfl rfl (c_oTagN ob mp (zB 32) df lr da dn dc u hdf la lc lx lg (by omega) (by omega) (some ⟨b_17, 0, none⟩) 2 2 [(.slice (slA qa 0 qc 1) (qn / 2) qc), (.slice (slA qa (qn / 2) qc 1) (qn - (qn / 2)) (qc - (qn / 2)))] [(data.drop 0).take (qn / 2), (data.drop (qn / 2)).take (qn - (qn / 2))] rfl key hk dm hm (by rw [halves2 hdl]; omega) (by omega) _ h_32) rfl ?_
 rintro _ w_33 ⟨rfl, h_34⟩
 refine qM (.tuple [(.agg ⟨(zB 32).map vu8⟩), (vi 2)].toArray) rfl rfl (qV rfl (R.extract rfl rfl) (qV rfl (R.extract rfl rfl) ?_))
 refine WL.storeA [] [(32, (zB 32).map vu8)] [(32, (zB 32).map vu8)] [] h_34 rfl rfl sizeOf29 Y9 (by decide) rfl rfl rfl rfl rfl rfl (sC (s8 lr) sN) (fun w_35 h_36 => ?_)
 refine qA (vi 2) rfl rfl ?_
 refine WL.nil (inb_n (thn_n (WP.seq (WP.seq (WP.reg ?_)))))
 refine qV rfl (R.loadA [] [(1, [(vi 2)]), (32, key.map vu8), (1, [(vi dm)]), (1, [(.slice qa qn qc)])] [] rfl isAgg39 sizeOf39 (h_36.ok _ M10) rfl rfl rfl rfl) ?_
 refine WL.call Tryz.call20 rfl rfl (c_rMayF 2 dm key qa qn qc hk hm _ ) rfl ?_
 rintro _ w_38 ⟨rfl, hc_37⟩
 have h_39 := h_36.same hc_37
 refine qV rfl (R.not (b := false) rfl) ?_
 refine WL.nil (thn_n ?_)
 refine WP.condT rfl ?_
 refine WP.seq (WP.reg ?_)
 refine qM (vi 2) rfl rfl (qV rfl (R.bin rfl rfl (bi_eql (r := true) (by decide))) (qM (.bool true) rfl rfl ?_))
 refine WL.want rfl rfl ?_
 refine qV rfl (R.loadA [] [(32, (zB 32).map vu8)] [] (cs := (zB 32).map vu8) rfl isAgg29 sizeOf29 (h_39.ok _ M9) rfl rfl rfl rfl) ?_
 refine WL.want rfl rfl ?_
 refine qV rfl (R.buildA (vs := []) (cs := (zB 32).map vu8) underlying29 sizeOf5 (zv typeInfo29 rfl) rfl rfl) ?_
 refine WL.want rfl rfl ?_
 refine qV rfl (R.eqA (xs := (zB 32).map vu8) (ys := (zB 32).map vu8) (r := true) rfl rfl eqGuardType29 kt29 (by decide) ag29 (Typ.u8s underlying29 ce29 underlying5 ce5 lr) (Typ.u8s underlying29 ce29 underlying5 ce5 lr) (eqT rfl)) (qV rfl (R.pickT (v := (.bool true)) rfl rfl) (qA (.bool true) rfl rfl ?_))
 refine WL.nil (thn_n (WP.ret (thn_r (inb_r (thn_r ?_)))))
 refine ret_of results8 (RV.tmp (v := (.bool true)) rfl RV.nil) ?_
 have h_63 := (((((((((((((((((((((((h_39.up J5).drop rfl).up J5).drop rfl).up J5).drop rfl).up J5).drop rfl).up J5).drop rfl).up J5).drop rfl).up J5).drop rfl).up J9).up J9).up J9).up J9).up J9).up J9).up J9).up J9).up J9).up J9
 exact ⟨_, _, _, _, _, _, rfl, h_63⟩

theorem c_one5t {w00 : World} {L : List Ent} (ob mp : Nat) (df : List UInt8) (da : Option Addr) (dn dc u : Nat) (hdf : df.length = 32 * dn) (la : Option Addr) (lc : Nat) (lx : List Value) (lg : Lg) (hu : u ≤ 500000) (hlg : lg.length ≤ 500000) (rb : Nat) (dr : Option Addr) (drc : Nat) (ra : Option Addr) (rc : Nat) (rx : List Value) (kd dm sn : Int) (key data : List UInt8) (qa : Option Addr) (qn qc : Nat) (hk : key.length = 32) (hdl : data.length = qn) (hqn : qn ≤ 100000) (hqc : qn ≤ qc) (h2 : 1 ≤ dm ∧ dm ≤ 16) (w : World) (h_0 : HP w00 w (Ent.blk ob .nw 66 [(1, [(.bool true)]), (32, (List.replicate 32 (0 : UInt8)).map vu8), (1, [(.slice da dn dc)]), (1, [(vi ((u : Nat) : Int))]), (1, [(.map (some mp))]), (1, [(.slice la lg.length lc)])] :: Ent.row la lg.length lc 47 67 lx :: Ent.obj mp .nw (.map (mArr lg) lg.length) :: Ent.pin (sblks lx) (fun w => Lgs w lx lg) :: Ent.view da (df.map vu8) :: Ent.blk rb .nw 33 [(1, [(.bool true)]), (32, (List.replicate 32 (0 : UInt8)).map vu8), (1, [(.slice dr dn drc)]), (1, [(vi ((u : Nat) : Int))]), (1, [(.slice ra lg.length rc)])] :: Ent.row ra lg.length rc 47 67 rx :: Ent.pin (sblks rx) (fun w => Lgs w rx lg) :: Ent.view dr (df.map vu8) :: Ent.view qa (data.map vu8) :: L)) :
  Cs Tryz.prog 8 [(.pointer (some ⟨ob, 0, none⟩)), (.pointer (some ⟨rb, 0, none⟩)), (.agg ⟨flat [(1, [(vi 5)]), (1, [(vi sn)]), (1, [(vi kd)]), (32, key.map vu8), (1, [(vi dm)]), (1, [(.slice qa qn qc)])]⟩)].toArray w (fun v w1 => ∃ la' lc' lx' ra' rc' rx', v = .bool true ∧ HP w00 w1 (Ent.blk ob .nw 66 [(1, [(.bool true)]), (32, (List.replicate 32 (0 : UInt8)).map vu8), (1, [(.slice da dn dc)]), (1, [(vi (((anU true u lg (3, List.replicate 32 (0 : UInt8), dm, data)) : Nat) : Int))]), (1, [(.map (some mp))]), (1, [(.slice la' ((anL true df dn u lg (3, List.replicate 32 (0 : UInt8), dm, data)).length) lc')])] :: Ent.row la' ((anL true df dn u lg (3, List.replicate 32 (0 : UInt8), dm, data)).length) lc' 47 67 lx' :: Ent.obj mp .nw (.map (mArr (anL true df dn u lg (3, List.replicate 32 (0 : UInt8), dm, data))) ((anL true df dn u lg (3, List.replicate 32 (0 : UInt8), dm, data)).length)) :: Ent.pin (sblks lx') (fun w => Lgs w lx' (anL true df dn u lg (3, List.replicate 32 (0 : UInt8), dm, data))) :: Ent.view da (df.map vu8) :: Ent.blk rb .nw 33 [(1, [(.bool true)]), (32, (List.replicate 32 (0 : UInt8)).map vu8), (1, [(.slice dr dn drc)]), (1, [(vi (((anU true u lg (3, List.replicate 32 (0 : UInt8), dm, data)) : Nat) : Int))]), (1, [(.slice ra' ((anL true df dn u lg (3, List.replicate 32 (0 : UInt8), dm, data)).length) rc')])] :: Ent.row ra' ((anL true df dn u lg (3, List.replicate 32 (0 : UInt8), dm, data)).length) rc' 47 67 rx' :: Ent.pin (sblks rx') (fun w => Lgs w rx' (anL true df dn u lg (3, List.replicate 32 (0 : UInt8), dm, data))) :: Ent.view dr (df.map vu8) :: Ent.view qa (data.map vu8) :: L)) := by
 refine Cs.of (n := 186) (args := [(pO ob 0), (pO rb 0), (.agg ⟨flat [(1, [(vi 5)]), (1, [(vi sn)]), (1, [(vi kd)]), (32, key.map vu8), (1, [(vi dm)]), (1, [(.slice qa qn qc)])]⟩)]) Tryz.func8 rfl rfl rfl ?_
 refine WP.seq (WP.reg ?_)
 refine WL.box (segs := [(1, [(vi 5)]), (1, [(vi sn)]), (1, [(vi kd)]), (32, key.map vu8), (1, [(vi dm)]), (1, [(.slice qa qn qc)])]) h_0 rfl rfl (sC sV (sC sV (sC sV (sC (s8 hk) (sC sV (sC sV sN)))))) rfl (fun b_1 w_2 h_3 => ?_)
 refine qA (.bool false) rfl rfl ?_
 refine WL.nil (thn_n (WP.seq (WP.reg ?_)))
 refine qV rfl (R.fieldAddr (off' := 2) rfl underlying41 rfl sizeOf39 rfl rfl) (qV rfl (R.loadA [(1, [(vi 5)]), (1, [(vi sn)])] [(1, [(vi kd)]), (32, key.map vu8), (1, [(vi dm)]), (1, [(.slice qa qn qc)])] [] rfl isAgg39 sizeOf39 (h_3.ok _ M0) rfl rfl rfl rfl) ?_)
 refine WL.alloc (segs := [(1, [(vi 0)]), (32, (zB 32).map vu8), (1, [(vi 0)]), (1, [(.slice none 0 0)])]) h_3 (zv typeInfo39 rfl) rfl (sC sV (sC (s8 lr) (sC sV (sC sV sN)))) rfl (fun b_4 w_5 h_6 => ?_)
 refine WL.storeA [] [(1, [(vi 0)]), (32, (zB 32).map vu8), (1, [(vi 0)]), (1, [(.slice none 0 0)])] [(1, [(vi kd)]), (32, key.map vu8), (1, [(vi dm)]), (1, [(.slice qa qn qc)])] [] h_6 rfl rfl sizeOf39 At.h (by decide) rfl rfl rfl rfl rfl rfl (sC sV (sC (s8 hk) (sC sV (sC sV sN)))) (fun w_7 h_8 => ?_)
 refine WL.nil (thn_n (WP.seq (WP.seq (WP.reg ?_))))
 refine qV rfl (R.fieldAddr (off' := 0) rfl underlying41 rfl sizeOf3 rfl rfl) (qV rfl (R.load1 rfl isAgg3 (h_8.ok _ M1) Sg.h) ?_)
 refine WL.nil (thn_n (WP.block (WP.seq (WP.reg ?_))))
 refine qV rfl (R.bin rfl rfl (bi_eql (r := false) (by decide))) (qA (.bool false) rfl rfl ?_)
 refine WL.nil (thn_n ?_)
 refine WP.condF rfl ?_
 refine WP.seq (WP.reg ?_)
 refine qV rfl (R.bin rfl rfl (bi_eql (r := false) (by decide))) (qA (.bool false) rfl rfl ?_)
 refine WL.nil (thn_n ?_)
 refine WP.condF rfl ?_
 refine WP.seq (WP.seq (WP.reg ?_))
 refine qV rfl (R.bin rfl rfl (bi_eql (r := false) (by decide))) (qA (.bool false) rfl rfl ?_)
 refine WL.nil (thn_n ?_)
 refine WP.condF rfl ?_
 refine WP.seq (WP.reg ?_)
 refine qV rfl (R.bin rfl rfl (bi_eql (r := false) (by decide))) (qA (.bool false) rfl rfl ?_)
 refine WL.nil (thn_n ?_)
 refine WP.condF rfl ?_
 refine WP.reg ?_
 refine qV rfl (R.bin rfl rfl (bi_eql (r := true) (by decide))) (qA (.bool true) rfl rfl ?_)
 refine WL.nil (thn_n ?_)
 refine WP.condT rfl ?_
 refine WP.seq (WP.reg ?_)
 refine qV rfl (R.fieldAddr (off' := 34) rfl underlying39 rfl sizeOf37 rfl rfl) (qV rfl (R.load1 rfl isAgg37 (h_8.ok _ M0) (Sg.t rfl (Sg.t rfl (Sg.t rfl Sg.h)))) (qV rfl (R.lenS (a := qa) (m := qn) rfl rfl underlying37) (qV rfl (R.bin rfl rfl (bi_quo (c := ((qn / 2 : Nat) : Int)) (by first | omega | exact ⟨Int.natCast_nonneg _, by omega⟩) (by omega) (by first | omega | rfl))) (qA (vn (qn / 2)) rfl rfl ?_))))
 refine WL.nil (thn_n (WP.seq ?_))
 refine WP.drawT (SL w00.heap.size [.blk b_4 .nw 39 [(1, [(vi kd)]), (32, key.map vu8), (1, [(vi dm)]), (1, [(.slice qa qn qc)])], .blk b_1 .nw 41 [(1, [(vi 5)]), (1, [(vi sn)]), (1, [(vi kd)]), (32, key.map vu8), (1, [(vi dm)]), (1, [(.slice qa qn qc)])], .blk ob .nw 66 [(1, [(.bool true)]), (32, (zB 32).map vu8), (1, [(.slice da dn dc)]), (1, [(vn u)]), (1, [(.map (some mp))]), (1, [(.slice la lg.length lc)])], .row la lg.length lc 47 67 lx, .obj mp .nw (.map (mArr lg) lg.length), .pin (sblks lx) (fun w => Lgs w lx lg), .view da (df.map vu8), .blk rb .nw 33 [(1, [(.bool true)]), (32, (zB 32).map vu8), (1, [(.slice dr dn drc)]), (1, [(vn u)]), (1, [(.slice ra lg.length rc)])], .row ra lg.length rc 47 67 rx, .pin (sblks rx) (fun w => Lgs w rx lg), .view dr (df.map vu8), .view qa (data.map vu8)]) (.q 0 (.q 1 (.q 2 (.q 3 (.q 4 (.q 5 (.q 6 (.q 7 (.q 8 (.q 9 .nil)))))))))) (by kernel_rfl) (by kernel_rfl) rfl (by kernel_rfl) (fun w_9 hc_11 => (SL.cons ((h_8.same hc_11).ok _ M0) (SL.cons ((h_8.same hc_11).ok _ M1) (SL.cons ((h_8.same hc_11).ok _ M2) (SL.cons ((h_8.same hc_11).ok _ M3) (SL.cons ((h_8.same hc_11).ok _ M4) (SL.cons ((h_8.same hc_11).ok _ M5) (SL.cons ((h_8.same hc_11).ok _ M6) (SL.cons ((h_8.same hc_11).ok _ M7) (SL.cons ((h_8.same hc_11).ok _ M8) (SL.cons ((h_8.same hc_11).ok _ M9) (SL.cons ((h_8.same hc_11).ok _ M10) (SL.cons ((h_8.same hc_11).ok _ M11) (SL.nil _ _)))))))))))))) (fun w_9 hc_11 => ?_)
 have h_10 := h_8.same hc_11
 refine qT rfl rfl (fun wq hS => R.fieldAddr (off' := 34) rfl underlying39 rfl sizeOf37 rfl rfl) ?_
 refine qT rfl rfl (fun wq hS => R.load1 rfl isAgg37 (hS _ M0) (Sg.t rfl (Sg.t rfl (Sg.t rfl Sg.h)))) ?_
 refine qT rfl rfl (fun wq hS => R.move (v := (vn (qn / 2))) rfl) ?_
 refine qT rfl rfl (fun wq hS => R.sliceS (a := qa) (len := qn) (l := 0) (h := qn / 2) rfl EvB.dflt (EvB.it (l := qn / 2) rfl rfl) (by omega) (by omega) underlying37 sizeOf5) ?_
 refine qT rfl rfl (fun wq hS => R.fieldAddr (off' := 34) rfl underlying39 rfl sizeOf37 rfl rfl) ?_
 refine qT rfl rfl (fun wq hS => R.load1 rfl isAgg37 (hS _ M0) (Sg.t rfl (Sg.t rfl (Sg.t rfl Sg.h)))) ?_
 refine qT rfl rfl (fun wq hS => R.move (v := (vn (qn / 2))) rfl) ?_
 refine qT rfl rfl (fun wq hS => R.sliceS (a := qa) (len := qn) (l := qn / 2) (h := qn) rfl (EvB.it (l := qn / 2) rfl rfl) EvB.dflt (by omega) (by omega) underlying37 sizeOf5) ?_
 refine qT rfl rfl (fun wq hS => R.assign (v := (.slice (slA qa 0 qc 1) (qn / 2) qc)) rfl) ?_
 refine qT rfl rfl (fun wq hS => R.assign (v := (.slice (slA qa (qn / 2) qc 1) (qn - (qn / 2)) (qc - (qn / 2)))) rfl) ?_
 refine WT.nil (thn_n (WP.seq (WP.reg ?_)))
 refine WL.alloc (segs := [(32, (zB 32).map vu8)]) h_10 (zv typeInfo29 rfl) rfl (sC (s8 lr) sN) rfl (fun b_12 w_13 h_14 => ?_)
 refine WL.nil (thn_n (WP.seq (WP.reg ?_)))
 refine qA (vi 0) rfl rfl ?_
 refine WL.nil (thn_n (WP.seq (WP.seq (WP.reg ?_))))
 refine qV rfl (R.fieldAddr (off' := 0) rfl underlying41 rfl sizeOf3 rfl rfl) (qV rfl (R.load1 rfl isAgg3 (h_14.ok _ M2) Sg.h) ?_)
 refine WL.nil (thn_n (WP.block (WP.seq (WP.reg ?_))))
 refine qV rfl (R.bin rfl rfl (bi_eql (r := false) (by decide))) (qA (.bool false) rfl rfl ?_)
 refine WL.nil (thn_n ?_)
 refine WP.condF rfl ?_
 refine WP.seq (WP.reg ?_)
 refine qV rfl (R.bin rfl rfl (bi_eql (r := false) (by decide))) (qA (.bool false) rfl rfl ?_)
 refine WL.nil (thn_n ?_)
 refine WP.condF rfl ?_
 refine WP.seq ?_
 refine WP.drawZ 7 (SL w00.heap.size [.blk b_12 .nw 29 [(32, (zB 32).map vu8)], .blk b_1 .nw 41 [(1, [(vi 5)]), (1, [(vi sn)]), (1, [(vi kd)]), (32, key.map vu8), (1, [(vi dm)]), (1, [(.slice qa qn qc)])], .blk ob .nw 66 [(1, [(.bool true)]), (32, (zB 32).map vu8), (1, [(.slice da dn dc)]), (1, [(vn u)]), (1, [(.map (some mp))]), (1, [(.slice la lg.length lc)])], .row la lg.length lc 47 67 lx, .obj mp .nw (.map (mArr lg) lg.length), .pin (sblks lx) (fun w => Lgs w lx lg), .view da (df.map vu8), .blk rb .nw 33 [(1, [(.bool true)]), (32, (zB 32).map vu8), (1, [(.slice dr dn drc)]), (1, [(vn u)]), (1, [(.slice ra lg.length rc)])], .row ra lg.length rc 47 67 rx, .pin (sblks rx) (fun w => Lgs w rx lg), .view dr (df.map vu8), .view qa (data.map vu8)]) (.q 0 (.q 1 (.q 2 (.q 3 (.q 4 (.s 5 (.q 6 (.s 7 .nil)))))))) (by kernel_rfl) (by kernel_rfl) rfl (by kernel_rfl) (fun w_15 hc_17 => (SL.cons ((h_14.same hc_17).ok _ M0) (SL.cons ((h_14.same hc_17).ok _ M2) (SL.cons ((h_14.same hc_17).ok _ M3) (SL.cons ((h_14.same hc_17).ok _ M4) (SL.cons ((h_14.same hc_17).ok _ M5) (SL.cons ((h_14.same hc_17).ok _ M6) (SL.cons ((h_14.same hc_17).ok _ M7) (SL.cons ((h_14.same hc_17).ok _ M8) (SL.cons ((h_14.same hc_17).ok _ M9) (SL.cons ((h_14.same hc_17).ok _ M10) (SL.cons ((h_14.same hc_17).ok _ M11) (SL.cons ((h_14.same hc_17).ok _ M12) (SL.nil _ _)))))))))))))) (fun w_15 hc_17 => ?_)
 have h_16 := h_14.same hc_17
 refine ZT.q rfl (Wn.no rfl) rfl rfl (fun wq hS => R.move (v := (pO rb 0)) rfl) ?_
 refine ZT.q rfl (Wn.no rfl) rfl rfl (fun wq hS => R.nilCheck rfl) ?_
 refine ZT.q rfl (Wn.no rfl) rfl rfl (fun wq hS => R.fieldAddr (off' := 1) rfl underlying33 rfl sizeOf29 rfl rfl) ?_
 refine ZT.q rfl (Wn.no rfl) rfl rfl (fun wq hS => R.loadA [(1, [(.bool true)])] [(32, (zB 32).map vu8)] [(1, [(.slice dr dn drc)]), (1, [(vn u)]), (1, [(.slice ra lg.length rc)])] (cs := (zB 32).map vu8) rfl isAgg29 sizeOf29 (hS _ M7) rfl rfl rfl rfl) ?_
 refine ZT.q rfl (Wn.no rfl) rfl rfl (fun wq hS => R.fieldAddr (off' := 0) rfl underlying39 rfl sizeOf35 rfl rfl) ?_
 refine ZT.s ?_
 refine OpZ.one rfl (Wn.no rfl) ?_
 refine WL.store1 h_16 rfl rfl sizeOf35 rfl Y1 (by decide) Sg.h (fun w_18 h_19 => ?_)
 refine WL.nil ?_
 refine ⟨(N0_2_3_4_5_6_7_8_9_10_11_12 h_19.ok), ?_⟩
 refine ZT.q rfl (Wn.no rfl) rfl rfl (fun wq hS => R.fieldAddr (off' := 1) rfl underlying39 rfl sizeOf29 rfl rfl) ?_
 refine ZT.s ?_
 refine OpZ.last rfl (Wn.no rfl) ?_
 refine WL.storeA [(1, [(vi 3)])] [(32, key.map vu8)] [(32, (zB 32).map vu8)] [(1, [(vi dm)]), (1, [(.slice qa qn qc)])] h_19 rfl rfl sizeOf29 Y1 (by decide) rfl rfl rfl rfl rfl rfl (sC (s8 lr) sN) (fun w_20 h_21 => ?_)
 refine WL.nil (ZT.nil (thn_n (WP.reg ?_)))
 refine qM (pO ob 0) rfl rfl (qV rfl (R.fieldAddr (off' := 33) rfl underlying39 rfl sizeOf36 rfl rfl) (qV rfl (R.load1 rfl isAgg36 (h_21.ok _ M1) (Sg.t rfl (Sg.t rfl Sg.h))) (qM (.slice (slA qa 0 qc 1) (qn / 2) qc) rfl rfl (qM (.slice (slA qa (qn / 2) qc 1) (qn - (qn / 2)) (qc - (qn / 2))) rfl rfl ?_))))
 refine WL.buildSl (vs := [(0, (.slice (slA qa 0 qc 1) (qn / 2) qc)), (1, (.slice (slA qa (qn / 2) qc 1) (qn - (qn / 2)) (qc - (qn / 2))))]) (cs := [(.slice (slA qa 0 qc 1) (qn / 2) qc), (.slice (slA qa (qn / 2) qc 1) (qn - (qn / 2)) (qc - (qn / 2)))]) h_21 underlying82 sizeOf37 (zv typeInfo37 rfl) rfl rfl (by kernel_rfl) rfl (by simp [Value.oneCell']) rfl rfl (fun b_22 w_23 h_24 => ?_)
 have h_25 := h_24.within (e' := .view (slA qa 0 qc 1) (((data.drop 0).take (qn / 2)).map vu8)) M13 rfl (View.arg (View.slM (l := 0) (m := qc) (k := qn / 2) (viewV (h_24.ok _ M13)) (by omega))) rfl rfl sub_blk2
 have h_26 := h_25.within (e' := .view (slA qa (qn / 2) qc 1) (((data.drop (qn / 2)).take (qn - (qn / 2))).map vu8)) M14 rfl (View.arg (View.slM (l := qn / 2) (m := qc) (k := qn - (qn / 2)) (viewV (h_25.ok _ M14)) (by omega))) rfl rfl sub_blk2
 have h_27 := h_26.up J2
 have h_28 := HP_blkView h_27
 have hbl_29 : ∀ b ∈ sblks [(.slice (slA qa 0 qc 1) (qn / 2) qc), (.slice (slA qa (qn / 2) qc 1) (qn - (qn / 2)) (qc - (qn / 2)))], ∃ e ∈ ((Ent.view (some ⟨b_22, 0, none⟩) [(.slice (slA qa 0 qc 1) (qn / 2) qc), (.slice (slA qa (qn / 2) qc 1) (qn - (qn / 2)) (qc - (qn / 2)))] :: Ent.view (slA qa (qn / 2) qc 1) (((data.drop (qn / 2)).take (qn - (qn / 2))).map vu8) :: Ent.view (slA qa 0 qc 1) (((data.drop 0).take (qn / 2)).map vu8) :: Ent.blk b_12 .nw 29 [(32, (List.replicate 32 (0 : UInt8)).map vu8)] :: Ent.blk b_4 .nw 39 [(1, [(vi 3)]), (32, (List.replicate 32 (0 : UInt8)).map vu8), (1, [(vi dm)]), (1, [(.slice qa qn qc)])] :: Ent.blk b_1 .nw 41 [(1, [(vi 5)]), (1, [(vi sn)]), (1, [(vi kd)]), (32, key.map vu8), (1, [(vi dm)]), (1, [(.slice qa qn qc)])] :: Ent.blk ob .nw 66 [(1, [(.bool true)]), (32, (List.replicate 32 (0 : UInt8)).map vu8), (1, [(.slice da dn dc)]), (1, [(vi ((u : Nat) : Int))]), (1, [(.map (some mp))]), (1, [(.slice la lg.length lc)])] :: Ent.row la lg.length lc 47 67 lx :: Ent.obj mp .nw (.map (mArr lg) lg.length) :: Ent.pin (sblks lx) (fun w => Lgs w lx lg) :: Ent.view da (df.map vu8) :: Ent.blk rb .nw 33 [(1, [(.bool true)]), (32, (List.replicate 32 (0 : UInt8)).map vu8), (1, [(.slice dr dn drc)]), (1, [(vi ((u : Nat) : Int))]), (1, [(.slice ra lg.length rc)])] :: Ent.row ra lg.length rc 47 67 rx :: Ent.pin (sblks rx) (fun w => Lgs w rx lg) :: Ent.view dr (df.map vu8) :: Ent.view qa (data.map vu8) :: L) : List Ent), e.mut = false ∧ b ∈ e.blocks := by
  intro b hb
  rcases List.mem_append.1 hb with hb | hb
  ·exact ⟨_, M2, rfl, sblk_in_view (subLen (K := qn) hdl (by omega) : List.length ((data.drop 0).take (qn / 2)) = qn / 2) b hb⟩
  rcases List.mem_append.1 hb with hb | hb
  ·exact ⟨_, M1, rfl, sblk_in_view (subLen (K := qn) hdl (by omega) : List.length ((data.drop (qn / 2)).take (qn - (qn / 2))) = qn - (qn / 2)) b hb⟩
  cases hb
 have h_30 := HP_within (e' := .pin (sblks [(.slice (slA qa 0 qc 1) (qn / 2) qc), (.slice (slA qa (qn / 2) qc 1) (qn - (qn / 2)) (qc - (qn / 2)))]) (fun w => Sls w [(.slice (slA qa 0 qc 1) (qn / 2) qc), (.slice (slA qa (qn / 2) qc 1) (qn - (qn / 2)) (qc - (qn / 2)))] [(data.drop 0).take (qn / 2), (data.drop (qn / 2)).take (qn - (qn / 2))])) h_28 (Sls.pin (Sls.cons (subLen (K := qn) hdl (by omega) : List.length ((data.drop 0).take (qn / 2)) = qn / 2) (by omega) (viewV (h_28.ok _ M2)) (Sls.cons (subLen (K := qn) hdl (by omega) : List.length ((data.drop (qn / 2)).take (qn - (qn / 2))) = qn - (qn / 2)) (by omega) (viewV (h_28.ok _ M1)) Sls.nil))) rfl rfl hbl_29
 have h_37 := ((((((h_30.up J1).up J1).up J11).up J11).up J11).up J11).up J11
 have h32_w_38 := Lgs.ok32 (h_37.ok _ M3).1
 refine WL.call Tryz.call24 rfl rfl (c_oKeyI ob mp (zB 32) df lr da dn dc u hdf la lc lx lg (by omega) (by omega) (some ⟨b_22, 0, none⟩) 2 2 [(.slice (slA qa 0 qc 1) (qn / 2) qc), (.slice (slA qa (qn / 2) qc 1) (qn - (qn / 2)) (qc - (qn / 2)))] [(data.drop 0).take (qn / 2), (data.drop (qn / 2)).take (qn - (qn / 2))] rfl dm h2 (by rw [halves2 hdl]; omega) (by omega) _ h_37) rfl ?_
 rintro _ w_38 ⟨la_40, lc_41, lx_42, rfl, h_39⟩
 rw [halves2 hdl] at h_39 ⊢
 refine qM (.tuple [(.agg ⟨(anD true df dn u lg (3, (zB 32), dm, data)).map vu8⟩), (vi 0)].toArray) rfl rfl (qV rfl (R.extract rfl rfl) (qV rfl (R.extract rfl rfl) ?_))
 refine WL.storeA [] [(32, (zB 32).map vu8)] [(32, (anD true df dn u lg (3, (zB 32), dm, data)).map vu8)] [] h_39 rfl rfl sizeOf29 Y9 (by decide) rfl rfl rfl rfl rfl rfl (sC (s8 (anD_len hdf h32_w_38)) sN) (fun w_43 h_44 => ?_)
 refine qA (vi 0) rfl rfl ?_
 refine WL.nil (inb_n (thn_n (WP.seq (WP.seq (WP.reg ?_)))))
 refine qV rfl (R.loadA [] [(1, [(vi 3)]), (32, (zB 32).map vu8), (1, [(vi dm)]), (1, [(.slice qa qn qc)])] [] rfl isAgg39 sizeOf39 (h_44.ok _ M10) rfl rfl rfl rfl) ?_
 refine WL.call Tryz.call20 rfl rfl (c_rMayT 3 dm (zB 32) qa qn qc lr (by decide) h2 (fun h => absurd h (by decide)) _ ) rfl ?_
 rintro _ w_46 ⟨rfl, hc_45⟩
 have h_47 := h_44.same hc_45
 refine qV rfl (R.not (b := true) rfl) ?_
 refine WL.nil (thn_n ?_)
 refine WP.condF rfl ?_
 refine WP.skip (thn_n (WP.seq ?_))
 refine WP.drawT (SL w00.heap.size [.blk ob .nw 66 [(1, [(.bool true)]), (32, (zB 32).map vu8), (1, [(.slice da dn dc)]), (1, [(vn (anU true u lg (3, (zB 32), dm, data)))]), (1, [(.map (some mp))]), (1, [(.slice la_40 ((anL true df dn u lg (3, (zB 32), dm, data)).length) lc_41)])], .row la_40 ((anL true df dn u lg (3, (zB 32), dm, data)).length) lc_41 47 67 lx_42, .obj mp .nw (.map (mArr (anL true df dn u lg (3, (zB 32), dm, data))) ((anL true df dn u lg (3, (zB 32), dm, data)).length)), .pin (sblks lx_42) (fun w => Lgs w lx_42 (anL true df dn u lg (3, (zB 32), dm, data))), .view da (df.map vu8), .pin (sblks [(.slice (slA qa 0 qc 1) (qn / 2) qc), (.slice (slA qa (qn / 2) qc 1) (qn - (qn / 2)) (qc - (qn / 2)))]) (fun w => Sls w [(.slice (slA qa 0 qc 1) (qn / 2) qc), (.slice (slA qa (qn / 2) qc 1) (qn - (qn / 2)) (qc - (qn / 2)))] [(data.drop 0).take (qn / 2), (data.drop (qn / 2)).take (qn - (qn / 2))]), .view (some ⟨b_22, 0, none⟩) [(.slice (slA qa 0 qc 1) (qn / 2) qc), (.slice (slA qa (qn / 2) qc 1) (qn - (qn / 2)) (qc - (qn / 2)))], .view (slA qa (qn / 2) qc 1) (((data.drop (qn / 2)).take (qn - (qn / 2))).map vu8), .view (slA qa 0 qc 1) (((data.drop 0).take (qn / 2)).map vu8), .blk b_12 .nw 29 [(32, (anD true df dn u lg (3, (zB 32), dm, data)).map vu8)], .blk b_4 .nw 39 [(1, [(vi 3)]), (32, (zB 32).map vu8), (1, [(vi dm)]), (1, [(.slice qa qn qc)])], .blk b_1 .nw 41 [(1, [(vi 5)]), (1, [(vi sn)]), (1, [(vi kd)]), (32, key.map vu8), (1, [(vi dm)]), (1, [(.slice qa qn qc)])], .view qa (data.map vu8)]) (.q 0 (.q 1 (.q 2 (.q 3 (.q 4 (.q 5 (.s 6 (.q 7 (.q 8 (.q 9 .nil)))))))))) (by kernel_rfl) (by kernel_rfl) rfl (by kernel_rfl) (fun w_48 hc_50 => (SL.cons ((h_47.same hc_50).ok _ M0) (SL.cons ((h_47.same hc_50).ok _ M1) (SL.cons ((h_47.same hc_50).ok _ M2) (SL.cons ((h_47.same hc_50).ok _ M3) (SL.cons ((h_47.same hc_50).ok _ M4) (SL.cons ((h_47.same hc_50).ok _ M5) (SL.cons ((h_47.same hc_50).ok _ M6) (SL.cons ((h_47.same hc_50).ok _ M7) (SL.cons ((h_47.same hc_50).ok _ M8) (SL.cons ((h_47.same hc_50).ok _ M9) (SL.cons ((h_47.same hc_50).ok _ M10) (SL.cons ((h_47.same hc_50).ok _ M11) (SL.cons ((h_47.same hc_50).ok _ M16) (SL.nil _ _))))))))))))))) (fun w_48 hc_50 => ?_)
 have h_49 := h_47.same hc_50
 refine qT rfl rfl (fun wq hS => R.move (v := (vi 0)) rfl) ?_
 refine qT rfl rfl (fun wq hS => R.bin rfl rfl (bi_eql (r := true) (by decide))) ?_
 refine qT rfl rfl (fun wq hS => R.move (v := (.bool true)) rfl) ?_
 refine WT.q rfl (Wn.yes rfl rfl rfl) rfl rfl (fun wq hS => R.loadA [] [(32, (anD true df dn u lg (3, (zB 32), dm, data)).map vu8)] [] (cs := (anD true df dn u lg (3, (zB 32), dm, data)).map vu8) rfl isAgg29 sizeOf29 (hS _ M9) rfl rfl rfl rfl) ?_
 refine WT.q rfl (Wn.yes rfl rfl rfl) rfl rfl (fun wq hS => R.move (v := (pO rb 0)) rfl) ?_
 refine WT.q rfl (Wn.yes rfl rfl rfl) rfl rfl (fun wq hS => R.loadA [] [(1, [(vi 3)]), (32, (zB 32).map vu8), (1, [(vi dm)]), (1, [(.slice qa qn qc)])] [] rfl isAgg39 sizeOf39 (hS _ M10) rfl rfl rfl rfl) ?_
 refine WT.s ?_
 refine Op1.one rfl (Wn.yes rfl rfl rfl) ?_
 have h_55 := ((((h_49.up J16).up J16).up J16).up J16).up J16
 have h32_w_59 := (Lgs.ok32 (h_55.ok _ M2).1)
 refine WL.call Tryz.call21 rfl rfl (c_rAskI rb (zB 32) df lr dr dn drc u hdf ra rc rx lg (by omega) (by omega) 3 dm (zB 32) data qa qn qc ⟨lr, by show (1 : Int) ≤ 3 ∧ (3 : Int) ≤ 4; omega, by show (1 : Int) ≤ dm ∧ (dm : Int) ≤ 16; omega, by show List.length data ≤ 1000000000; first | decide | (simp only [List.length_append, leN_len]; omega) | omega⟩ hdl  _ h_55) rfl ?_
 rintro _ w_59 ⟨la_56, lc_57, lx_58, rfl, h_60⟩
 refine WL.nil ?_
 refine ⟨(N5_6_7_8_9_10_11_12_13_14_15_16_4 h_60.ok), ?_⟩
 refine WT.q rfl (Wn.yes rfl rfl rfl) rfl rfl (fun wq hS => R.eqA (xs := (anD true df dn u lg (3, (zB 32), dm, data)).map vu8) (ys := (anD true df dn u lg (3, List.replicate 32 (0 : UInt8), dm, data)).map vu8) (r := true) rfl rfl eqGuardType29 kt29 (by decide) ag29 (Typ.u8s underlying29 ce29 underlying5 ce5 (anD_len hdf h32_w_38)) (Typ.u8s underlying29 ce29 underlying5 ce5 (anD_len hdf h32_w_59)) (eqT rfl)) ?_
 refine qT rfl rfl (fun wq hS => R.pickT (v := (.bool true)) rfl rfl) ?_
 refine qT rfl rfl (fun wq hS => R.assign (v := (.bool true)) rfl) ?_
 refine WT.nil (thn_n (WP.ret (inb_r (thn_r ?_))))
 refine ret_of results8 (RV.tmp (v := (.bool true)) rfl RV.nil) ?_
 have h_84 := (((((((((((((((((((((((h_60.up J10).drop rfl).up J10).drop rfl).up J10).drop rfl).up J10).drop rfl).up J10).drop rfl).up J10).drop rfl).up J10).drop rfl).up J4).up J4).up J4).up J4).up J4).up J9).up J9).up J9).up J9).up J9
 exact ⟨_, _, _, _, _, _, rfl, h_84⟩

theorem c_one5n {w00 : World} {L : List Ent} (ob mp : Nat) (df : List UInt8) (da : Option Addr) (dn dc u : Nat) (hdf : df.length = 32 * dn) (la : Option Addr) (lc : Nat) (lx : List Value) (lg : Lg) (hu : u ≤ 500000) (hlg : lg.length ≤ 500000) (rb : Nat) (dr : Option Addr) (drc : Nat) (ra : Option Addr) (rc : Nat) (rx : List Value) (kd dm sn : Int) (key data : List UInt8) (qa : Option Addr) (qn qc : Nat) (hk : key.length = 32) (hdl : data.length = qn) (hqn : qn ≤ 100000) (hqc : qn ≤ qc) (hm : mayB 3 dm (List.replicate 32 (0 : UInt8)) = false) (w : World) (h_0 : HP w00 w (Ent.blk ob .nw 66 [(1, [(.bool true)]), (32, (List.replicate 32 (0 : UInt8)).map vu8), (1, [(.slice da dn dc)]), (1, [(vi ((u : Nat) : Int))]), (1, [(.map (some mp))]), (1, [(.slice la lg.length lc)])] :: Ent.row la lg.length lc 47 67 lx :: Ent.obj mp .nw (.map (mArr lg) lg.length) :: Ent.pin (sblks lx) (fun w => Lgs w lx lg) :: Ent.view da (df.map vu8) :: Ent.blk rb .nw 33 [(1, [(.bool true)]), (32, (List.replicate 32 (0 : UInt8)).map vu8), (1, [(.slice dr dn drc)]), (1, [(vi ((u : Nat) : Int))]), (1, [(.slice ra lg.length rc)])] :: Ent.row ra lg.length rc 47 67 rx :: Ent.pin (sblks rx) (fun w => Lgs w rx lg) :: Ent.view dr (df.map vu8) :: Ent.view qa (data.map vu8) :: L)) :
  Cs Tryz.prog 8 [(.pointer (some ⟨ob, 0, none⟩)), (.pointer (some ⟨rb, 0, none⟩)), (.agg ⟨flat [(1, [(vi 5)]), (1, [(vi sn)]), (1, [(vi kd)]), (32, key.map vu8), (1, [(vi dm)]), (1, [(.slice qa qn qc)])]⟩)].toArray w (fun v w1 => ∃ la' lc' lx' ra' rc' rx', v = .bool true ∧ HP w00 w1 (Ent.blk ob .nw 66 [(1, [(.bool true)]), (32, (List.replicate 32 (0 : UInt8)).map vu8), (1, [(.slice da dn dc)]), (1, [(vi ((u : Nat) : Int))]), (1, [(.map (some mp))]), (1, [(.slice la' lg.length lc')])] :: Ent.row la' lg.length lc' 47 67 lx' :: Ent.obj mp .nw (.map (mArr lg) lg.length) :: Ent.pin (sblks lx') (fun w => Lgs w lx' lg) :: Ent.view da (df.map vu8) :: Ent.blk rb .nw 33 [(1, [(.bool true)]), (32, (List.replicate 32 (0 : UInt8)).map vu8), (1, [(.slice dr dn drc)]), (1, [(vi ((u : Nat) : Int))]), (1, [(.slice ra' lg.length rc')])] :: Ent.row ra' lg.length rc' 47 67 rx' :: Ent.pin (sblks rx') (fun w => Lgs w rx' lg) :: Ent.view dr (df.map vu8) :: Ent.view qa (data.map vu8) :: L)) := by
 refine Cs.of (n := 186) (args := [(pO ob 0), (pO rb 0), (.agg ⟨flat [(1, [(vi 5)]), (1, [(vi sn)]), (1, [(vi kd)]), (32, key.map vu8), (1, [(vi dm)]), (1, [(.slice qa qn qc)])]⟩)]) Tryz.func8 rfl rfl rfl ?_
 refine WP.seq (WP.reg ?_)
 refine WL.box (segs := [(1, [(vi 5)]), (1, [(vi sn)]), (1, [(vi kd)]), (32, key.map vu8), (1, [(vi dm)]), (1, [(.slice qa qn qc)])]) h_0 rfl rfl (sC sV (sC sV (sC sV (sC (s8 hk) (sC sV (sC sV sN)))))) rfl (fun b_1 w_2 h_3 => ?_)
 refine qA (.bool false) rfl rfl ?_
 refine WL.nil (thn_n (WP.seq (WP.reg ?_)))
 refine qV rfl (R.fieldAddr (off' := 2) rfl underlying41 rfl sizeOf39 rfl rfl) (qV rfl (R.loadA [(1, [(vi 5)]), (1, [(vi sn)])] [(1, [(vi kd)]), (32, key.map vu8), (1, [(vi dm)]), (1, [(.slice qa qn qc)])] [] rfl isAgg39 sizeOf39 (h_3.ok _ M0) rfl rfl rfl rfl) ?_)
 refine WL.alloc (segs := [(1, [(vi 0)]), (32, (zB 32).map vu8), (1, [(vi 0)]), (1, [(.slice none 0 0)])]) h_3 (zv typeInfo39 rfl) rfl (sC sV (sC (s8 lr) (sC sV (sC sV sN)))) rfl (fun b_4 w_5 h_6 => ?_)
 refine WL.storeA [] [(1, [(vi 0)]), (32, (zB 32).map vu8), (1, [(vi 0)]), (1, [(.slice none 0 0)])] [(1, [(vi kd)]), (32, key.map vu8), (1, [(vi dm)]), (1, [(.slice qa qn qc)])] [] h_6 rfl rfl sizeOf39 At.h (by decide) rfl rfl rfl rfl rfl rfl (sC sV (sC (s8 hk) (sC sV (sC sV sN)))) (fun w_7 h_8 => ?_)
 refine WL.nil (thn_n (WP.seq (WP.seq (WP.reg ?_))))
 refine qV rfl (R.fieldAddr (off' := 0) rfl underlying41 rfl sizeOf3 rfl rfl) (qV rfl (R.load1 rfl isAgg3 (h_8.ok _ M1) Sg.h) ?_)
 refine WL.nil (thn_n (WP.block (WP.seq (WP.reg ?_))))
 refine qV rfl (R.bin rfl rfl (bi_eql (r := false) (by decide))) (qA (.bool false) rfl rfl ?_)
 refine WL.nil (thn_n ?_)
 refine WP.condF rfl ?_
 refine WP.seq (WP.reg ?_)
 refine qV rfl (R.bin rfl rfl (bi_eql (r := false) (by decide))) (qA (.bool false) rfl rfl ?_)
 refine WL.nil (thn_n ?_)
 refine WP.condF rfl ?_
 refine WP.seq (WP.seq (WP.reg ?_))
 refine qV rfl (R.bin rfl rfl (bi_eql (r := false) (by decide))) (qA (.bool false) rfl rfl ?_)
 refine WL.nil (thn_n ?_)
 refine WP.condF rfl ?_
 refine WP.seq (WP.reg ?_)
 refine qV rfl (R.bin rfl rfl (bi_eql (r := false) (by decide))) (qA (.bool false) rfl rfl ?_)
 refine WL.nil (thn_n ?_)
 refine WP.condF rfl ?_
 refine WP.reg ?_
 refine qV rfl (R.bin rfl rfl (bi_eql (r := true) (by decide))) (qA (.bool true) rfl rfl ?_)
 refine WL.nil (thn_n ?_)
 refine WP.condT rfl ?_
 refine WP.seq (WP.reg ?_)
 refine qV rfl (R.fieldAddr (off' := 34) rfl underlying39 rfl sizeOf37 rfl rfl) (qV rfl (R.load1 rfl isAgg37 (h_8.ok _ M0) (Sg.t rfl (Sg.t rfl (Sg.t rfl Sg.h)))) (qV rfl (R.lenS (a := qa) (m := qn) rfl rfl underlying37) (qV rfl (R.bin rfl rfl (bi_quo (c := ((qn / 2 : Nat) : Int)) (by first | omega | exact ⟨Int.natCast_nonneg _, by omega⟩) (by omega) (by first | omega | rfl))) (qA (vn (qn / 2)) rfl rfl ?_))))
 refine WL.nil (thn_n (WP.seq ?_))
 refine WP.drawT (SL w00.heap.size [.blk b_4 .nw 39 [(1, [(vi kd)]), (32, key.map vu8), (1, [(vi dm)]), (1, [(.slice qa qn qc)])], .blk b_1 .nw 41 [(1, [(vi 5)]), (1, [(vi sn)]), (1, [(vi kd)]), (32, key.map vu8), (1, [(vi dm)]), (1, [(.slice qa qn qc)])], .blk ob .nw 66 [(1, [(.bool true)]), (32, (zB 32).map vu8), (1, [(.slice da dn dc)]), (1, [(vn u)]), (1, [(.map (some mp))]), (1, [(.slice la lg.length lc)])], .row la lg.length lc 47 67 lx, .obj mp .nw (.map (mArr lg) lg.length), .pin (sblks lx) (fun w => Lgs w lx lg), .view da (df.map vu8), .blk rb .nw 33 [(1, [(.bool true)]), (32, (zB 32).map vu8), (1, [(.slice dr dn drc)]), (1, [(vn u)]), (1, [(.slice ra lg.length rc)])], .row ra lg.length rc 47 67 rx, .pin (sblks rx) (fun w => Lgs w rx lg), .view dr (df.map vu8), .view qa (data.map vu8)]) (.q 0 (.q 1 (.q 2 (.q 3 (.q 4 (.q 5 (.q 6 (.q 7 (.q 8 (.q 9 .nil)))))))))) (by kernel_rfl) (by kernel_rfl) rfl (by kernel_rfl) (fun w_9 hc_11 => (SL.cons ((h_8.same hc_11).ok _ M0) (SL.cons ((h_8.same hc_11).ok _ M1) (SL.cons ((h_8.same hc_11).ok _ M2) (SL.cons ((h_8.same hc_11).ok _ M3) (SL.cons ((h_8.same hc_11).ok _ M4) (SL.cons ((h_8.same hc_11).ok _ M5) (SL.cons ((h_8.same hc_11).ok _ M6) (SL.cons ((h_8.same hc_11).ok _ M7) (SL.cons ((h_8.same hc_11).ok _ M8) (SL.cons ((h_8.same hc_11).ok _ M9) (SL.cons ((h_8.same hc_11).ok _ M10) (SL.cons ((h_8.same hc_11).ok _ M11) (SL.nil _ _)))))))))))))) (fun w_9 hc_11 => ?_)
 have h_10 := h_8.same hc_11
 refine qT rfl rfl (fun wq hS => R.fieldAddr (off' := 34) rfl underlying39 rfl sizeOf37 rfl rfl) ?_
 refine qT rfl rfl (fun wq hS => R.load1 rfl isAgg37 (hS _ M0) (Sg.t rfl (Sg.t rfl (Sg.t rfl Sg.h)))) ?_
 refine qT rfl rfl (fun wq hS => R.move (v := (vn (qn / 2))) rfl) ?_
 refine qT rfl rfl (fun wq hS => R.sliceS (a := qa) (len := qn) (l := 0) (h := qn / 2) rfl EvB.dflt (EvB.it (l := qn / 2) rfl rfl) (by omega) (by omega) underlying37 sizeOf5) ?_
 refine qT rfl rfl (fun wq hS => R.fieldAddr (off' := 34) rfl underlying39 rfl sizeOf37 rfl rfl) ?_
 refine qT rfl rfl (fun wq hS => R.load1 rfl isAgg37 (hS _ M0) (Sg.t rfl (Sg.t rfl (Sg.t rfl Sg.h)))) ?_
 refine qT rfl rfl (fun wq hS => R.move (v := (vn (qn / 2))) rfl) ?_
 refine qT rfl rfl (fun wq hS => R.sliceS (a := qa) (len := qn) (l := qn / 2) (h := qn) rfl (EvB.it (l := qn / 2) rfl rfl) EvB.dflt (by omega) (by omega) underlying37 sizeOf5) ?_
 refine qT rfl rfl (fun wq hS => R.assign (v := (.slice (slA qa 0 qc 1) (qn / 2) qc)) rfl) ?_
 refine qT rfl rfl (fun wq hS => R.assign (v := (.slice (slA qa (qn / 2) qc 1) (qn - (qn / 2)) (qc - (qn / 2)))) rfl) ?_
 refine WT.nil (thn_n (WP.seq (WP.reg ?_)))
 refine WL.alloc (segs := [(32, (zB 32).map vu8)]) h_10 (zv typeInfo29 rfl) rfl (sC (s8 lr) sN) rfl (fun b_12 w_13 h_14 => ?_)
 refine WL.nil (thn_n (WP.seq (WP.reg ?_)))
 refine qA (vi 0) rfl rfl ?_
 refine WL.nil (thn_n (WP.seq (WP.seq (WP.reg ?_))))
 refine qV rfl (R.fieldAddr (off' := 0) rfl underlying41 rfl sizeOf3 rfl rfl) (qV rfl (R.load1 rfl isAgg3 (h_14.ok _ M2) Sg.h) ?_)
 refine WL.nil (thn_n (WP.block (WP.seq (WP.reg ?_))))
 refine qV rfl (R.bin rfl rfl (bi_eql (r := false) (by decide))) (qA (.bool false) rfl rfl ?_)
 refine WL.nil (thn_n ?_)
 refine WP.condF rfl ?_
 refine WP.seq (WP.reg ?_)
 refine qV rfl (R.bin rfl rfl (bi_eql (r := false) (by decide))) (qA (.bool false) rfl rfl ?_)
 refine WL.nil (thn_n ?_)
 refine WP.condF rfl ?_
 refine WP.seq ?_
 refine WP.drawZ 7 (SL w00.heap.size [.blk b_12 .nw 29 [(32, (zB 32).map vu8)], .blk b_1 .nw 41 [(1, [(vi 5)]), (1, [(vi sn)]), (1, [(vi kd)]), (32, key.map vu8), (1, [(vi dm)]), (1, [(.slice qa qn qc)])], .blk ob .nw 66 [(1, [(.bool true)]), (32, (zB 32).map vu8), (1, [(.slice da dn dc)]), (1, [(vn u)]), (1, [(.map (some mp))]), (1, [(.slice la lg.length lc)])], .row la lg.length lc 47 67 lx, .obj mp .nw (.map (mArr lg) lg.length), .pin (sblks lx) (fun w => Lgs w lx lg), .view da (df.map vu8), .blk rb .nw 33 [(1, [(.bool true)]), (32, (zB 32).map vu8), (1, [(.slice dr dn drc)]), (1, [(vn u)]), (1, [(.slice ra lg.length rc)])], .row ra lg.length rc 47 67 rx, .pin (sblks rx) (fun w => Lgs w rx lg), .view dr (df.map vu8), .view qa (data.map vu8)]) (.q 0 (.q 1 (.q 2 (.q 3 (.q 4 (.s 5 (.q 6 (.s 7 .nil)))))))) (by kernel_rfl) (by kernel_rfl) rfl (by kernel_rfl) (fun w_15 hc_17 => (SL.cons ((h_14.same hc_17).ok _ M0) (SL.cons ((h_14.same hc_17).ok _ M2) (SL.cons ((h_14.same hc_17).ok _ M3) (SL.cons ((h_14.same hc_17).ok _ M4) (SL.cons ((h_14.same hc_17).ok _ M5) (SL.cons ((h_14.same hc_17).ok _ M6) (SL.cons ((h_14.same hc_17).ok _ M7) (SL.cons ((h_14.same hc_17).ok _ M8) (SL.cons ((h_14.same hc_17).ok _ M9) (SL.cons ((h_14.same hc_17).ok _ M10) (SL.cons ((h_14.same hc_17).ok _ M11) (SL.cons ((h_14.same hc_17).ok _ M12) (SL.nil _ _)))))))))))))) (fun w_15 hc_17 => ?_)
 have h_16 := h_14.same hc_17
 refine ZT.q rfl (Wn.no rfl) rfl rfl (fun wq hS => R.move (v := (pO rb 0)) rfl) ?_
 refine ZT.q rfl (Wn.no rfl) rfl rfl (fun wq hS => R.nilCheck rfl) ?_
 refine ZT.q rfl (Wn.no rfl) rfl rfl (fun wq hS => R.fieldAddr (off' := 1) rfl underlying33 rfl sizeOf29 rfl rfl) ?_
 refine ZT.q rfl (Wn.no rfl) rfl rfl (fun wq hS => R.loadA [(1, [(.bool true)])] [(32, (zB 32).map vu8)] [(1, [(.slice dr dn drc)]), (1, [(vn u)]), (1, [(.slice ra lg.length rc)])] (cs := (zB 32).map vu8) rfl isAgg29 sizeOf29 (hS _ M7) rfl rfl rfl rfl) ?_
 refine ZT.q rfl (Wn.no rfl) rfl rfl (fun wq hS => R.fieldAddr (off' := 0) rfl underlying39 rfl sizeOf35 rfl rfl) ?_
 refine ZT.s ?_
 refine OpZ.one rfl (Wn.no rfl) ?_
 refine WL.store1 h_16 rfl rfl sizeOf35 rfl Y1 (by decide) Sg.h (fun w_18 h_19 => ?_)
 refine WL.nil ?_
 refine ⟨(N0_2_3_4_5_6_7_8_9_10_11_12 h_19.ok), ?_⟩
 refine ZT.q rfl (Wn.no rfl) rfl rfl (fun wq hS => R.fieldAddr (off' := 1) rfl underlying39 rfl sizeOf29 rfl rfl) ?_
 refine ZT.s ?_
 refine OpZ.last rfl (Wn.no rfl) ?_
 refine WL.storeA [(1, [(vi 3)])] [(32, key.map vu8)] [(32, (zB 32).map vu8)] [(1, [(vi dm)]), (1, [(.slice qa qn qc)])] h_19 rfl rfl sizeOf29 Y1 (by decide) rfl rfl rfl rfl rfl rfl (sC (s8 lr) sN) (fun w_20 h_21 => ?_)
 refine WL.nil (ZT.nil (thn_n (WP.reg ?_)))
 refine qM (pO ob 0) rfl rfl (qV rfl (R.fieldAddr (off' := 33) rfl underlying39 rfl sizeOf36 rfl rfl) (qV rfl (R.load1 rfl isAgg36 (h_21.ok _ M1) (Sg.t rfl (Sg.t rfl Sg.h))) (qM (.slice (slA qa 0 qc 1) (qn / 2) qc) rfl rfl (qM (.slice (slA qa (qn / 2) qc 1) (qn - (qn / 2)) (qc - (qn / 2))) rfl rfl ?_))))
 refine WL.buildSl (vs := [(0, (.slice (slA qa 0 qc 1) (qn / 2) qc)), (1, (.slice (slA qa (qn / 2) qc 1) (qn - (qn / 2)) (qc - (qn / 2))))]) (cs := [(.slice (slA qa 0 qc 1) (qn / 2) qc), (.slice (slA qa (qn / 2) qc 1) (qn - (qn / 2)) (qc - (qn / 2)))]) h_21 underlying82 sizeOf37 (zv typeInfo37 rfl) rfl rfl (by kernel_rfl) rfl (by simp [Value.oneCell']) rfl rfl (fun b_22 w_23 h_24 => ?_)
 have h_25 := h_24.within (e' := .view (slA qa 0 qc 1) (((data.drop 0).take (qn / 2)).map vu8)) M13 rfl (View.arg (View.slM (l := 0) (m := qc) (k := qn / 2) (viewV (h_24.ok _ M13)) (by omega))) rfl rfl sub_blk2
 have h_26 := h_25.within (e' := .view (slA qa (qn / 2) qc 1) (((data.drop (qn / 2)).take (qn - (qn / 2))).map vu8)) M14 rfl (View.arg (View.slM (l := qn / 2) (m := qc) (k := qn - (qn / 2)) (viewV (h_25.ok _ M14)) (by omega))) rfl rfl sub_blk2
 have h_27 := h_26.up J2
 have h_28 := HP_blkView h_27
 have hbl_29 : ∀ b ∈ sblks [(.slice (slA qa 0 qc 1) (qn / 2) qc), (.slice (slA qa (qn / 2) qc 1) (qn - (qn / 2)) (qc - (qn / 2)))], ∃ e ∈ ((Ent.view (some ⟨b_22, 0, none⟩) [(.slice (slA qa 0 qc 1) (qn / 2) qc), (.slice (slA qa (qn / 2) qc 1) (qn - (qn / 2)) (qc - (qn / 2)))] :: Ent.view (slA qa (qn / 2) qc 1) (((data.drop (qn / 2)).take (qn - (qn / 2))).map vu8) :: Ent.view (slA qa 0 qc 1) (((data.drop 0).take (qn / 2)).map vu8) :: Ent.blk b_12 .nw 29 [(32, (List.replicate 32 (0 : UInt8)).map vu8)] :: Ent.blk b_4 .nw 39 [(1, [(vi 3)]), (32, (List.replicate 32 (0 : UInt8)).map vu8), (1, [(vi dm)]), (1, [(.slice qa qn qc)])] :: Ent.blk b_1 .nw 41 [(1, [(vi 5)]), (1, [(vi sn)]), (1, [(vi kd)]), (32, key.map vu8), (1, [(vi dm)]), (1, [(.slice qa qn qc)])] :: Ent.blk ob .nw 66 [(1, [(.bool true)]), (32, (List.replicate 32 (0 : UInt8)).map vu8), (1, [(.slice da dn dc)]), (1, [(vi ((u : Nat) : Int))]), (1, [(.map (some mp))]), (1, [(.slice la lg.length lc)])] :: Ent.row la lg.length lc 47 67 lx :: Ent.obj mp .nw (.map (mArr lg) lg.length) :: Ent.pin (sblks lx) (fun w => Lgs w lx lg) :: Ent.view da (df.map vu8) :: Ent.blk rb .nw 33 [(1, [(.bool true)]), (32, (List.replicate 32 (0 : UInt8)).map vu8), (1, [(.slice dr dn drc)]), (1, [(vi ((u : Nat) : Int))]), (1, [(.slice ra lg.length rc)])] :: Ent.row ra lg.length rc 47 67 rx :: Ent.pin (sblks rx) (fun w => Lgs w rx lg) :: Ent.view dr (df.map vu8) :: Ent.view qa (data.map vu8) :: L) : List Ent), e.mut = false ∧ b ∈ e.blocks := by
  intro b hb
  rcases List.mem_append.1 hb with hb | hb
  ·exact ⟨_, M2, rfl, sblk_in_view (subLen (K := qn) hdl (by omega) : List.length ((data.drop 0).take (qn / 2)) = qn / 2) b hb⟩
  rcases List.mem_append.1 hb with hb | hb
  ·exact ⟨_, M1, rfl, sblk_in_view (subLen (K := qn) hdl (by omega) : List.length ((data.drop (qn / 2)).take (qn - (qn / 2))) = qn - (qn / 2)) b hb⟩
  cases hb
 have h_30 := HP_within (e' := .pin (sblks [(.slice (slA qa 0 qc 1) (qn / 2) qc), (.slice (slA qa (qn / 2) qc 1) (qn - (qn / 2)) (qc - (qn / 2)))]) (fun w => Sls w [(.slice (slA qa 0 qc 1) (qn / 2) qc), (.slice (slA qa (qn / 2) qc 1) (qn - (qn / 2)) (qc - (qn / 2)))] [(data.drop 0).take (qn / 2), (data.drop (qn / 2)).take (qn - (qn / 2))])) h_28 (Sls.pin (Sls.cons (subLen (K := qn) hdl (by omega) : List.length ((data.drop 0).take (qn / 2)) = qn / 2) (by omega) (viewV (h_28.ok _ M2)) (Sls.cons (subLen (K := qn) hdl (by omega) : List.length ((data.drop (qn / 2)).take (qn - (qn / 2))) = qn - (qn / 2)) (by omega) (viewV (h_28.ok _ M1)) Sls.nil))) rfl rfl hbl_29
 have h_37 := ((((((h_30.up J1).up J1).up J11).up J11).up J11).up J11).up J11
 refine WL.call Tryz.call24 rfl rfl (c_oKeyN ob mp (zB 32) df lr da dn dc u hdf la lc lx lg (by omega) (by omega) (some ⟨b_22, 0, none⟩) 2 2 [(.slice (slA qa 0 qc 1) (qn / 2) qc), (.slice (slA qa (qn / 2) qc 1) (qn - (qn / 2)) (qc - (qn / 2)))] [(data.drop 0).take (qn / 2), (data.drop (qn / 2)).take (qn - (qn / 2))] rfl dm hm (by rw [halves2 hdl]; omega) (by omega) _ h_37) rfl ?_
 rintro _ w_38 ⟨rfl, h_39⟩
 refine qM (.tuple [(.agg ⟨(zB 32).map vu8⟩), (vi 2)].toArray) rfl rfl (qV rfl (R.extract rfl rfl) (qV rfl (R.extract rfl rfl) ?_))
 refine WL.storeA [] [(32, (zB 32).map vu8)] [(32, (zB 32).map vu8)] [] h_39 rfl rfl sizeOf29 Y9 (by decide) rfl rfl rfl rfl rfl rfl (sC (s8 lr) sN) (fun w_40 h_41 => ?_)
 refine qA (vi 2) rfl rfl ?_
 refine WL.nil (inb_n (thn_n (WP.seq (WP.seq (WP.reg ?_)))))
 refine qV rfl (R.loadA [] [(1, [(vi 3)]), (32, (zB 32).map vu8), (1, [(vi dm)]), (1, [(.slice qa qn qc)])] [] rfl isAgg39 sizeOf39 (h_41.ok _ M10) rfl rfl rfl rfl) ?_
 refine WL.call Tryz.call20 rfl rfl (c_rMayF 3 dm (zB 32) qa qn qc lr hm _ ) rfl ?_
 rintro _ w_43 ⟨rfl, hc_42⟩
 have h_44 := h_41.same hc_42
 refine qV rfl (R.not (b := false) rfl) ?_
 refine WL.nil (thn_n ?_)
 refine WP.condT rfl ?_
 refine WP.seq (WP.reg ?_)
 refine qM (vi 2) rfl rfl (qV rfl (R.bin rfl rfl (bi_eql (r := true) (by decide))) (qM (.bool true) rfl rfl ?_))
 refine WL.want rfl rfl ?_
 refine qV rfl (R.loadA [] [(32, (zB 32).map vu8)] [] (cs := (zB 32).map vu8) rfl isAgg29 sizeOf29 (h_44.ok _ M9) rfl rfl rfl rfl) ?_
 refine WL.want rfl rfl ?_
 refine qV rfl (R.buildA (vs := []) (cs := (zB 32).map vu8) underlying29 sizeOf5 (zv typeInfo29 rfl) rfl rfl) ?_
 refine WL.want rfl rfl ?_
 refine qV rfl (R.eqA (xs := (zB 32).map vu8) (ys := (zB 32).map vu8) (r := true) rfl rfl eqGuardType29 kt29 (by decide) ag29 (Typ.u8s underlying29 ce29 underlying5 ce5 lr) (Typ.u8s underlying29 ce29 underlying5 ce5 lr) (eqT rfl)) (qV rfl (R.pickT (v := (.bool true)) rfl rfl) (qA (.bool true) rfl rfl ?_))
 refine WL.nil (thn_n (WP.ret (thn_r (inb_r (thn_r ?_)))))
 refine ret_of results8 (RV.tmp (v := (.bool true)) rfl RV.nil) ?_
 have h_68 := (((((((((((((((((((((((h_44.up J5).drop rfl).up J5).drop rfl).up J5).drop rfl).up J5).drop rfl).up J5).drop rfl).up J5).drop rfl).up J5).drop rfl).up J9).up J9).up J9).up J9).up J9).up J9).up J9).up J9).up J9).up J9
 exact ⟨_, _, _, _, _, _, rfl, h_68⟩

theorem c_one0 {w00 : World} {L : List Ent} (ob mp : Nat) (df : List UInt8) (da : Option Addr) (dn dc u : Nat) (hdf : df.length = 32 * dn) (la : Option Addr) (lc : Nat) (lx : List Value) (lg : Lg) (hu : u ≤ 500000) (hlg : lg.length ≤ 500000) (rb : Nat) (dr : Option Addr) (drc : Nat) (ra : Option Addr) (rc : Nat) (rx : List Value) (k kd dm sn : Int) (key data : List UInt8) (qa : Option Addr) (qn qc : Nat) (hk : key.length = 32) (hdl : data.length = qn) (hqn : qn ≤ 100000) (hqc : qn ≤ qc) (hk1 : k ≠ 1) (hk2 : k ≠ 2) (hk3 : k ≠ 3) (hk4 : k ≠ 4) (hk5 : k ≠ 5) (w : World) (h_0 : HP w00 w (Ent.blk ob .nw 66 [(1, [(.bool true)]), (32, (List.replicate 32 (0 : UInt8)).map vu8), (1, [(.slice da dn dc)]), (1, [(vi ((u : Nat) : Int))]), (1, [(.map (some mp))]), (1, [(.slice la lg.length lc)])] :: Ent.row la lg.length lc 47 67 lx :: Ent.obj mp .nw (.map (mArr lg) lg.length) :: Ent.pin (sblks lx) (fun w => Lgs w lx lg) :: Ent.view da (df.map vu8) :: Ent.blk rb .nw 33 [(1, [(.bool true)]), (32, (List.replicate 32 (0 : UInt8)).map vu8), (1, [(.slice dr dn drc)]), (1, [(vi ((u : Nat) : Int))]), (1, [(.slice ra lg.length rc)])] :: Ent.row ra lg.length rc 47 67 rx :: Ent.pin (sblks rx) (fun w => Lgs w rx lg) :: Ent.view dr (df.map vu8) :: Ent.view qa (data.map vu8) :: L)) :
  Cs Tryz.prog 8 [(.pointer (some ⟨ob, 0, none⟩)), (.pointer (some ⟨rb, 0, none⟩)), (.agg ⟨flat [(1, [(vi k)]), (1, [(vi sn)]), (1, [(vi kd)]), (32, key.map vu8), (1, [(vi dm)]), (1, [(.slice qa qn qc)])]⟩)].toArray w (fun v w1 => ∃ la' lc' lx' ra' rc' rx', v = .bool true ∧ HP w00 w1 (Ent.blk ob .nw 66 [(1, [(.bool true)]), (32, (List.replicate 32 (0 : UInt8)).map vu8), (1, [(.slice da dn dc)]), (1, [(vi ((u : Nat) : Int))]), (1, [(.map (some mp))]), (1, [(.slice la' lg.length lc')])] :: Ent.row la' lg.length lc' 47 67 lx' :: Ent.obj mp .nw (.map (mArr lg) lg.length) :: Ent.pin (sblks lx') (fun w => Lgs w lx' lg) :: Ent.view da (df.map vu8) :: Ent.blk rb .nw 33 [(1, [(.bool true)]), (32, (List.replicate 32 (0 : UInt8)).map vu8), (1, [(.slice dr dn drc)]), (1, [(vi ((u : Nat) : Int))]), (1, [(.slice ra' lg.length rc')])] :: Ent.row ra' lg.length rc' 47 67 rx' :: Ent.pin (sblks rx') (fun w => Lgs w rx' lg) :: Ent.view dr (df.map vu8) :: Ent.view qa (data.map vu8) :: L)) := by
 refine Cs.of (n := 186) (args := [(pO ob 0), (pO rb 0), (.agg ⟨flat [(1, [(vi k)]), (1, [(vi sn)]), (1, [(vi kd)]), (32, key.map vu8), (1, [(vi dm)]), (1, [(.slice qa qn qc)])]⟩)]) Tryz.func8 rfl rfl rfl ?_
 refine WP.seq (WP.reg ?_)
 refine WL.box (segs := [(1, [(vi k)]), (1, [(vi sn)]), (1, [(vi kd)]), (32, key.map vu8), (1, [(vi dm)]), (1, [(.slice qa qn qc)])]) h_0 rfl rfl (sC sV (sC sV (sC sV (sC (s8 hk) (sC sV (sC sV sN)))))) rfl (fun b_1 w_2 h_3 => ?_)
 refine qA (.bool false) rfl rfl ?_
 refine WL.nil (thn_n (WP.seq (WP.reg ?_)))
 refine qV rfl (R.fieldAddr (off' := 2) rfl underlying41 rfl sizeOf39 rfl rfl) (qV rfl (R.loadA [(1, [(vi k)]), (1, [(vi sn)])] [(1, [(vi kd)]), (32, key.map vu8), (1, [(vi dm)]), (1, [(.slice qa qn qc)])] [] rfl isAgg39 sizeOf39 (h_3.ok _ M0) rfl rfl rfl rfl) ?_)
 refine WL.alloc (segs := [(1, [(vi 0)]), (32, (zB 32).map vu8), (1, [(vi 0)]), (1, [(.slice none 0 0)])]) h_3 (zv typeInfo39 rfl) rfl (sC sV (sC (s8 lr) (sC sV (sC sV sN)))) rfl (fun b_4 w_5 h_6 => ?_)
 refine WL.storeA [] [(1, [(vi 0)]), (32, (zB 32).map vu8), (1, [(vi 0)]), (1, [(.slice none 0 0)])] [(1, [(vi kd)]), (32, key.map vu8), (1, [(vi dm)]), (1, [(.slice qa qn qc)])] [] h_6 rfl rfl sizeOf39 At.h (by decide) rfl rfl rfl rfl rfl rfl (sC sV (sC (s8 hk) (sC sV (sC sV sN)))) (fun w_7 h_8 => ?_)
 refine WL.nil (thn_n (WP.seq (WP.seq (WP.reg ?_))))
 refine qV rfl (R.fieldAddr (off' := 0) rfl underlying41 rfl sizeOf3 rfl rfl) (qV rfl (R.load1 rfl isAgg3 (h_8.ok _ M1) Sg.h) ?_)
 refine WL.nil (thn_n (WP.block (WP.seq (WP.reg ?_))))
 refine qV rfl (R.bin rfl rfl (bi_eql (r := decide ((k : Int) = 1)) rfl)) (qA (.bool (decide ((k : Int) = 1))) rfl rfl ?_)
 refine WL.nil (thn_n ?_)
 refine WP.condF (congrArg Value.bool (decide_eq_false hk1)) ?_
 refine WP.seq (WP.reg ?_)
 refine qV rfl (R.bin rfl rfl (bi_eql (r := decide ((k : Int) = 2)) rfl)) (qA (.bool (decide ((k : Int) = 2))) rfl rfl ?_)
 refine WL.nil (thn_n ?_)
 refine WP.condF (congrArg Value.bool (decide_eq_false hk2)) ?_
 refine WP.seq (WP.seq (WP.reg ?_))
 refine qV rfl (R.bin rfl rfl (bi_eql (r := decide ((k : Int) = 3)) rfl)) (qA (.bool (decide ((k : Int) = 3))) rfl rfl ?_)
 refine WL.nil (thn_n ?_)
 refine WP.condF (congrArg Value.bool (decide_eq_false hk3)) ?_
 refine WP.seq (WP.reg ?_)
 refine qV rfl (R.bin rfl rfl (bi_eql (r := decide ((k : Int) = 4)) rfl)) (qA (.bool (decide ((k : Int) = 4))) rfl rfl ?_)
 refine WL.nil (thn_n ?_)
 refine WP.condF (congrArg Value.bool (decide_eq_false hk4)) ?_
 refine WP.reg ?_
 refine qV rfl (R.bin rfl rfl (bi_eql (r := decide ((k : Int) = 5)) rfl)) (qA (.bool (decide ((k : Int) = 5))) rfl rfl ?_)
 refine WL.nil (thn_n ?_)
 refine WP.condF (congrArg Value.bool (decide_eq_false hk5)) ?_
 refine WP.skip (inb_n (thn_n (WP.seq (WP.reg ?_))))
 refine qA (.bool true) rfl rfl ?_
 refine WL.nil (thn_n (WP.ret ?_))
 refine ret_of results8 (RV.tmp (v := (.bool true)) rfl RV.nil) ?_
 have h_20 := (((((((((((h_8.drop rfl).drop rfl).up J9).up J9).up J9).up J9).up J9).up J9).up J9).up J9).up J9).up J9
 exact ⟨_, _, _, _, _, _, rfl, h_20⟩

theorem c_one {w00 : World} {L : List Ent} (ob mp : Nat) (df : List UInt8) (da : Option Addr) (dn dc u : Nat) (hdf : df.length = 32 * dn) (la : Option Addr) (lc : Nat) (lx : List Value) (lg : Lg) (hu : u ≤ 500000) (hlg : lg.length ≤ 500000) (rb : Nat) (dr : Option Addr) (drc : Nat) (ra : Option Addr) (rc : Nat) (rx : List Value) (e : Ae) (he : okAe e) (hdn : e.data.length ≤ 300) (w : World) (h_0 : HP w00 w (Ent.blk ob .nw 66 [(1, [(.bool true)]), (32, (List.replicate 32 (0 : UInt8)).map vu8), (1, [(.slice da dn dc)]), (1, [(vi ((u : Nat) : Int))]), (1, [(.map (some mp))]), (1, [(.slice la lg.length lc)])] :: Ent.row la lg.length lc 47 67 lx :: Ent.obj mp .nw (.map (mArr lg) lg.length) :: Ent.pin (sblks lx) (fun w => Lgs w lx lg) :: Ent.view da (df.map vu8) :: Ent.blk rb .nw 33 [(1, [(.bool true)]), (32, (List.replicate 32 (0 : UInt8)).map vu8), (1, [(.slice dr dn drc)]), (1, [(vi ((u : Nat) : Int))]), (1, [(.slice ra lg.length rc)])] :: Ent.row ra lg.length rc 47 67 rx :: Ent.pin (sblks rx) (fun w => Lgs w rx lg) :: Ent.view dr (df.map vu8) :: Ent.view e.a (e.data.map vu8) :: L)) :
  Cs Tryz.prog 8 [(.pointer (some ⟨ob, 0, none⟩)), (.pointer (some ⟨rb, 0, none⟩)), (.agg ⟨flat [(1, [(vi e.k)]), (1, [(vi e.n)]), (1, [(vi e.kd)]), (32, e.key.map vu8), (1, [(vi e.dm)]), (1, [(.slice e.a e.data.length e.c)])]⟩)].toArray w (fun v w1 => ∃ la' lc' lx' ra' rc' rx', v = .bool true ∧ HP w00 w1 (Ent.blk ob .nw 66 [(1, [(.bool true)]), (32, (List.replicate 32 (0 : UInt8)).map vu8), (1, [(.slice da dn dc)]), (1, [(vi (((oneS df dn e u lg).1 : Nat) : Int))]), (1, [(.map (some mp))]), (1, [(.slice la' ((oneS df dn e u lg).2.length) lc')])] :: Ent.row la' ((oneS df dn e u lg).2.length) lc' 47 67 lx' :: Ent.obj mp .nw (.map (mArr ((oneS df dn e u lg).2)) ((oneS df dn e u lg).2.length)) :: Ent.pin (sblks lx') (fun w => Lgs w lx' ((oneS df dn e u lg).2)) :: Ent.view da (df.map vu8) :: Ent.blk rb .nw 33 [(1, [(.bool true)]), (32, (List.replicate 32 (0 : UInt8)).map vu8), (1, [(.slice dr dn drc)]), (1, [(vi (((oneS df dn e u lg).1 : Nat) : Int))]), (1, [(.slice ra' ((oneS df dn e u lg).2.length) rc')])] :: Ent.row ra' ((oneS df dn e u lg).2.length) rc' 47 67 rx' :: Ent.pin (sblks rx') (fun w => Lgs w rx' ((oneS df dn e u lg).2)) :: Ent.view dr (df.map vu8) :: Ent.view e.a (e.data.map vu8) :: L)) := by
 obtain ⟨k, n, kd, key, dm, data, a, c⟩ := e
 obtain ⟨hk, hc, hcm, _⟩ := he
 have hdn2 : data.length ≤ 300 := hdn
 have hc2 : data.length ≤ c := hc
 by_cases k1 : k = 1
 ·subst k1
  cases hm : mayB kd dm key
  ·rw [oneS_no (e := ⟨1, n, kd, key, dm, data, a, c⟩) (q := (kd, key, dm, data)) (show (1 : Int) ≠ 2 by decide) rfl (askB_n hm)]
   exact c_one1n ob mp df da dn dc u hdf la lc lx lg hu hlg rb dr drc ra rc rx kd dm n key data a _ c hk rfl (by omega) hc2 hm w h_0
  ·have h := mayB_t hm
   by_cases h4 : kd = 4
   ·subst h4
    rw [oneS_no (e := ⟨1, n, 4, key, dm, data, a, c⟩) (q := (4, key, dm, data)) (show (1 : Int) ≠ 2 by decide) rfl (askB_4 rfl)]
    exact c_one1s ob mp df da dn dc u hdf la lc lx lg hu hlg rb dr drc ra rc rx dm n key data a _ c hk rfl (by omega) hc2 h.1 h.2.1 h.2.2 w h_0
   ·rw [oneS_ask (e := ⟨1, n, kd, key, dm, data, a, c⟩) (q := (kd, key, dm, data)) (.inl rfl) rfl (askB_i hm h4)]
    exact c_one1t ob mp df da dn dc u hdf la lc lx lg hu hlg rb dr drc ra rc rx kd dm n key data a _ c hk rfl (by omega) hc2 ⟨hk, h.1, h.2.1, by show data.length ≤ _; omega⟩ h4 h.2.2 w h_0
 by_cases k2 : k = 2
 ·subst k2
  cases hs : stB ⟨2, n, kd, key, dm, data, a, c⟩
  ·rw [oneS_sn rfl hs]
   cases hm : mayB kd dm key
   ·exact c_one2n ob mp df da dn dc u hdf la lc lx lg hu hlg rb dr drc ra rc rx kd dm n key data a _ c hk rfl (by omega) hc2 hm w h_0
   ·have h := mayB_t hm
    by_cases h4 : kd = 4
    ·subst h4
     by_cases n0 : n < 0
     ·exact c_one2L ob mp df da dn dc u hdf la lc lx lg hu hlg rb dr drc ra rc rx dm n key data a _ c hk rfl (by omega) hc2 h.1 h.2.1 h.2.2 n0 w h_0
     by_cases n1 : 1024 < n
     ·exact c_one2H ob mp df da dn dc u hdf la lc lx lg hu hlg rb dr drc ra rc rx dm n key data a _ c hk rfl (by omega) hc2 h.1 h.2.1 h.2.2 n1 w h_0
     ·have h5 : stB ⟨2, n, 4, key, dm, data, a, c⟩ = true := by
       simp only [stB, hm, Bool.and_eq_true, decide_eq_true_eq]
       exact ⟨by trivial, by trivial, by omega, by omega⟩
      rw [hs] at h5; cases h5
    ·exact c_one2k ob mp df da dn dc u hdf la lc lx lg hu hlg rb dr drc ra rc rx kd dm n key data a _ c hk rfl (by omega) hc2 h.1 h.2.1 h.2.2 h4 w h_0
  ·obtain ⟨hm, h4, n0, n1⟩ := stB_t hs
   simp only at h4 n0 n1 hm
   subst h4
   obtain ⟨sn, rfl⟩ := Int.eq_ofNat_of_zero_le n0
   have h := mayB_t hm
   rw [oneS_st rfl hs]
   exact c_one2t ob mp df da dn dc u hdf la lc lx lg hu hlg rb dr drc ra rc rx dm sn key data a _ c hk rfl (by omega) hc2 h.1 h.2.1 h.2.2 (by omega) w h_0
 by_cases k3 : k = 3
 ·subst k3
  cases hm : mayB 1 dm (List.replicate 32 0)
  ·rw [oneS_no (e := ⟨3, n, kd, key, dm, data, a, c⟩) (q := (1, (List.replicate 32 0), dm, data)) (show (3 : Int) ≠ 2 by decide) rfl (askB_n hm)]
   exact c_one3n ob mp df da dn dc u hdf la lc lx lg hu hlg rb dr drc ra rc rx kd dm n key data a _ c hk rfl (by omega) hc2 hm w h_0
  ·rw [oneS_ask (e := ⟨3, n, kd, key, dm, data, a, c⟩) (q := (1, (List.replicate 32 0), dm, data)) (.inr (.inl rfl)) rfl (askB_i hm (show (1 : Int) ≠ 4 by decide))]
   exact c_one3t ob mp df da dn dc u hdf la lc lx lg hu hlg rb dr drc ra rc rx kd dm n key data a _ c hk rfl (by omega) hc2 (mayB_t hm).2.1 w h_0
 by_cases k4 : k = 4
 ·subst k4
  cases hm : mayB 2 dm key
  ·rw [oneS_no (e := ⟨4, n, kd, key, dm, data, a, c⟩) (q := (2, key, dm, data)) (show (4 : Int) ≠ 2 by decide) rfl (askB_n hm)]
   exact c_one4n ob mp df da dn dc u hdf la lc lx lg hu hlg rb dr drc ra rc rx kd dm n key data a _ c hk rfl (by omega) hc2 hm w h_0
  ·rw [oneS_ask (e := ⟨4, n, kd, key, dm, data, a, c⟩) (q := (2, key, dm, data)) (.inr (.inr (.inl rfl))) rfl (askB_i hm (show (2 : Int) ≠ 4 by decide))]
   exact c_one4t ob mp df da dn dc u hdf la lc lx lg hu hlg rb dr drc ra rc rx kd dm n key data a _ c hk rfl (by omega) hc2 (mayB_t hm).2.1 w h_0
 by_cases k5 : k = 5
 ·subst k5
  cases hm : mayB 3 dm (List.replicate 32 0)
  ·rw [oneS_no (e := ⟨5, n, kd, key, dm, data, a, c⟩) (q := (3, (List.replicate 32 0), dm, data)) (show (5 : Int) ≠ 2 by decide) rfl (askB_n hm)]
   exact c_one5n ob mp df da dn dc u hdf la lc lx lg hu hlg rb dr drc ra rc rx kd dm n key data a _ c hk rfl (by omega) hc2 hm w h_0
  ·rw [oneS_ask (e := ⟨5, n, kd, key, dm, data, a, c⟩) (q := (3, (List.replicate 32 0), dm, data)) (.inr (.inr (.inr rfl))) rfl (askB_i hm (show (3 : Int) ≠ 4 by decide))]
   exact c_one5t ob mp df da dn dc u hdf la lc lx lg hu hlg rb dr drc ra rc rx kd dm n key data a _ c hk rfl (by omega) hc2 (mayB_t hm).2.1 w h_0
 rw [oneS_oth (e := ⟨k, n, kd, key, dm, data, a, c⟩) k1 k2 k3 k4 k5]
 exact c_one0 ob mp df da dn dc u hdf la lc lx lg hu hlg rb dr drc ra rc rx k kd dm n key data a _ c hk rfl (by omega) hc2 k1 k2 k3 k4 k5 w h_0
end Go.Proofs.YtajiipjmmoehcaaGreat

namespace Go.Proofs.YtajiipjmmoehcaaGreat
open Go.Proofs.Tryz
open Go.Vc Go.Orc Go.Sh Go.RowKit
set_option maxRecDepth 20000

theorem c_oUsedI (id : Bool) (ob mp : Nat) (ms : List UInt8) (hms : ms.length = 32) (da : Option Addr) (dn dc u : Nat) (la : Option Addr) (ln lc : Nat) (w : World) (hcb : (Ent.blk ob .ro 66 [(1, [(.bool id)]), (32, ms.map vu8), (1, [(.slice da dn dc)]), (1, [(vi ((u : Nat) : Int))]), (1, [(.map (some mp))]), (1, [(.slice la ln lc)])]).ok w.heap.size w) :
  Cs Tryz.prog 11 [(.pointer (some ⟨ob, 0, none⟩))].toArray w (fun v w1 => v = (vi ((u : Nat) : Int)) ∧ Chg w w1 []) := by
 refine Cs.of (n := 10) (args := [(pO ob 0)]) Tryz.func11 rfl rfl rfl ?_
 have h_0 := HP.init w
 have h_00 := h_0.old hcb (fun f hf => by cases hf)
 refine WP.seq (WP.reg ?_)
 refine qA (vi 0) rfl rfl ?_
 refine WL.nil (thn_n (WP.seq (WP.seq (WP.reg ?_))))
 refine qM (pO ob 0) rfl rfl ?_
 refine WL.call Tryz.call25 rfl rfl (c_othere id ob mp ms hms da dn dc u la ln lc _ (h_00.argR M0)) rfl ?_
 rintro _ w_2 ⟨rfl, hc_1⟩
 have h_3 := h_00.same hc_1
 refine qV rfl (R.not (b := true) rfl) ?_
 refine WL.nil (thn_n ?_)
 refine WP.condF rfl ?_
 refine WP.skip (thn_n (WP.seq (WP.reg ?_)))
 refine qM (pO ob 0) rfl rfl (qV rfl (R.nilCheck rfl) (qV rfl (R.fieldAddr (off' := 34) rfl underlying66 rfl sizeOf3 rfl rfl) (qV rfl (R.load1 rfl isAgg3 (h_3.ok _ M0) (Sg.t rfl (Sg.t rfl (Sg.t rfl Sg.h)))) (qA (vn u) rfl rfl ?_))))
 refine WL.nil (thn_n (WP.ret ?_))
 refine ret_of results11 (RV.tmp (v := (vn u)) rfl RV.nil) ?_
 exact ⟨rfl, h_3.chgS⟩

end Go.Proofs.YtajiipjmmoehcaaGreat
