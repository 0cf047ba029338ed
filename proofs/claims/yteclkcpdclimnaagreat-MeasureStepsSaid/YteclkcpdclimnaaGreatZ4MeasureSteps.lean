/- Rules for walks and contracts of the functions that the law reaches, one behind the other. Conditions: none beyond what each theorem states. -/
import Derived.Test.YteclkcpdclimnaaGreatZ3MeasureSteps
set_option linter.unusedVariables false
set_option linter.unusedSimpArgs false
set_option linter.unusedSectionVars false
namespace Go.Proofs.YteclkcpdclimnaaGreat
open Go.Vc Go.Orc Go.Sh Go.RowKit
set_option maxRecDepth 20000
theorem ce3 : Tryz.prog.cellsOf 3 = 1 := by kernel_rfl
theorem ce4 : Tryz.prog.cellsOf 4 = 1 := by kernel_rfl
theorem ce27 : Tryz.prog.cellsOf 27 = 1 := by kernel_rfl
theorem ce29 : Tryz.prog.cellsOf 29 = 128 := by kernel_rfl
theorem ce55 : Tryz.prog.cellsOf 55 = 8 := by kernel_rfl
theorem ce57 : Tryz.prog.cellsOf 57 = 10 := by kernel_rfl
theorem ce68 : Tryz.prog.cellsOf 68 = 1 := by kernel_rfl
theorem ce70 : Tryz.prog.cellsOf 70 = 172 := by kernel_rfl
theorem kt70 : Tryz.prog.keyTypeAt 4 70 = true := by kernel_rfl
theorem ag70 : aggB Tryz.prog 70 = true := by unfold aggB; rw [Tryz.underlying70]
theorem pl54 : ∀ fs, Tryz.prog.underlying 54 = some (.struct fs) → Places Tryz.prog fs [(0, 32), (32, 1)] := by
 intro fs h w; rw [Tryz.underlying54] at h; cases h; simp
theorem pl70 : ∀ fs, Tryz.prog.underlying 70 = some (.struct fs) → Places Tryz.prog fs [(0, 1), (1, 32), (33, 1), (34, 128), (162, 10)] := by
 intro fs h w; rw [Tryz.underlying70] at h; cases h; simp
theorem c_MayRec (pc : UInt64) (rg : List UInt64) (hrg : rg.length = 8) (b : Bool) (w : World) :
  Cs Tryz.prog 79 [(.agg ⟨flat [(1, [(vu64 pc)]), (8, rg.map vu64), (1, [(.bool b)])]⟩)].toArray w (fun v w1 => v = (.bool (decide (pc % 8 = 0))) ∧ Chg w w1 []) := by
 refine Cs.of (n := 7) (args := [(.agg ⟨flat [(1, [(vu64 pc)]), (8, rg.map vu64), (1, [(.bool b)])]⟩)]) Tryz.func79 rfl rfl rfl ?_
 have h_0 := HP.init w
 refine WP.seq (WP.reg ?_)
 refine WL.box (v := (.agg ⟨flat [(1, [(vu64 pc)]), (8, rg.map vu64), (1, [(.bool b)])]⟩)) (segs := [(1, [(vu64 pc)]), (8, rg.map vu64), (1, [(.bool b)])]) h_0 rfl rfl (SsOk.cons (SOk.v rfl) (SsOk.cons (SOk.u64 hrg) (SsOk.cons (SOk.v rfl) SsOk.nil))) rfl (fun b_1 w_2 h_3 => ?_)
 refine qA (.bool false) rfl rfl ?_
 refine WL.nil (thn_n (WP.seq (WP.reg ?_)))
 refine qV rfl (R.fieldAddr (off' := 0) rfl Tryz.underlying57 rfl Tryz.sizeOf27 rfl rfl) (qV rfl (R.load1 rfl Tryz.isAgg27 (h_3.ok _ M0) Sg.h) (qV rfl (R.bin (v := (vu64 (pc % 8))) rfl rfl (b64_rem pc 8 (by decide))) (qV rfl (R.bin (v := (.bool (decide ((pc % 8 : UInt64) = 0)))) rfl rfl (b64_eql (pc % 8) 0 (r := decide ((pc % 8 : UInt64) = 0)) rfl)) (qA (.bool (decide ((pc % 8 : UInt64) = 0))) rfl rfl ?_))))
 refine WL.nil (thn_n (WP.ret ?_))
 refine ret_of Tryz.results79 (RV.tmp (v := (.bool (decide ((pc % 8 : UInt64) = 0)))) rfl RV.nil) ?_
 exact ⟨rfl, h_3.chgS⟩

theorem c_mth (id : Bool) (ob mp : Nat) (ms : List UInt8) (hms : ms.length = 32) (da : Option Addr) (dn dc u : Nat) (la : Option Addr) (ln lc : Nat) (w : World) (hcb : (Ent.blk ob .ro 118 [(1, [(.bool id)]), (32, ms.map vu8), (1, [(.slice da dn dc)]), (1, [(vi ((u : Nat) : Int))]), (1, [(.map (some mp))]), (1, [(.slice la ln lc)])]).ok w.heap.size w) :
  Cs Tryz.prog 72 [(.pointer (some ⟨ob, 0, none⟩))].toArray w (fun v w1 => v = (.bool true) ∧ Chg w w1 []) := by
 refine Cs.of (n := 13) (args := [(pO ob 0)]) Tryz.func72 rfl rfl rfl ?_
 have h_0 := HP.init w
 have h_00 := h_0.old hcb (fun f hf => by cases hf)
 refine WP.seq (WP.reg ?_)
 refine qA (.bool false) rfl rfl ?_
 refine WL.nil (thn_n (WP.seq (WP.reg ?_)))
 refine qM (pO ob 0) rfl rfl (qV rfl (R.buildS (pl := [(0, 1), (1, 32), (33, 1), (34, 1)]) (zs := [(1, [(vi 0)]), (32, (List.replicate 32 (0 : UInt8)).map vu8), (1, [(vi 0)]), (1, [(.slice none 0 0)])]) (vs := []) (out := [(1, [(vi 0)]), (32, (List.replicate 32 (0 : UInt8)).map vu8), (1, [(vi 0)]), (1, [(.slice none 0 0)])]) (cs := flat [(1, [(vi 0)]), (32, (List.replicate 32 (0 : UInt8)).map vu8), (1, [(vi 0)]), (1, [(.slice none 0 0)])]) Tryz.underlying90 (zv Tryz.typeInfo90 rfl) rfl (SsOk.cons (SOk.v rfl) (SsOk.cons (SOk.u8 lr) (SsOk.cons (SOk.v rfl) (SsOk.cons (SOk.v rfl) SsOk.nil)))) (pl90 _ Tryz.underlying90) rfl FillR.nil rfl) ?_)
 refine WL.call Tryz.call50 rfl rfl (c_oAsk_0 id ob mp ms hms da dn dc u la ln lc 0 (List.replicate 32 (0 : UInt8)) none 0 0 lr _ (h_00.argR M0)) rfl ?_
 rintro _ w_3 ⟨rfl, hc_2⟩
 have h_4 := h_00.same hc_2
 refine qM (.tuple [(.agg ⟨(List.replicate 32 (0 : UInt8)).map vu8⟩), (vi 2)].toArray) rfl rfl (qV rfl (R.extract rfl rfl) (qV rfl (R.extract rfl rfl) ?_))
 refine WL.alloc (segs := [(32, (List.replicate 32 (0 : UInt8)).map vu8)]) h_4 (zv Tryz.typeInfo23 rfl) rfl (SsOk.cons (SOk.u8 lr) SsOk.nil) rfl (fun b_5 w_6 h_7 => ?_)
 refine WL.storeA (b := b_5) (off := 0) [] [(32, (List.replicate 32 (0 : UInt8)).map vu8)] [(32, (List.replicate 32 (0 : UInt8)).map vu8)] [] (ys := (List.replicate 32 (0 : UInt8)).map vu8) h_7 rfl rfl Tryz.sizeOf23 At.h (by decide) rfl rfl rfl rfl rfl rfl (SsOk.cons (SOk.u8 lr) SsOk.nil) (fun w_8 h_9 => ?_)
 refine qA (vi 2) rfl rfl ?_
 refine WL.nil (thn_n (WP.seq (WP.reg ?_)))
 refine qM (vi 2) rfl rfl (qV rfl (R.bin rfl rfl (bi_neq (r := true) (by decide))) (qA (.bool true) rfl rfl ?_))
 refine WL.nil (thn_n (WP.ret ?_))
 refine ret_of Tryz.results72 (RV.tmp (v := (.bool true)) rfl RV.nil) ?_
 exact ⟨rfl, h_9.chgS⟩

theorem c_Begin {w00 : World} {L : List Ent} (id : Bool) (ob mp : Nat) (ms df : List UInt8) (hms : ms.length = 32) (da : Option Addr) (dn dc u : Nat) (hdf : df.length = 32 * dn) (la : Option Addr) (lc : Nat) (lx : List Value) (lg : Lg) (hu : u ≤ 1000000) (hlg : lg.length ≤ 1000000) (val : List UInt8) (hvl : val.length = 32) (sz : UInt64) (w : World) (h_0 : HP w00 w (Ent.blk ob .nw 118 [(1, [(.bool id)]), (32, ms.map vu8), (1, [(.slice da dn dc)]), (1, [(vi ((u : Nat) : Int))]), (1, [(.map (some mp))]), (1, [(.slice la lg.length lc)])] :: Ent.row la lg.length lc 96 67 lx :: Ent.obj mp .nw (.map (mArr lg) lg.length) :: Ent.pin (sblks lx) (fun w => Lgs w lx lg) :: Ent.view da (df.map vu8) :: L)) :
  Cs Tryz.prog 25 [(.pointer (some ⟨ob, 0, none⟩)), (.agg ⟨flat [(32, val.map vu8), (1, [(vu64 sz)])]⟩)].toArray w (fun v w1 => ∃ la' lc' lx', v = (.tuple [(.agg ⟨(anD id df dn u lg (1, (List.replicate 32 (0 : UInt8)), 1, [val].flatten)).map vu8⟩), (vi 0)].toArray) ∧ HP w00 w1 (Ent.blk ob .nw 118 [(1, [(.bool id)]), (32, ms.map vu8), (1, [(.slice da dn dc)]), (1, [(vi (((anU id u lg (1, (List.replicate 32 (0 : UInt8)), 1, [val].flatten)) : Nat) : Int))]), (1, [(.map (some mp))]), (1, [(.slice la' ((anL id df dn u lg (1, (List.replicate 32 (0 : UInt8)), 1, [val].flatten)).length) lc')])] :: Ent.row la' ((anL id df dn u lg (1, (List.replicate 32 (0 : UInt8)), 1, [val].flatten)).length) lc' 96 67 lx' :: Ent.obj mp .nw (.map (mArr (anL id df dn u lg (1, (List.replicate 32 (0 : UInt8)), 1, [val].flatten))) ((anL id df dn u lg (1, (List.replicate 32 (0 : UInt8)), 1, [val].flatten)).length)) :: Ent.pin (sblks lx') (fun w => Lgs w lx' (anL id df dn u lg (1, (List.replicate 32 (0 : UInt8)), 1, [val].flatten))) :: Ent.view da (df.map vu8) :: L)) := by
 refine Cs.of (n := 17) (args := [(pO ob 0), (.agg ⟨flat [(32, val.map vu8), (1, [(vu64 sz)])]⟩)]) Tryz.func25 rfl rfl rfl ?_
 refine WP.seq (WP.reg ?_)
 refine WL.box (v := (.agg ⟨flat [(32, val.map vu8), (1, [(vu64 sz)])]⟩)) (segs := [(32, val.map vu8), (1, [(vu64 sz)])]) h_0 rfl rfl (SsOk.cons (SOk.u8 hvl) (SsOk.cons (SOk.v rfl) SsOk.nil)) rfl (fun b_1 w_2 h_3 => ?_)
 refine WL.alloc (segs := [(32, (List.replicate 32 (0 : UInt8)).map vu8)]) h_3 (zv Tryz.typeInfo23 rfl) rfl (SsOk.cons (SOk.u8 lr) SsOk.nil) rfl (fun b_4 w_5 h_6 => ?_)
 refine qA (vi 0) rfl rfl ?_
 refine WL.nil (thn_n (WP.seq (WP.seq (WP.reg ?_))))
 refine qM (pO ob 0) rfl rfl ?_
 refine WL.call Tryz.call72 rfl rfl (c_mth id ob mp ms hms da dn dc u la lg.length lc _ (h_6.argR M2)) rfl ?_
 rintro _ w_8 ⟨rfl, hc_7⟩
 have h_9 := h_6.same hc_7
 refine qV rfl (R.not (b := true) rfl) ?_
 refine WL.nil (thn_n ?_)
 refine WP.condF rfl ?_
 refine WP.skip (thn_n (WP.seq (WP.reg ?_)))
 refine qM (pO ob 0) rfl rfl (qV rfl (R.fieldAddr (off' := 0) rfl Tryz.underlying54 rfl Tryz.sizeOf23 rfl rfl) (qV rfl (R.sliceA (b := b_1) (off := 0) (off' := 0) (l := 0) (h := 32) rfl EvB.dflt EvB.dflt (by decide) (by decide) Tryz.underlying23 Tryz.sizeOf5 rfl) ?_))
 refine WL.buildSl (vs := [(0, (.slice (some ⟨b_1, 0, none⟩) 32 32))]) (cs := [(.slice (some ⟨b_1, 0, none⟩) 32 32)]) h_9 Tryz.underlying128 Tryz.sizeOf88 (zv Tryz.typeInfo88 rfl) rfl rfl (by kernel_rfl) rfl (by simp [Value.oneCell']) rfl rfl (fun b_10 w_11 h_12 => ?_)
 have h_13 := h_12.up J2
 have h_14 := HP_blkView1 h_13
 have h_15 := h_14.up J1
 have h_16 := HP_blkView h_15
 have hbl_17 : ∀ b ∈ sblks [(.slice (some ⟨b_1, 0, none⟩) 32 32)], ∃ e ∈ ((Ent.view (some ⟨b_10, 0, none⟩) [(.slice (some ⟨b_1, 0, none⟩) 32 32)] :: Ent.view (some ⟨b_1, 0, none⟩) (val.map vu8) :: Ent.blk b_4 .nw 23 [(32, (List.replicate 32 (0 : UInt8)).map vu8)] :: Ent.blk ob .nw 118 [(1, [(.bool id)]), (32, ms.map vu8), (1, [(.slice da dn dc)]), (1, [(vi ((u : Nat) : Int))]), (1, [(.map (some mp))]), (1, [(.slice la lg.length lc)])] :: Ent.row la lg.length lc 96 67 lx :: Ent.obj mp .nw (.map (mArr lg) lg.length) :: Ent.pin (sblks lx) (fun w => Lgs w lx lg) :: Ent.view da (df.map vu8) :: L) : List Ent), e.mut = false ∧ b ∈ e.blocks := by
  intro b hb
  rcases List.mem_append.1 hb with hb | hb
  ·exact ⟨_, M1, rfl, sblk_in_view hvl b hb⟩
  cases hb
 have h_18 := HP_within (e' := .pin (sblks [(.slice (some ⟨b_1, 0, none⟩) 32 32)]) (fun w => Sls w [(.slice (some ⟨b_1, 0, none⟩) 32 32)] [val])) h_16 (Sls.pin (Sls.cons hvl (by decide) (viewV (h_16.ok _ M1)) Sls.nil)) rfl rfl hbl_17
 have h_25 := ((((((h_18.up J1).up J1).up J8).up J8).up J8).up J8).up J8
 have h32_w_29 := Lgs.ok32 (h_25.ok _ M3).1
 refine WL.call Tryz.call58 rfl rfl (c_oDigest id ob mp ms df hms da dn dc u hdf la lc lx lg hu hlg (some ⟨b_10, 0, none⟩) 1 1 [(.slice (some ⟨b_1, 0, none⟩) 32 32)] [val] rfl 1 (by omega) (by simp only [List.flatten_cons, List.flatten_nil, List.length_append, List.length_nil]; omega) (by omega) _ h_25) rfl ?_
 rintro _ w_29 ⟨la_26, lc_27, lx_28, rfl, h_30⟩
 refine qV rfl (R.extract rfl rfl) (qV rfl (R.extract rfl rfl) ?_)
 refine WL.storeA (b := b_4) (off := 0) [] [(32, (List.replicate 32 (0 : UInt8)).map vu8)] [(32, (anD id df dn u lg (1, (List.replicate 32 (0 : UInt8)), 1, [val].flatten)).map vu8)] [] (ys := (anD id df dn u lg (1, (List.replicate 32 (0 : UInt8)), 1, [val].flatten)).map vu8) h_30 rfl rfl Tryz.sizeOf23 Y8 (by decide) rfl rfl rfl rfl rfl rfl (SsOk.cons (SOk.u8 (anD_len hdf h32_w_29)) SsOk.nil) (fun w_31 h_32 => ?_)
 refine qA (vi 0) rfl rfl ?_
 refine WL.nil (thn_n (WP.ret ?_))
 refine ret_of Tryz.results25 (RV.cell rfl (h_32.loadA (cs := (anD id df dn u lg (1, (List.replicate 32 (0 : UInt8)), 1, [val].flatten)).map vu8) Tryz.isAgg23 Tryz.sizeOf23 M8 rfl rfl) (RV.tmp (v := (vi 0)) rfl RV.nil)) ?_
 have h_45 := ((((((((((((h_32.up J5).drop rfl).up J5).drop rfl).up J5).drop rfl).up J5).drop rfl).up J4).up J4).up J4).up J4).up J4
 exact ⟨_, _, _, rfl, h_45⟩

theorem c_Data_big (id : Bool) (ob mp : Nat) (ms : List UInt8) (hms : ms.length = 32) (da : Option Addr) (dn dc u : Nat) (la : Option Addr) (ln lc : Nat) (md gr : List UInt8) (hmd : md.length = 32) (hgr : gr.length = 128) (pg : Int) (h : 128 ≤ pg) (w : World) (hcb : (Ent.blk ob .ro 118 [(1, [(.bool id)]), (32, ms.map vu8), (1, [(.slice da dn dc)]), (1, [(vi ((u : Nat) : Int))]), (1, [(.map (some mp))]), (1, [(.slice la ln lc)])]).ok w.heap.size w) :
  Cs Tryz.prog 28 [(.pointer (some ⟨ob, 0, none⟩)), (.agg ⟨md.map vu8⟩), (vi pg), (.agg ⟨gr.map vu8⟩)].toArray w (fun v w1 => v = (.tuple [(.agg ⟨(List.replicate 32 (0 : UInt8)).map vu8⟩), (vi 2)].toArray) ∧ Chg w w1 []) := by
 refine Cs.of (n := 39) (args := [(pO ob 0), (.agg ⟨md.map vu8⟩), (vi pg), (.agg ⟨gr.map vu8⟩)]) Tryz.func28 rfl rfl rfl ?_
 have h_0 := HP.init w
 have h_00 := h_0.old hcb (fun f hf => by cases hf)
 refine WP.seq (WP.reg ?_)
 refine WL.box (v := (.agg ⟨md.map vu8⟩)) (segs := [(32, md.map vu8)]) h_00 rfl rfl (SsOk.cons (SOk.u8 hmd) SsOk.nil) rfl (fun b_1 w_2 h_3 => ?_)
 refine WL.box (v := (.agg ⟨gr.map vu8⟩)) (segs := [(128, gr.map vu8)]) h_3 rfl rfl (SsOk.cons (SOk.u8 hgr) SsOk.nil) rfl (fun b_4 w_5 h_6 => ?_)
 refine WL.alloc (segs := [(32, (List.replicate 32 (0 : UInt8)).map vu8)]) h_6 (zv Tryz.typeInfo23 rfl) rfl (SsOk.cons (SOk.u8 lr) SsOk.nil) rfl (fun b_7 w_8 h_9 => ?_)
 refine qA (vi 0) rfl rfl ?_
 refine WL.nil (thn_n (WP.seq (WP.block (WP.seq (WP.reg ?_)))))
 refine qM (pO ob 0) rfl rfl ?_
 refine WL.call Tryz.call72 rfl rfl (c_mth id ob mp ms hms da dn dc u la ln lc _ (h_9.argR M3)) rfl ?_
 rintro _ w_11 ⟨rfl, hc_10⟩
 have h_12 := h_9.same hc_10
 refine qV rfl (R.not (b := true) rfl) (qA (.bool false) rfl rfl ?_)
 refine WL.nil (thn_n ?_)
 refine WP.condF rfl ?_
 refine WP.seq (WP.reg ?_)
 refine qM (vi pg) rfl rfl (qV rfl (R.bin rfl rfl (bi_lss (r := decide ((pg : Int) < 0)) rfl)) (qM (.bool (decide ((pg : Int) < 0))) rfl rfl ?_))
 refine WL.want rfl (congrArg Value.bool (decide_eq_false (by omega))) ?_
 refine qM (vi pg) rfl rfl ?_
 refine WL.want rfl (congrArg Value.bool (decide_eq_false (by omega))) ?_
 refine qV rfl (R.bin rfl rfl (bi_geq (r := decide ((pg : Int) ≥ 128)) rfl)) (qV rfl (R.pickF (v := (.bool (decide ((pg : Int) ≥ 128)))) (congrArg Value.bool (decide_eq_false (by omega))) rfl) (qA (.bool (decide ((pg : Int) ≥ 128))) rfl rfl ?_))
 refine WL.nil (thn_n ?_)
 refine WP.condT (congrArg Value.bool (decide_eq_true (by omega))) ?_
 refine WP.seq (WP.reg ?_)
 refine qV rfl (R.buildA (vs := []) (cs := (List.replicate 32 (0 : UInt8)).map vu8) Tryz.underlying23 Tryz.sizeOf5 (zv Tryz.typeInfo23 rfl) rfl rfl) ?_
 refine WL.storeA (b := b_7) (off := 0) [] [(32, (List.replicate 32 (0 : UInt8)).map vu8)] [(32, (List.replicate 32 (0 : UInt8)).map vu8)] [] (ys := (List.replicate 32 (0 : UInt8)).map vu8) h_12 rfl rfl Tryz.sizeOf23 At.h (by decide) rfl rfl rfl rfl rfl rfl (SsOk.cons (SOk.u8 lr) SsOk.nil) (fun w_13 h_14 => ?_)
 refine qA (vi 2) rfl rfl ?_
 refine WL.nil (thn_n (WP.ret (inb_r (thn_r ?_))))
 refine ret_of Tryz.results28 (RV.cell rfl (h_14.loadA (cs := (List.replicate 32 (0 : UInt8)).map vu8) Tryz.isAgg23 Tryz.sizeOf23 M0 rfl rfl) (RV.tmp (v := (vi 2)) rfl RV.nil)) ?_
 exact ⟨rfl, h_14.chgS⟩

theorem c_Data {w00 : World} {L : List Ent} (id : Bool) (ob mp : Nat) (ms df : List UInt8) (hms : ms.length = 32) (da : Option Addr) (dn dc u : Nat) (hdf : df.length = 32 * dn) (la : Option Addr) (lc : Nat) (lx : List Value) (lg : Lg) (hu : u ≤ 1000000) (hlg : lg.length ≤ 1000000) (md gr : List UInt8) (hmd : md.length = 32) (hgr : gr.length = 128) (pg : Nat) (h : pg < 128) (w : World) (h_0 : HP w00 w (Ent.blk ob .nw 118 [(1, [(.bool id)]), (32, ms.map vu8), (1, [(.slice da dn dc)]), (1, [(vi ((u : Nat) : Int))]), (1, [(.map (some mp))]), (1, [(.slice la lg.length lc)])] :: Ent.row la lg.length lc 96 67 lx :: Ent.obj mp .nw (.map (mArr lg) lg.length) :: Ent.pin (sblks lx) (fun w => Lgs w lx lg) :: Ent.view da (df.map vu8) :: L)) :
  Cs Tryz.prog 28 [(.pointer (some ⟨ob, 0, none⟩)), (.agg ⟨md.map vu8⟩), (vi ((pg : Nat) : Int)), (.agg ⟨gr.map vu8⟩)].toArray w (fun v w1 => ∃ la' lc' lx', v = (.tuple [(.agg ⟨(anD id df dn u lg (1, (List.replicate 32 (0 : UInt8)), 2, [md, leN 8 (UInt64.ofNat pg).toNat, gr].flatten)).map vu8⟩), (vi 0)].toArray) ∧ HP w00 w1 (Ent.blk ob .nw 118 [(1, [(.bool id)]), (32, ms.map vu8), (1, [(.slice da dn dc)]), (1, [(vi (((anU id u lg (1, (List.replicate 32 (0 : UInt8)), 2, [md, leN 8 (UInt64.ofNat pg).toNat, gr].flatten)) : Nat) : Int))]), (1, [(.map (some mp))]), (1, [(.slice la' ((anL id df dn u lg (1, (List.replicate 32 (0 : UInt8)), 2, [md, leN 8 (UInt64.ofNat pg).toNat, gr].flatten)).length) lc')])] :: Ent.row la' ((anL id df dn u lg (1, (List.replicate 32 (0 : UInt8)), 2, [md, leN 8 (UInt64.ofNat pg).toNat, gr].flatten)).length) lc' 96 67 lx' :: Ent.obj mp .nw (.map (mArr (anL id df dn u lg (1, (List.replicate 32 (0 : UInt8)), 2, [md, leN 8 (UInt64.ofNat pg).toNat, gr].flatten))) ((anL id df dn u lg (1, (List.replicate 32 (0 : UInt8)), 2, [md, leN 8 (UInt64.ofNat pg).toNat, gr].flatten)).length)) :: Ent.pin (sblks lx') (fun w => Lgs w lx' (anL id df dn u lg (1, (List.replicate 32 (0 : UInt8)), 2, [md, leN 8 (UInt64.ofNat pg).toNat, gr].flatten))) :: Ent.view da (df.map vu8) :: L)) := by
 refine Cs.of (n := 39) (args := [(pO ob 0), (.agg ⟨md.map vu8⟩), (vn pg), (.agg ⟨gr.map vu8⟩)]) Tryz.func28 rfl rfl rfl ?_
 refine WP.seq (WP.reg ?_)
 refine WL.box (v := (.agg ⟨md.map vu8⟩)) (segs := [(32, md.map vu8)]) h_0 rfl rfl (SsOk.cons (SOk.u8 hmd) SsOk.nil) rfl (fun b_1 w_2 h_3 => ?_)
 refine WL.box (v := (.agg ⟨gr.map vu8⟩)) (segs := [(128, gr.map vu8)]) h_3 rfl rfl (SsOk.cons (SOk.u8 hgr) SsOk.nil) rfl (fun b_4 w_5 h_6 => ?_)
 refine WL.alloc (segs := [(32, (List.replicate 32 (0 : UInt8)).map vu8)]) h_6 (zv Tryz.typeInfo23 rfl) rfl (SsOk.cons (SOk.u8 lr) SsOk.nil) rfl (fun b_7 w_8 h_9 => ?_)
 refine qA (vi 0) rfl rfl ?_
 refine WL.nil (thn_n (WP.seq (WP.block (WP.seq (WP.reg ?_)))))
 refine qM (pO ob 0) rfl rfl ?_
 refine WL.call Tryz.call72 rfl rfl (c_mth id ob mp ms hms da dn dc u la lg.length lc _ (h_9.argR M3)) rfl ?_
 rintro _ w_11 ⟨rfl, hc_10⟩
 have h_12 := h_9.same hc_10
 refine qV rfl (R.not (b := true) rfl) (qA (.bool false) rfl rfl ?_)
 refine WL.nil (thn_n ?_)
 refine WP.condF rfl ?_
 refine WP.seq (WP.reg ?_)
 refine qM (vn pg) rfl rfl (qV rfl (R.bin rfl rfl (bi_lss (r := decide ((((pg : Nat) : Int) : Int) < 0)) rfl)) (qM (.bool (decide ((((pg : Nat) : Int) : Int) < 0))) rfl rfl ?_))
 refine WL.want rfl (congrArg Value.bool (decide_eq_false (by omega))) ?_
 refine qM (vn pg) rfl rfl ?_
 refine WL.want rfl (congrArg Value.bool (decide_eq_false (by omega))) ?_
 refine qV rfl (R.bin rfl rfl (bi_geq (r := decide ((((pg : Nat) : Int) : Int) ≥ 128)) rfl)) (qV rfl (R.pickF (v := (.bool (decide ((((pg : Nat) : Int) : Int) ≥ 128)))) (congrArg Value.bool (decide_eq_false (by omega))) rfl) (qA (.bool (decide ((((pg : Nat) : Int) : Int) ≥ 128))) rfl rfl ?_))
 refine WL.nil (thn_n ?_)
 refine WP.condF (congrArg Value.bool (decide_eq_false (by omega))) ?_
 refine WP.skip (inb_n (thn_n (WP.seq (WP.reg ?_))))
 refine qM (vn pg) rfl rfl (qV rfl (R.conv (b := ((UInt64.ofNat pg) : UInt64).toNat) rfl Tryz.underlying3 Tryz.underlying27 (w64_nat pg)) ?_)
 refine WL.call Tryz.call73 rfl rfl (c_Put_b (UInt64.ofNat pg) 8 rfl _) rfl ?_
 rintro _ w_15 ⟨a_13, cap_14, rfl, hc_16, ho_17⟩
 have h_18 := h_12.gotRow hc_16 ho_17
 refine qM (.tuple [(.slice a_13 8 cap_14), (vi 0)].toArray) rfl rfl (qV rfl (R.extract rfl rfl) (qV rfl (R.extract rfl rfl) (qA (.slice a_13 8 cap_14) rfl rfl (qA (vi 0) rfl rfl ?_))))
 refine WL.nil (thn_n (WP.seq ?_))
 refine WP.drawT (SL w00.heap.size []) (.q 0 (.q 1 (.q 2 (.q 3 (.s 4 (.s 5 (.q 6 (.q 7 (.s 8 (.q 9 .nil)))))))))) (by kernel_rfl) (by kernel_rfl) rfl (by kernel_rfl) (fun w_19 hc_21 => (SL.nil _ _)) (fun w_19 hc_21 => ?_)
 have h_20 := h_18.same hc_21
 refine qT rfl rfl (fun wq hS => R.move (v := (pO ob 0)) rfl) ?_
 refine qT rfl rfl (fun wq hS => R.sliceA (b := b_1) (off := 0) (off' := 0) (l := 0) (h := 32) rfl EvB.dflt EvB.dflt (by decide) (by decide) Tryz.underlying23 Tryz.sizeOf5 rfl) ?_
 refine qT rfl rfl (fun wq hS => R.move (v := (.slice a_13 8 cap_14)) rfl) ?_
 refine qT rfl rfl (fun wq hS => R.sliceA (b := b_4) (off := 0) (off' := 0) (l := 0) (h := 128) rfl EvB.dflt EvB.dflt (by decide) (by decide) Tryz.underlying29 Tryz.sizeOf5 rfl) ?_
 refine WT.s (oN rfl ?_)
 refine WL.buildSl (vs := [(0, (.slice (some ⟨b_1, 0, none⟩) 32 32)), (1, (.slice a_13 8 cap_14)), (2, (.slice (some ⟨b_4, 0, none⟩) 128 128))]) (cs := [(.slice (some ⟨b_1, 0, none⟩) 32 32), (.slice a_13 8 cap_14), (.slice (some ⟨b_4, 0, none⟩) 128 128)]) h_20 Tryz.underlying128 Tryz.sizeOf88 (zv Tryz.typeInfo88 rfl) rfl rfl (by kernel_rfl) rfl (by simp [Value.oneCell']) rfl rfl (fun b_22 w_23 h_24 => ?_)
 refine WL.nil ?_
 refine ⟨(SL.nil _ _), ?_⟩
 refine WT.s (oN rfl ?_)
 have hcp_25 := (h_24.own M1).2.2.1
 have h_26 := h_24.up J4
 have h_27 := HP_blkView h_26
 have h_28 := h_27.up J2
 have h_29 := h_28.rowView
 have h_30 := h_29.up J4
 have h_31 := HP_blkView h_30
 have h_32 := h_31.up J3
 have h_33 := HP_blkView h_32
 have hbl_34 : ∀ b ∈ sblks [(.slice (some ⟨b_1, 0, none⟩) 32 32), (.slice a_13 8 cap_14), (.slice (some ⟨b_4, 0, none⟩) 128 128)], ∃ e ∈ ((Ent.view (some ⟨b_22, 0, none⟩) [(.slice (some ⟨b_1, 0, none⟩) 32 32), (.slice a_13 8 cap_14), (.slice (some ⟨b_4, 0, none⟩) 128 128)] :: Ent.view (some ⟨b_4, 0, none⟩) (gr.map vu8) :: Ent.view a_13 ((leN 8 (UInt64.ofNat pg).toNat).map vu8) :: Ent.view (some ⟨b_1, 0, none⟩) (md.map vu8) :: Ent.blk b_7 .nw 23 [(32, (List.replicate 32 (0 : UInt8)).map vu8)] :: Ent.blk ob .nw 118 [(1, [(.bool id)]), (32, ms.map vu8), (1, [(.slice da dn dc)]), (1, [(vi ((u : Nat) : Int))]), (1, [(.map (some mp))]), (1, [(.slice la lg.length lc)])] :: Ent.row la lg.length lc 96 67 lx :: Ent.obj mp .nw (.map (mArr lg) lg.length) :: Ent.pin (sblks lx) (fun w => Lgs w lx lg) :: Ent.view da (df.map vu8) :: L) : List Ent), e.mut = false ∧ b ∈ e.blocks := by
  intro b hb
  rcases List.mem_append.1 hb with hb | hb
  ·exact ⟨_, M3, rfl, sblk_in_view hmd b hb⟩
  rcases List.mem_append.1 hb with hb | hb
  ·exact ⟨_, M2, rfl, sblk_in_view (leN_len ..) b hb⟩
  rcases List.mem_append.1 hb with hb | hb
  ·exact ⟨_, M1, rfl, sblk_in_view hgr b hb⟩
  cases hb
 have h_35 := HP_within (e' := .pin (sblks [(.slice (some ⟨b_1, 0, none⟩) 32 32), (.slice a_13 8 cap_14), (.slice (some ⟨b_4, 0, none⟩) 128 128)]) (fun w => Sls w [(.slice (some ⟨b_1, 0, none⟩) 32 32), (.slice a_13 8 cap_14), (.slice (some ⟨b_4, 0, none⟩) 128 128)] [md, leN 8 (UInt64.ofNat pg).toNat, gr])) h_33 (Sls.pin (Sls.cons hmd (by decide) (viewV (h_33.ok _ M3)) (Sls.cons (leN_len ..) hcp_25 (viewV (h_33.ok _ M2)) (Sls.cons hgr (by decide) (viewV (h_33.ok _ M1)) Sls.nil)))) rfl rfl hbl_34
 have h_42 := ((((((h_35.up J1).up J1).up J10).up J10).up J10).up J10).up J10
 have h32_w_46 := Lgs.ok32 (h_42.ok _ M3).1
 refine WL.call Tryz.call58 rfl rfl (c_oDigest id ob mp ms df hms da dn dc u hdf la lc lx lg hu hlg (some ⟨b_22, 0, none⟩) 3 3 [(.slice (some ⟨b_1, 0, none⟩) 32 32), (.slice a_13 8 cap_14), (.slice (some ⟨b_4, 0, none⟩) 128 128)] [md, leN 8 (UInt64.ofNat pg).toNat, gr] rfl 2 (by omega) (by simp only [List.flatten_cons, List.flatten_nil, List.length_append, List.length_nil, leN_len]; omega) (by omega) _ h_42) rfl ?_
 rintro _ w_46 ⟨la_43, lc_44, lx_45, rfl, h_47⟩
 refine WL.nil ?_
 refine ⟨(SL.nil _ _), ?_⟩
 refine qT rfl rfl (fun wq hS => R.extract rfl rfl) ?_
 refine qT rfl rfl (fun wq hS => R.extract rfl rfl) ?_
 refine WT.s (oN rfl ?_)
 refine WL.storeA (b := b_7) (off := 0) [] [(32, (List.replicate 32 (0 : UInt8)).map vu8)] [(32, (anD id df dn u lg (1, (List.replicate 32 (0 : UInt8)), 2, [md, leN 8 (UInt64.ofNat pg).toNat, gr].flatten)).map vu8)] [] (ys := (anD id df dn u lg (1, (List.replicate 32 (0 : UInt8)), 2, [md, leN 8 (UInt64.ofNat pg).toNat, gr].flatten)).map vu8) h_47 rfl rfl Tryz.sizeOf23 Y10 (by decide) rfl rfl rfl rfl rfl rfl (SsOk.cons (SOk.u8 (anD_len hdf h32_w_46)) SsOk.nil) (fun w_48 h_49 => ?_)
 refine WL.nil ?_
 refine ⟨(SL.nil _ _), ?_⟩
 refine qT rfl rfl (fun wq hS => R.assign (v := (vi 0)) rfl) ?_
 refine WT.nil (thn_n (WP.ret ?_))
 refine ret_of Tryz.results28 (RV.cell rfl (h_49.loadA (cs := (anD id df dn u lg (1, (List.replicate 32 (0 : UInt8)), 2, [md, leN 8 (UInt64.ofNat pg).toNat, gr].flatten)).map vu8) Tryz.isAgg23 Tryz.sizeOf23 M10 rfl rfl) (RV.tmp (v := (vi 0)) rfl RV.nil)) ?_
 have h_66 := ((((((((((((((((h_49.up J5).drop rfl).up J5).drop rfl).up J5).drop rfl).up J5).drop rfl).up J5).drop rfl).up J5).drop rfl).up J4).up J4).up J4).up J4).up J4
 exact ⟨_, _, _, rfl, h_66⟩

theorem c_bare_r2  (w : World) :
  Cs Tryz.prog 78 [(.agg ⟨flat [(1, [(vi 2)]), (32, (List.replicate 32 (0 : UInt8)).map vu8), (1, [(vi 0)]), (128, (List.replicate 128 (0 : UInt8)).map vu8), (1, [(vu64 0)]), (8, (List.replicate 8 (0 : UInt64)).map vu64), (1, [(.bool false)])]⟩)].toArray w (fun v w1 => v = (.agg ⟨flat [(1, [(vi 2)]), (32, (List.replicate 32 (0 : UInt8)).map vu8), (1, [(vi 0)]), (128, (List.replicate 128 (0 : UInt8)).map vu8), (1, [(vu64 0)]), (8, (List.replicate 8 (0 : UInt64)).map vu64), (1, [(.bool false)])]⟩) ∧ Chg w w1 []) := by
 refine Cs.of (n := 28) (args := [(.agg ⟨flat [(1, [(vi 2)]), (32, (List.replicate 32 (0 : UInt8)).map vu8), (1, [(vi 0)]), (128, (List.replicate 128 (0 : UInt8)).map vu8), (1, [(vu64 0)]), (8, (List.replicate 8 (0 : UInt64)).map vu64), (1, [(.bool false)])]⟩)]) Tryz.func78 rfl rfl rfl ?_
 have h_0 := HP.init w
 refine WP.seq (WP.reg ?_)
 refine WL.box (v := (.agg ⟨flat [(1, [(vi 2)]), (32, (List.replicate 32 (0 : UInt8)).map vu8), (1, [(vi 0)]), (128, (List.replicate 128 (0 : UInt8)).map vu8), (1, [(vu64 0)]), (8, (List.replicate 8 (0 : UInt64)).map vu64), (1, [(.bool false)])]⟩)) (segs := [(1, [(vi 2)]), (32, (List.replicate 32 (0 : UInt8)).map vu8), (1, [(vi 0)]), (128, (List.replicate 128 (0 : UInt8)).map vu8), (1, [(vu64 0)]), (8, (List.replicate 8 (0 : UInt64)).map vu64), (1, [(.bool false)])]) h_0 rfl rfl (SsOk.cons (SOk.v rfl) (SsOk.cons (SOk.u8 lr) (SsOk.cons (SOk.v rfl) (SsOk.cons (SOk.u8 lr) (SsOk.cons (SOk.v rfl) (SsOk.cons (SOk.u64 lr) (SsOk.cons (SOk.v rfl) SsOk.nil))))))) rfl (fun b_1 w_2 h_3 => ?_)
 refine WL.alloc (segs := [(1, [(vi 0)]), (32, (List.replicate 32 (0 : UInt8)).map vu8), (1, [(vi 0)]), (128, (List.replicate 128 (0 : UInt8)).map vu8), (1, [(vu64 0)]), (8, (List.replicate 8 (0 : UInt64)).map vu64), (1, [(.bool false)])]) h_3 (zv Tryz.typeInfo70 rfl) rfl (SsOk.cons (SOk.v rfl) (SsOk.cons (SOk.u8 lr) (SsOk.cons (SOk.v rfl) (SsOk.cons (SOk.u8 lr) (SsOk.cons (SOk.v rfl) (SsOk.cons (SOk.u64 lr) (SsOk.cons (SOk.v rfl) SsOk.nil))))))) rfl (fun b_4 w_5 h_6 => ?_)
 refine WL.nil (thn_n (WP.seq (WP.reg ?_)))
 refine qV rfl (R.fieldAddr (off' := 0) rfl Tryz.underlying70 rfl Tryz.sizeOf68 rfl rfl) (qV rfl (R.load1 rfl Tryz.isAgg68 (h_6.ok _ M1) Sg.h) (qV rfl (R.buildS (pl := [(0, 1), (1, 32), (33, 1), (34, 128), (162, 10)]) (zs := [(1, [(vi 0)]), (32, (List.replicate 32 (0 : UInt8)).map vu8), (1, [(vi 0)]), (128, (List.replicate 128 (0 : UInt8)).map vu8), (1, [(vu64 0)]), (8, (List.replicate 8 (0 : UInt64)).map vu64), (1, [(.bool false)])]) (vs := [(0, (vi 2))]) (out := [(1, [(vi 2)]), (32, (List.replicate 32 (0 : UInt8)).map vu8), (1, [(vi 0)]), (128, (List.replicate 128 (0 : UInt8)).map vu8), (1, [(vu64 0)]), (8, (List.replicate 8 (0 : UInt64)).map vu64), (1, [(.bool false)])]) (cs := flat [(1, [(vi 2)]), (32, (List.replicate 32 (0 : UInt8)).map vu8), (1, [(vi 0)]), (128, (List.replicate 128 (0 : UInt8)).map vu8), (1, [(vu64 0)]), (8, (List.replicate 8 (0 : UInt64)).map vu64), (1, [(.bool false)])]) Tryz.underlying70 (zv Tryz.typeInfo70 rfl) rfl (SsOk.cons (SOk.v rfl) (SsOk.cons (SOk.u8 lr) (SsOk.cons (SOk.v rfl) (SsOk.cons (SOk.u8 lr) (SsOk.cons (SOk.v rfl) (SsOk.cons (SOk.u64 lr) (SsOk.cons (SOk.v rfl) SsOk.nil))))))) (pl70 _ Tryz.underlying70) rfl (FillR.cons [] [(1, [(vi 0)])] [(1, [(vi 2)])] [(32, (List.replicate 32 (0 : UInt8)).map vu8), (1, [(vi 0)]), (128, (List.replicate 128 (0 : UInt8)).map vu8), (1, [(vu64 0)]), (8, (List.replicate 8 (0 : UInt64)).map vu64), (1, [(.bool false)])] rfl rfl rfl rfl (SsOk.cons (SOk.v rfl) SsOk.nil) rfl rfl rfl FillR.nil) rfl) ?_))
 refine WL.alloc (segs := [(1, [(vi 0)]), (32, (List.replicate 32 (0 : UInt8)).map vu8), (1, [(vi 0)]), (128, (List.replicate 128 (0 : UInt8)).map vu8), (1, [(vu64 0)]), (8, (List.replicate 8 (0 : UInt64)).map vu64), (1, [(.bool false)])]) h_6 (zv Tryz.typeInfo70 rfl) rfl (SsOk.cons (SOk.v rfl) (SsOk.cons (SOk.u8 lr) (SsOk.cons (SOk.v rfl) (SsOk.cons (SOk.u8 lr) (SsOk.cons (SOk.v rfl) (SsOk.cons (SOk.u64 lr) (SsOk.cons (SOk.v rfl) SsOk.nil))))))) rfl (fun b_8 w_9 h_10 => ?_)
 refine WL.storeA (b := b_8) (off := 0) [] [(1, [(vi 0)]), (32, (List.replicate 32 (0 : UInt8)).map vu8), (1, [(vi 0)]), (128, (List.replicate 128 (0 : UInt8)).map vu8), (1, [(vu64 0)]), (8, (List.replicate 8 (0 : UInt64)).map vu64), (1, [(.bool false)])] [(1, [(vi 2)]), (32, (List.replicate 32 (0 : UInt8)).map vu8), (1, [(vi 0)]), (128, (List.replicate 128 (0 : UInt8)).map vu8), (1, [(vu64 0)]), (8, (List.replicate 8 (0 : UInt64)).map vu64), (1, [(.bool false)])] [] (ys := flat [(1, [(vi 2)]), (32, (List.replicate 32 (0 : UInt8)).map vu8), (1, [(vi 0)]), (128, (List.replicate 128 (0 : UInt8)).map vu8), (1, [(vu64 0)]), (8, (List.replicate 8 (0 : UInt64)).map vu64), (1, [(.bool false)])]) h_10 rfl rfl Tryz.sizeOf70 At.h (by decide) rfl rfl rfl rfl rfl rfl (SsOk.cons (SOk.v rfl) (SsOk.cons (SOk.u8 lr) (SsOk.cons (SOk.v rfl) (SsOk.cons (SOk.u8 lr) (SsOk.cons (SOk.v rfl) (SsOk.cons (SOk.u64 lr) (SsOk.cons (SOk.v rfl) SsOk.nil))))))) (fun w_11 h_12 => ?_)
 refine WL.nil (thn_n (WP.seq (WP.seq (WP.reg ?_))))
 refine qV rfl (R.fieldAddr (off' := 0) rfl Tryz.underlying70 rfl Tryz.sizeOf68 rfl rfl) (qV rfl (R.load1 rfl Tryz.isAgg68 (h_12.ok _ M2) Sg.h) ?_)
 refine WL.nil (thn_n (WP.block (WP.seq (WP.reg ?_))))
 refine qV rfl (R.bin rfl rfl (bi_eql (r := false) (by decide))) (qA (.bool false) rfl rfl ?_)
 refine WL.nil (thn_n ?_)
 refine WP.condF rfl ?_
 refine WP.seq (WP.reg ?_)
 refine qV rfl (R.bin rfl rfl (bi_eql (r := true) (by decide))) (qA (.bool true) rfl rfl ?_)
 refine WL.nil (thn_n ?_)
 refine WP.condT rfl ?_
 refine WP.drawT (SL w.heap.size [.blk b_4 .nw 70 [(1, [(vi 0)]), (32, (List.replicate 32 (0 : UInt8)).map vu8), (1, [(vi 0)]), (128, (List.replicate 128 (0 : UInt8)).map vu8), (1, [(vu64 0)]), (8, (List.replicate 8 (0 : UInt64)).map vu64), (1, [(.bool false)])], .blk b_1 .nw 70 [(1, [(vi 2)]), (32, (List.replicate 32 (0 : UInt8)).map vu8), (1, [(vi 0)]), (128, (List.replicate 128 (0 : UInt8)).map vu8), (1, [(vu64 0)]), (8, (List.replicate 8 (0 : UInt64)).map vu64), (1, [(.bool false)])]]) (.q 0 (.q 1 (.q 2 (.q 3 (.q 4 (.s 5 (.q 6 (.s 7 .nil)))))))) (by kernel_rfl) (by kernel_rfl) rfl (by kernel_rfl) (fun w_13 hc_15 => (SL.cons ((h_12.same hc_15).ok _ M1) (SL.cons ((h_12.same hc_15).ok _ M2) (SL.nil _ _)))) (fun w_13 hc_15 => ?_)
 have h_14 := h_12.same hc_15
 refine qT rfl rfl (fun wq hS => R.fieldAddr (off' := 33) rfl Tryz.underlying70 rfl Tryz.sizeOf3 rfl rfl) ?_
 refine qT rfl rfl (fun wq hS => R.load1 rfl Tryz.isAgg3 (hS _ M1) (Sg.t rfl (Sg.t rfl Sg.h))) ?_
 refine qT rfl rfl (fun wq hS => R.fieldAddr (off' := 34) rfl Tryz.underlying70 rfl Tryz.sizeOf29 rfl rfl) ?_
 refine qT rfl rfl (fun wq hS => R.loadA [(1, [(vi 2)]), (32, (List.replicate 32 (0 : UInt8)).map vu8), (1, [(vi 0)])] [(128, (List.replicate 128 (0 : UInt8)).map vu8)] [(1, [(vu64 0)]), (8, (List.replicate 8 (0 : UInt64)).map vu64), (1, [(.bool false)])] (cs := (List.replicate 128 (0 : UInt8)).map vu8) rfl Tryz.isAgg29 Tryz.sizeOf29 (hS _ M1) rfl rfl rfl rfl) ?_
 refine qT rfl rfl (fun wq hS => R.fieldAddr (off' := 33) rfl Tryz.underlying70 rfl Tryz.sizeOf3 rfl rfl) ?_
 refine WT.s (oN rfl ?_)
 refine WL.store1 h_14 rfl rfl Tryz.sizeOf3 rfl At.h (by decide) (Sg.t rfl (Sg.t rfl Sg.h)) (fun w_16 h_17 => ?_)
 refine WL.nil ?_
 refine ⟨(N1_2 h_17.ok), ?_⟩
 refine qT rfl rfl (fun wq hS => R.fieldAddr (off' := 34) rfl Tryz.underlying70 rfl Tryz.sizeOf29 rfl rfl) ?_
 refine WT.s (oN rfl ?_)
 refine WL.storeA (b := b_8) (off := 34) [(1, [(vi 2)]), (32, (List.replicate 32 (0 : UInt8)).map vu8), (1, [(vi 0)])] [(128, (List.replicate 128 (0 : UInt8)).map vu8)] [(128, (List.replicate 128 (0 : UInt8)).map vu8)] [(1, [(vu64 0)]), (8, (List.replicate 8 (0 : UInt64)).map vu64), (1, [(.bool false)])] (ys := (List.replicate 128 (0 : UInt8)).map vu8) h_17 rfl rfl Tryz.sizeOf29 At.h (by decide) rfl rfl rfl rfl rfl rfl (SsOk.cons (SOk.u8 lr) SsOk.nil) (fun w_18 h_19 => ?_)
 refine WL.nil ?_
 refine ⟨(N1_2 h_19.ok), ?_⟩
 refine WT.nil (inb_n (thn_n (WP.seq (WP.reg ?_))))
 refine qV rfl (R.loadA [] [(1, [(vi 2)]), (32, (List.replicate 32 (0 : UInt8)).map vu8), (1, [(vi 0)]), (128, (List.replicate 128 (0 : UInt8)).map vu8), (1, [(vu64 0)]), (8, (List.replicate 8 (0 : UInt64)).map vu64), (1, [(.bool false)])] [] (cs := flat [(1, [(vi 2)]), (32, (List.replicate 32 (0 : UInt8)).map vu8), (1, [(vi 0)]), (128, (List.replicate 128 (0 : UInt8)).map vu8), (1, [(vu64 0)]), (8, (List.replicate 8 (0 : UInt64)).map vu64), (1, [(.bool false)])]) rfl Tryz.isAgg70 Tryz.sizeOf70 (h_19.ok _ M0) rfl rfl rfl rfl) ?_
 refine WL.storeA (b := b_4) (off := 0) [] [(1, [(vi 0)]), (32, (List.replicate 32 (0 : UInt8)).map vu8), (1, [(vi 0)]), (128, (List.replicate 128 (0 : UInt8)).map vu8), (1, [(vu64 0)]), (8, (List.replicate 8 (0 : UInt64)).map vu64), (1, [(.bool false)])] [(1, [(vi 2)]), (32, (List.replicate 32 (0 : UInt8)).map vu8), (1, [(vi 0)]), (128, (List.replicate 128 (0 : UInt8)).map vu8), (1, [(vu64 0)]), (8, (List.replicate 8 (0 : UInt64)).map vu64), (1, [(.bool false)])] [] (ys := flat [(1, [(vi 2)]), (32, (List.replicate 32 (0 : UInt8)).map vu8), (1, [(vi 0)]), (128, (List.replicate 128 (0 : UInt8)).map vu8), (1, [(vu64 0)]), (8, (List.replicate 8 (0 : UInt64)).map vu64), (1, [(.bool false)])]) h_19 rfl rfl Tryz.sizeOf70 Y1 (by decide) rfl rfl rfl rfl rfl rfl (SsOk.cons (SOk.v rfl) (SsOk.cons (SOk.u8 lr) (SsOk.cons (SOk.v rfl) (SsOk.cons (SOk.u8 lr) (SsOk.cons (SOk.v rfl) (SsOk.cons (SOk.u64 lr) (SsOk.cons (SOk.v rfl) SsOk.nil))))))) (fun w_20 h_21 => ?_)
 refine WL.nil (thn_n (WP.ret ?_))
 refine ret_of Tryz.results78 (RV.cell rfl (h_21.loadA (cs := flat [(1, [(vi 2)]), (32, (List.replicate 32 (0 : UInt8)).map vu8), (1, [(vi 0)]), (128, (List.replicate 128 (0 : UInt8)).map vu8), (1, [(vu64 0)]), (8, (List.replicate 8 (0 : UInt64)).map vu64), (1, [(.bool false)])]) Tryz.isAgg70 Tryz.sizeOf70 M1 rfl rfl) RV.nil) ?_
 exact ⟨rfl, h_21.chgS⟩

theorem c_May_r2  (w : World) :
  Cs Tryz.prog 35 [(.agg ⟨flat [(1, [(vi 2)]), (32, (List.replicate 32 (0 : UInt8)).map vu8), (1, [(vi 0)]), (128, (List.replicate 128 (0 : UInt8)).map vu8), (1, [(vu64 0)]), (8, (List.replicate 8 (0 : UInt64)).map vu64), (1, [(.bool false)])]⟩)].toArray w (fun v w1 => v = (.bool true) ∧ Chg w w1 []) := by
 refine Cs.of (n := 34) (args := [(.agg ⟨flat [(1, [(vi 2)]), (32, (List.replicate 32 (0 : UInt8)).map vu8), (1, [(vi 0)]), (128, (List.replicate 128 (0 : UInt8)).map vu8), (1, [(vu64 0)]), (8, (List.replicate 8 (0 : UInt64)).map vu64), (1, [(.bool false)])]⟩)]) Tryz.func35 rfl rfl rfl ?_
 have h_0 := HP.init w
 refine WP.seq (WP.reg ?_)
 refine WL.box (v := (.agg ⟨flat [(1, [(vi 2)]), (32, (List.replicate 32 (0 : UInt8)).map vu8), (1, [(vi 0)]), (128, (List.replicate 128 (0 : UInt8)).map vu8), (1, [(vu64 0)]), (8, (List.replicate 8 (0 : UInt64)).map vu64), (1, [(.bool false)])]⟩)) (segs := [(1, [(vi 2)]), (32, (List.replicate 32 (0 : UInt8)).map vu8), (1, [(vi 0)]), (128, (List.replicate 128 (0 : UInt8)).map vu8), (1, [(vu64 0)]), (8, (List.replicate 8 (0 : UInt64)).map vu64), (1, [(.bool false)])]) h_0 rfl rfl (SsOk.cons (SOk.v rfl) (SsOk.cons (SOk.u8 lr) (SsOk.cons (SOk.v rfl) (SsOk.cons (SOk.u8 lr) (SsOk.cons (SOk.v rfl) (SsOk.cons (SOk.u64 lr) (SsOk.cons (SOk.v rfl) SsOk.nil))))))) rfl (fun b_1 w_2 h_3 => ?_)
 refine qA (.bool false) rfl rfl ?_
 refine WL.nil (thn_n (WP.seq (WP.reg ?_)))
 refine qV rfl (R.fieldAddr (off' := 0) rfl Tryz.underlying70 rfl Tryz.sizeOf68 rfl rfl) (qV rfl (R.load1 rfl Tryz.isAgg68 (h_3.ok _ M0) Sg.h) (qV rfl (R.bin rfl rfl (bi_geq (r := true) (by decide))) (qM (.bool true) rfl rfl ?_)))
 refine WL.want rfl rfl ?_
 refine qV rfl (R.fieldAddr (off' := 0) rfl Tryz.underlying70 rfl Tryz.sizeOf68 rfl rfl) ?_
 refine WL.want rfl rfl ?_
 refine qV rfl (R.load1 rfl Tryz.isAgg68 (h_3.ok _ M0) Sg.h) ?_
 refine WL.want rfl rfl ?_
 refine qV rfl (R.bin rfl rfl (bi_leq (r := true) (by decide))) (qV rfl (R.pickT (v := (.bool true)) rfl rfl) (qA (.bool true) rfl rfl ?_))
 refine WL.nil (thn_n (WP.seq ?_))
 refine WP.drawT (SL w.heap.size [.blk b_1 .nw 70 [(1, [(vi 2)]), (32, (List.replicate 32 (0 : UInt8)).map vu8), (1, [(vi 0)]), (128, (List.replicate 128 (0 : UInt8)).map vu8), (1, [(vu64 0)]), (8, (List.replicate 8 (0 : UInt64)).map vu64), (1, [(.bool false)])]]) (.q 0 (.q 1 (.q 2 (.q 3 (.s 4 (.q 5 (.q 6 (.q 7 (.q 8 (.q 9 (.q 10 (.q 11 (.q 12 (.q 13 (.q 14 (.q 15 (.q 16 (.q 17 (.q 18 (.q 19 (.s 20 (.q 21 (.q 22 .nil))))))))))))))))))))))) (by kernel_rfl) (by kernel_rfl) rfl (by kernel_rfl) (fun w_4 hc_6 => (SL.cons ((h_3.same hc_6).ok _ M0) (SL.nil _ _))) (fun w_4 hc_6 => ?_)
 have h_5 := h_3.same hc_6
 refine qT rfl rfl (fun wq hS => R.move (v := (.bool true)) rfl) ?_
 refine qT rfl rfl (fun wq hS => R.move (v := (.bool true)) rfl) ?_
 refine WT.q rfl (Wn.yes rfl rfl rfl) rfl rfl (fun wq hS => R.loadA [] [(1, [(vi 2)]), (32, (List.replicate 32 (0 : UInt8)).map vu8), (1, [(vi 0)]), (128, (List.replicate 128 (0 : UInt8)).map vu8), (1, [(vu64 0)]), (8, (List.replicate 8 (0 : UInt64)).map vu64), (1, [(.bool false)])] [] (cs := flat [(1, [(vi 2)]), (32, (List.replicate 32 (0 : UInt8)).map vu8), (1, [(vi 0)]), (128, (List.replicate 128 (0 : UInt8)).map vu8), (1, [(vu64 0)]), (8, (List.replicate 8 (0 : UInt64)).map vu64), (1, [(.bool false)])]) rfl Tryz.isAgg70 Tryz.sizeOf70 (hS _ M0) rfl rfl rfl rfl) ?_
 refine WT.q rfl (Wn.yes rfl rfl rfl) rfl rfl (fun wq hS => R.loadA [] [(1, [(vi 2)]), (32, (List.replicate 32 (0 : UInt8)).map vu8), (1, [(vi 0)]), (128, (List.replicate 128 (0 : UInt8)).map vu8), (1, [(vu64 0)]), (8, (List.replicate 8 (0 : UInt64)).map vu64), (1, [(.bool false)])] [] (cs := flat [(1, [(vi 2)]), (32, (List.replicate 32 (0 : UInt8)).map vu8), (1, [(vi 0)]), (128, (List.replicate 128 (0 : UInt8)).map vu8), (1, [(vu64 0)]), (8, (List.replicate 8 (0 : UInt64)).map vu64), (1, [(.bool false)])]) rfl Tryz.isAgg70 Tryz.sizeOf70 (hS _ M0) rfl rfl rfl rfl) ?_
 refine WT.s ?_
 refine Op1.one rfl (Wn.yes rfl rfl rfl) ?_
 refine WL.call Tryz.call78 rfl rfl (c_bare_r2  _ ) rfl ?_
 rintro _ w_8 ⟨rfl, hc_7⟩
 have h_9 := h_5.same hc_7
 refine WL.nil ?_
 refine ⟨(N0 h_9.ok), ?_⟩
 refine WT.q rfl (Wn.yes rfl rfl rfl) rfl rfl (fun wq hS => R.eqA (xs := flat [(1, [(vi 2)]), (32, (List.replicate 32 (0 : UInt8)).map vu8), (1, [(vi 0)]), (128, (List.replicate 128 (0 : UInt8)).map vu8), (1, [(vu64 0)]), (8, (List.replicate 8 (0 : UInt64)).map vu64), (1, [(.bool false)])]) (ys := flat [(1, [(vi 2)]), (32, (List.replicate 32 (0 : UInt8)).map vu8), (1, [(vi 0)]), (128, (List.replicate 128 (0 : UInt8)).map vu8), (1, [(vu64 0)]), (8, (List.replicate 8 (0 : UInt64)).map vu64), (1, [(.bool false)])]) (r := true) rfl rfl Tryz.eqGuardType70 kt70 (by decide) ag70 (Typ.struct (h := 3) (r := [(1, [(vi 2)]), (32, (List.replicate 32 (0 : UInt8)).map vu8), (1, [(vi 0)]), (128, (List.replicate 128 (0 : UInt8)).map vu8), (10, flat [(1, [(vu64 0)]), (8, (List.replicate 8 (0 : UInt64)).map vu64), (1, [(.bool false)])])]) (cs := flat [(1, [(vi 2)]), (32, (List.replicate 32 (0 : UInt8)).map vu8), (1, [(vi 0)]), (128, (List.replicate 128 (0 : UInt8)).map vu8), (1, [(vu64 0)]), (8, (List.replicate 8 (0 : UInt64)).map vu64), (1, [(.bool false)])]) Tryz.underlying70 (TypF.cons (k := 1) rfl rfl (by decide) rfl (Typ.int Tryz.underlying68 ce68 (by decide)) (TypF.cons (k := 32) rfl rfl (by decide) (len_map lr) (Typ.u8s Tryz.underlying23 ce23 Tryz.underlying5 ce5 lr) (TypF.cons (k := 1) rfl rfl (by decide) rfl (Typ.int Tryz.underlying3 ce3 (by decide)) (TypF.cons (k := 128) rfl rfl (by decide) (len_map lr) (Typ.u8s Tryz.underlying29 ce29 Tryz.underlying5 ce5 lr) (TypF.cons (k := 10) rfl rfl (by decide) ((SsOk.cons (SOk.v rfl) (SsOk.cons (SOk.u64 lr) (SsOk.cons (SOk.v rfl) SsOk.nil)))).len (Typ.struct (h := 2) (r := [(1, [(vu64 0)]), (8, (List.replicate 8 (0 : UInt64)).map vu64), (1, [(.bool false)])]) (cs := flat [(1, [(vu64 0)]), (8, (List.replicate 8 (0 : UInt64)).map vu64), (1, [(.bool false)])]) Tryz.underlying57 (TypF.cons (k := 1) rfl rfl (by decide) rfl (Typ.int Tryz.underlying27 ce27 (wfu64 0)) (TypF.cons (k := 8) rfl rfl (by decide) (len_map lr) (Typ.u64s Tryz.underlying55 ce55 Tryz.underlying27 ce27 lr) (TypF.cons (k := 1) rfl rfl (by decide) rfl (Typ.bool Tryz.underlying4 ce4) TypF.nil))) rfl (((SsOk.cons (SOk.v rfl) (SsOk.cons (SOk.u64 lr) (SsOk.cons (SOk.v rfl) SsOk.nil)))).len.trans ce57.symm)) TypF.nil))))) (by simp [flat]) (((SsOk.cons (SOk.v rfl) (SsOk.cons (SOk.u8 lr) (SsOk.cons (SOk.v rfl) (SsOk.cons (SOk.u8 lr) (SsOk.cons (SOk.v rfl) (SsOk.cons (SOk.u64 lr) (SsOk.cons (SOk.v rfl) SsOk.nil)))))))).len.trans ce70.symm)) (Typ.struct (h := 3) (r := [(1, [(vi 2)]), (32, (List.replicate 32 (0 : UInt8)).map vu8), (1, [(vi 0)]), (128, (List.replicate 128 (0 : UInt8)).map vu8), (10, flat [(1, [(vu64 0)]), (8, (List.replicate 8 (0 : UInt64)).map vu64), (1, [(.bool false)])])]) (cs := flat [(1, [(vi 2)]), (32, (List.replicate 32 (0 : UInt8)).map vu8), (1, [(vi 0)]), (128, (List.replicate 128 (0 : UInt8)).map vu8), (1, [(vu64 0)]), (8, (List.replicate 8 (0 : UInt64)).map vu64), (1, [(.bool false)])]) Tryz.underlying70 (TypF.cons (k := 1) rfl rfl (by decide) rfl (Typ.int Tryz.underlying68 ce68 (by decide)) (TypF.cons (k := 32) rfl rfl (by decide) (len_map lr) (Typ.u8s Tryz.underlying23 ce23 Tryz.underlying5 ce5 lr) (TypF.cons (k := 1) rfl rfl (by decide) rfl (Typ.int Tryz.underlying3 ce3 (by decide)) (TypF.cons (k := 128) rfl rfl (by decide) (len_map lr) (Typ.u8s Tryz.underlying29 ce29 Tryz.underlying5 ce5 lr) (TypF.cons (k := 10) rfl rfl (by decide) ((SsOk.cons (SOk.v rfl) (SsOk.cons (SOk.u64 lr) (SsOk.cons (SOk.v rfl) SsOk.nil)))).len (Typ.struct (h := 2) (r := [(1, [(vu64 0)]), (8, (List.replicate 8 (0 : UInt64)).map vu64), (1, [(.bool false)])]) (cs := flat [(1, [(vu64 0)]), (8, (List.replicate 8 (0 : UInt64)).map vu64), (1, [(.bool false)])]) Tryz.underlying57 (TypF.cons (k := 1) rfl rfl (by decide) rfl (Typ.int Tryz.underlying27 ce27 (wfu64 0)) (TypF.cons (k := 8) rfl rfl (by decide) (len_map lr) (Typ.u64s Tryz.underlying55 ce55 Tryz.underlying27 ce27 lr) (TypF.cons (k := 1) rfl rfl (by decide) rfl (Typ.bool Tryz.underlying4 ce4) TypF.nil))) rfl (((SsOk.cons (SOk.v rfl) (SsOk.cons (SOk.u64 lr) (SsOk.cons (SOk.v rfl) SsOk.nil)))).len.trans ce57.symm)) TypF.nil))))) (by simp [flat]) (((SsOk.cons (SOk.v rfl) (SsOk.cons (SOk.u8 lr) (SsOk.cons (SOk.v rfl) (SsOk.cons (SOk.u8 lr) (SsOk.cons (SOk.v rfl) (SsOk.cons (SOk.u64 lr) (SsOk.cons (SOk.v rfl) SsOk.nil)))))))).len.trans ce70.symm)) (eqT rfl)) ?_
 refine qT rfl rfl (fun wq hS => R.pickT (v := (.bool true)) rfl rfl) ?_
 refine qT rfl rfl (fun wq hS => R.move (v := (.bool true)) rfl) ?_
 refine WT.q rfl (Wn.yes rfl rfl rfl) rfl rfl (fun wq hS => R.fieldAddr (off' := 33) rfl Tryz.underlying70 rfl Tryz.sizeOf3 rfl rfl) ?_
 refine WT.q rfl (Wn.yes rfl rfl rfl) rfl rfl (fun wq hS => R.load1 rfl Tryz.isAgg3 (hS _ M0) (Sg.t rfl (Sg.t rfl Sg.h))) ?_
 refine WT.q rfl (Wn.yes rfl rfl rfl) rfl rfl (fun wq hS => R.bin rfl rfl (bi_geq (r := true) (by decide))) ?_
 refine qT rfl rfl (fun wq hS => R.pickT (v := (.bool true)) rfl rfl) ?_
 refine qT rfl rfl (fun wq hS => R.move (v := (.bool true)) rfl) ?_
 refine WT.q rfl (Wn.yes rfl rfl rfl) rfl rfl (fun wq hS => R.fieldAddr (off' := 33) rfl Tryz.underlying70 rfl Tryz.sizeOf3 rfl rfl) ?_
 refine WT.q rfl (Wn.yes rfl rfl rfl) rfl rfl (fun wq hS => R.load1 rfl Tryz.isAgg3 (hS _ M0) (Sg.t rfl (Sg.t rfl Sg.h))) ?_
 refine WT.q rfl (Wn.yes rfl rfl rfl) rfl rfl (fun wq hS => R.bin rfl rfl (bi_lss (r := true) (by decide))) ?_
 refine qT rfl rfl (fun wq hS => R.pickT (v := (.bool true)) rfl rfl) ?_
 refine qT rfl rfl (fun wq hS => R.move (v := (.bool true)) rfl) ?_
 refine WT.q rfl (Wn.yes rfl rfl rfl) rfl rfl (fun wq hS => R.fieldAddr (off' := 162) rfl Tryz.underlying70 rfl Tryz.sizeOf57 rfl rfl) ?_
 refine WT.q rfl (Wn.yes rfl rfl rfl) rfl rfl (fun wq hS => R.loadA [(1, [(vi 2)]), (32, (List.replicate 32 (0 : UInt8)).map vu8), (1, [(vi 0)]), (128, (List.replicate 128 (0 : UInt8)).map vu8)] [(1, [(vu64 0)]), (8, (List.replicate 8 (0 : UInt64)).map vu64), (1, [(.bool false)])] [] (cs := flat [(1, [(vu64 0)]), (8, (List.replicate 8 (0 : UInt64)).map vu64), (1, [(.bool false)])]) rfl Tryz.isAgg57 Tryz.sizeOf57 (hS _ M0) rfl rfl rfl rfl) ?_
 refine WT.s ?_
 refine Op1.one rfl (Wn.yes rfl rfl rfl) ?_
 refine WL.call Tryz.call79 rfl rfl (c_MayRec (0 : UInt64) (List.replicate 8 (0 : UInt64)) lr false _ ) rfl ?_
 rintro _ w_11 ⟨rfl, hc_10⟩
 have h_12 := h_9.same hc_10
 refine WL.nil ?_
 refine ⟨(N0 h_12.ok), ?_⟩
 refine qT rfl rfl (fun wq hS => R.pickT (v := (.bool true)) rfl (congrArg Value.bool (show decide ((0 : UInt64) % 8 = 0) = true from by decide))) ?_
 refine qT rfl rfl (fun wq hS => R.assign (v := (.bool true)) rfl) ?_
 refine WT.nil (thn_n (WP.ret ?_))
 refine ret_of Tryz.results35 (RV.tmp (v := (.bool true)) rfl RV.nil) ?_
 exact ⟨rfl, h_12.chgS⟩

theorem c_MayAll_0  (w : World) :
  Cs Tryz.prog 39 [(.slice none 0 0)].toArray w (fun v w1 => v = (.bool false) ∧ Chg w w1 []) := by
 refine Cs.of (n := 30) (args := [(.slice none 0 0)]) Tryz.func39 rfl rfl rfl ?_
 have h_0 := HP.init w
 refine WP.seq (WP.reg ?_)
 refine qA (.bool false) rfl rfl ?_
 refine WL.nil (thn_n (WP.scope (WP.seq (WP.reg ?_))))
 refine qM (.slice none 0 0) rfl rfl (qV rfl (R.lenS (a := none) (m := 0) rfl rfl Tryz.underlying75) (qV rfl (R.bin rfl rfl (bi_gtr (r := false) (by decide))) (qA (.bool false) rfl rfl ?_)))
 refine WL.nil (thn_n (WP.seq (WP.label (thn_n (WP.seq (WP.seq (WP.reg ?_)))))))
 refine qM (.slice none 0 0) rfl rfl (qV rfl (R.lenS (a := none) (m := 0) rfl rfl Tryz.underlying75) (qM (vi 0) rfl rfl ?_))
 refine WL.nil (thn_n (WP.block ?_))
 refine WP.loopU (WI.round ?_)
 refine WP.seq (WP.reg ?_)
 refine qV rfl (R.bin rfl rfl (bi_lss (r := false) (by decide))) ?_
 refine WL.nil (thn_n (WP.seq ?_))
 refine WP.condF rfl ?_
 refine WP.exit (thn_x (thn_x (inb_hit (thn_n (WP.seq (WP.reg ?_))))))
 refine qM (.bool false) rfl rfl (qA (.bool false) rfl rfl ?_)
 refine WL.nil (thn_n (WP.ret (ng_r ?_)))
 refine ret_of Tryz.results39 (RV.tmp (v := (.bool false)) rfl RV.nil) ?_
 exact ⟨rfl, h_0.chgS⟩

theorem c_MayAll_2 (bc : Nat) (w : World) (hcr : (Ent.blk bc .ro 70 [(1, [(vi 2)]), (32, (List.replicate 32 (0 : UInt8)).map vu8), (1, [(vi 0)]), (128, (List.replicate 128 (0 : UInt8)).map vu8), (1, [(vu64 0)]), (8, (List.replicate 8 (0 : UInt64)).map vu64), (1, [(.bool false)])]).ok w.heap.size w) :
  Cs Tryz.prog 39 [(.slice (some ⟨bc, 0, none⟩) 1 1)].toArray w (fun v w1 => v = (.bool false) ∧ Chg w w1 []) := by
 refine Cs.of (n := 30) (args := [(.slice (some ⟨bc, 0, none⟩) 1 1)]) Tryz.func39 rfl rfl rfl ?_
 have h_0 := HP.init w
 have h_00 := h_0.old hcr (fun f hf => by cases hf)
 refine WP.seq (WP.reg ?_)
 refine qA (.bool false) rfl rfl ?_
 refine WL.nil (thn_n (WP.scope (WP.seq (WP.reg ?_))))
 refine qM (.slice (some ⟨bc, 0, none⟩) 1 1) rfl rfl (qV rfl (R.lenS (a := some ⟨bc, 0, none⟩) (m := 1) rfl rfl Tryz.underlying75) (qV rfl (R.bin rfl rfl (bi_gtr (r := true) (by decide))) (qA (.bool true) rfl rfl ?_)))
 refine WL.nil (thn_n (WP.seq (WP.label (thn_n (WP.seq (WP.seq (WP.reg ?_)))))))
 refine qM (.slice (some ⟨bc, 0, none⟩) 1 1) rfl rfl (qV rfl (R.lenS (a := some ⟨bc, 0, none⟩) (m := 1) rfl rfl Tryz.underlying75) (qM (vi 0) rfl rfl ?_))
 refine WL.nil (thn_n (WP.block ?_))
 refine WP.loopU (WI.round ?_)
 refine WP.seq (WP.reg ?_)
 refine qV rfl (R.bin rfl rfl (bi_lss (r := true) (by decide))) ?_
 refine WL.nil (thn_n (WP.seq ?_))
 refine WP.condT rfl ?_
 refine WP.skip (thn_n (WP.seq (WP.block (WP.seq (WP.reg ?_)))))
 refine qM (vi 0) rfl rfl (qV rfl (R.indexP (b := bc) (off := 0) (off' := 0) (i := 0) rfl rfl rfl (by decide) Tryz.underlying75 Tryz.sizeOf70 rfl) (qV rfl (R.loadA [] [(1, [(vi 2)]), (32, (List.replicate 32 (0 : UInt8)).map vu8), (1, [(vi 0)]), (128, (List.replicate 128 (0 : UInt8)).map vu8), (1, [(vu64 0)]), (8, (List.replicate 8 (0 : UInt64)).map vu64), (1, [(.bool false)])] [] (cs := flat [(1, [(vi 2)]), (32, (List.replicate 32 (0 : UInt8)).map vu8), (1, [(vi 0)]), (128, (List.replicate 128 (0 : UInt8)).map vu8), (1, [(vu64 0)]), (8, (List.replicate 8 (0 : UInt64)).map vu64), (1, [(.bool false)])]) rfl Tryz.isAgg70 Tryz.sizeOf70 (h_00.ok _ M0) rfl rfl rfl rfl) ?_))
 refine WL.alloc (segs := [(1, [(vi 0)]), (32, (List.replicate 32 (0 : UInt8)).map vu8), (1, [(vi 0)]), (128, (List.replicate 128 (0 : UInt8)).map vu8), (1, [(vu64 0)]), (8, (List.replicate 8 (0 : UInt64)).map vu64), (1, [(.bool false)])]) h_00 (zv Tryz.typeInfo70 rfl) rfl (SsOk.cons (SOk.v rfl) (SsOk.cons (SOk.u8 lr) (SsOk.cons (SOk.v rfl) (SsOk.cons (SOk.u8 lr) (SsOk.cons (SOk.v rfl) (SsOk.cons (SOk.u64 lr) (SsOk.cons (SOk.v rfl) SsOk.nil))))))) rfl (fun b_1 w_2 h_3 => ?_)
 refine qA (vi 0) rfl rfl ?_
 refine WL.storeA (b := b_1) (off := 0) [] [(1, [(vi 0)]), (32, (List.replicate 32 (0 : UInt8)).map vu8), (1, [(vi 0)]), (128, (List.replicate 128 (0 : UInt8)).map vu8), (1, [(vu64 0)]), (8, (List.replicate 8 (0 : UInt64)).map vu64), (1, [(.bool false)])] [(1, [(vi 2)]), (32, (List.replicate 32 (0 : UInt8)).map vu8), (1, [(vi 0)]), (128, (List.replicate 128 (0 : UInt8)).map vu8), (1, [(vu64 0)]), (8, (List.replicate 8 (0 : UInt64)).map vu64), (1, [(.bool false)])] [] (ys := flat [(1, [(vi 2)]), (32, (List.replicate 32 (0 : UInt8)).map vu8), (1, [(vi 0)]), (128, (List.replicate 128 (0 : UInt8)).map vu8), (1, [(vu64 0)]), (8, (List.replicate 8 (0 : UInt64)).map vu64), (1, [(.bool false)])]) h_3 rfl rfl Tryz.sizeOf70 At.h (by decide) rfl rfl rfl rfl rfl rfl (SsOk.cons (SOk.v rfl) (SsOk.cons (SOk.u8 lr) (SsOk.cons (SOk.v rfl) (SsOk.cons (SOk.u8 lr) (SsOk.cons (SOk.v rfl) (SsOk.cons (SOk.u64 lr) (SsOk.cons (SOk.v rfl) SsOk.nil))))))) (fun w_4 h_5 => ?_)
 refine WL.nil (thn_n (WP.seq (WP.reg ?_)))
 refine qV rfl (R.loadA [] [(1, [(vi 2)]), (32, (List.replicate 32 (0 : UInt8)).map vu8), (1, [(vi 0)]), (128, (List.replicate 128 (0 : UInt8)).map vu8), (1, [(vu64 0)]), (8, (List.replicate 8 (0 : UInt64)).map vu64), (1, [(.bool false)])] [] (cs := flat [(1, [(vi 2)]), (32, (List.replicate 32 (0 : UInt8)).map vu8), (1, [(vi 0)]), (128, (List.replicate 128 (0 : UInt8)).map vu8), (1, [(vu64 0)]), (8, (List.replicate 8 (0 : UInt64)).map vu64), (1, [(.bool false)])]) rfl Tryz.isAgg70 Tryz.sizeOf70 (h_5.ok _ M0) rfl rfl rfl rfl) ?_
 refine WL.call Tryz.call35 rfl rfl (c_May_r2  _ ) rfl ?_
 rintro _ w_7 ⟨rfl, hc_6⟩
 have h_8 := h_5.same hc_6
 refine qM (.bool true) rfl rfl ?_
 refine WL.want rfl rfl ?_
 refine qV rfl (R.fieldAddr (off' := 0) rfl Tryz.underlying70 rfl Tryz.sizeOf68 rfl rfl) ?_
 refine WL.want rfl rfl ?_
 refine qV rfl (R.load1 rfl Tryz.isAgg68 (h_8.ok _ M0) Sg.h) ?_
 refine WL.want rfl rfl ?_
 refine qV rfl (R.bin rfl rfl (bi_eql (r := false) (by decide))) ?_
 refine WL.want rfl rfl ?_
 refine qM (vi 0) rfl rfl ?_
 refine WL.want rfl rfl ?_
 refine qV rfl (R.bin rfl rfl (bi_eql (r := true) (by decide))) ?_
 refine WL.want rfl rfl ?_
 refine qV rfl (R.eqB (a := false) (b := true) (c := false) rfl rfl Tryz.underlying4 rfl) (qV rfl (R.pickT (v := (.bool false)) rfl rfl) (qA (.bool false) rfl rfl ?_))
 refine WL.nil (thn_n (WP.seq (WP.reg ?_)))
 refine qM (.bool false) rfl rfl (qV rfl (R.not (b := false) rfl) ?_)
 refine WL.nil (thn_n ?_)
 refine WP.condT rfl ?_
 refine WP.exit (inb_miss rfl (thn_x (thn_x (inb_hit (thn_n (WP.seq (WP.reg ?_)))))))
 refine qM (.bool false) rfl rfl (qA (.bool false) rfl rfl ?_)
 refine WL.nil (thn_n (WP.ret (ng_r ?_)))
 refine ret_of Tryz.results39 (RV.tmp (v := (.bool false)) rfl RV.nil) ?_
 exact ⟨rfl, h_8.chgS⟩

theorem c_Replay_0 (id : Bool) (ob mp : Nat) (ms : List UInt8) (hms : ms.length = 32) (da : Option Addr) (dn dc u : Nat) (la : Option Addr) (ln lc : Nat) (w : World) (hcb : (Ent.blk ob .ro 118 [(1, [(.bool id)]), (32, ms.map vu8), (1, [(.slice da dn dc)]), (1, [(vi ((u : Nat) : Int))]), (1, [(.map (some mp))]), (1, [(.slice la ln lc)])]).ok w.heap.size w) :
  Cs Tryz.prog 38 [(.pointer (some ⟨ob, 0, none⟩)), (.slice none 0 0)].toArray w (fun v w1 => v = (.tuple [(.agg ⟨(List.replicate 32 (0 : UInt8)).map vu8⟩), (vi 2)].toArray) ∧ Chg w w1 []) := by
 refine Cs.of (n := 51) (args := [(pO ob 0), (.slice none 0 0)]) Tryz.func38 rfl rfl rfl ?_
 have h_0 := HP.init w
 have h_00 := h_0.old hcb (fun f hf => by cases hf)
 refine WP.seq (WP.reg ?_)
 refine WL.alloc (segs := [(32, (List.replicate 32 (0 : UInt8)).map vu8)]) h_00 (zv Tryz.typeInfo23 rfl) rfl (SsOk.cons (SOk.u8 lr) SsOk.nil) rfl (fun b_1 w_2 h_3 => ?_)
 refine qA (vi 0) rfl rfl ?_
 refine WL.nil (thn_n (WP.seq (WP.block (WP.seq (WP.reg ?_)))))
 refine qM (pO ob 0) rfl rfl ?_
 refine WL.call Tryz.call72 rfl rfl (c_mth id ob mp ms hms da dn dc u la ln lc _ (h_3.argR M1)) rfl ?_
 rintro _ w_5 ⟨rfl, hc_4⟩
 have h_6 := h_3.same hc_4
 refine qV rfl (R.not (b := true) rfl) (qA (.bool false) rfl rfl ?_)
 refine WL.nil (thn_n ?_)
 refine WP.condF rfl ?_
 refine WP.seq (WP.reg ?_)
 refine qM (.slice none 0 0) rfl rfl ?_
 refine WL.call Tryz.call39 rfl rfl (c_MayAll_0  _ ) rfl ?_
 rintro _ w_8 ⟨rfl, hc_7⟩
 have h_9 := h_6.same hc_7
 refine qV rfl (R.not (b := false) rfl) (qA (.bool true) rfl rfl ?_)
 refine WL.nil (thn_n ?_)
 refine WP.condT rfl ?_
 refine WP.seq (WP.reg ?_)
 refine qV rfl (R.buildA (vs := []) (cs := (List.replicate 32 (0 : UInt8)).map vu8) Tryz.underlying23 Tryz.sizeOf5 (zv Tryz.typeInfo23 rfl) rfl rfl) ?_
 refine WL.storeA (b := b_1) (off := 0) [] [(32, (List.replicate 32 (0 : UInt8)).map vu8)] [(32, (List.replicate 32 (0 : UInt8)).map vu8)] [] (ys := (List.replicate 32 (0 : UInt8)).map vu8) h_9 rfl rfl Tryz.sizeOf23 At.h (by decide) rfl rfl rfl rfl rfl rfl (SsOk.cons (SOk.u8 lr) SsOk.nil) (fun w_10 h_11 => ?_)
 refine qA (vi 2) rfl rfl ?_
 refine WL.nil (thn_n (WP.ret (inb_r (thn_r ?_))))
 refine ret_of Tryz.results38 (RV.cell rfl (h_11.loadA (cs := (List.replicate 32 (0 : UInt8)).map vu8) Tryz.isAgg23 Tryz.sizeOf23 M0 rfl rfl) (RV.tmp (v := (vi 2)) rfl RV.nil)) ?_
 exact ⟨rfl, h_11.chgS⟩

theorem c_Replay_2 (id : Bool) (ob mp : Nat) (ms : List UInt8) (hms : ms.length = 32) (da : Option Addr) (dn dc u : Nat) (la : Option Addr) (ln lc : Nat) (bc : Nat) (w : World) (hcb : (Ent.blk ob .ro 118 [(1, [(.bool id)]), (32, ms.map vu8), (1, [(.slice da dn dc)]), (1, [(vi ((u : Nat) : Int))]), (1, [(.map (some mp))]), (1, [(.slice la ln lc)])]).ok w.heap.size w) (hcr : (Ent.blk bc .ro 70 [(1, [(vi 2)]), (32, (List.replicate 32 (0 : UInt8)).map vu8), (1, [(vi 0)]), (128, (List.replicate 128 (0 : UInt8)).map vu8), (1, [(vu64 0)]), (8, (List.replicate 8 (0 : UInt64)).map vu64), (1, [(.bool false)])]).ok w.heap.size w) :
  Cs Tryz.prog 38 [(.pointer (some ⟨ob, 0, none⟩)), (.slice (some ⟨bc, 0, none⟩) 1 1)].toArray w (fun v w1 => v = (.tuple [(.agg ⟨(List.replicate 32 (0 : UInt8)).map vu8⟩), (vi 2)].toArray) ∧ Chg w w1 []) := by
 refine Cs.of (n := 51) (args := [(pO ob 0), (.slice (some ⟨bc, 0, none⟩) 1 1)]) Tryz.func38 rfl rfl rfl ?_
 have h_0 := HP.init w
 have h_01 := h_0.oldV hcb rfl (by simp [Ent.mut])
 have h_00 := h_01.oldV hcr rfl (by simp [Ent.mut])
 refine WP.seq (WP.reg ?_)
 refine WL.alloc (segs := [(32, (List.replicate 32 (0 : UInt8)).map vu8)]) h_00 (zv Tryz.typeInfo23 rfl) rfl (SsOk.cons (SOk.u8 lr) SsOk.nil) rfl (fun b_1 w_2 h_3 => ?_)
 refine qA (vi 0) rfl rfl ?_
 refine WL.nil (thn_n (WP.seq (WP.block (WP.seq (WP.reg ?_)))))
 refine qM (pO ob 0) rfl rfl ?_
 refine WL.call Tryz.call72 rfl rfl (c_mth id ob mp ms hms da dn dc u la ln lc _ (h_3.argR M2)) rfl ?_
 rintro _ w_5 ⟨rfl, hc_4⟩
 have h_6 := h_3.same hc_4
 refine qV rfl (R.not (b := true) rfl) (qA (.bool false) rfl rfl ?_)
 refine WL.nil (thn_n ?_)
 refine WP.condF rfl ?_
 refine WP.seq (WP.reg ?_)
 refine qM (.slice (some ⟨bc, 0, none⟩) 1 1) rfl rfl ?_
 refine WL.call Tryz.call39 rfl rfl (c_MayAll_2 bc _ (h_6.argR M1)) rfl ?_
 rintro _ w_8 ⟨rfl, hc_7⟩
 have h_9 := h_6.same hc_7
 refine qV rfl (R.not (b := false) rfl) (qA (.bool true) rfl rfl ?_)
 refine WL.nil (thn_n ?_)
 refine WP.condT rfl ?_
 refine WP.seq (WP.reg ?_)
 refine qV rfl (R.buildA (vs := []) (cs := (List.replicate 32 (0 : UInt8)).map vu8) Tryz.underlying23 Tryz.sizeOf5 (zv Tryz.typeInfo23 rfl) rfl rfl) ?_
 refine WL.storeA (b := b_1) (off := 0) [] [(32, (List.replicate 32 (0 : UInt8)).map vu8)] [(32, (List.replicate 32 (0 : UInt8)).map vu8)] [] (ys := (List.replicate 32 (0 : UInt8)).map vu8) h_9 rfl rfl Tryz.sizeOf23 At.h (by decide) rfl rfl rfl rfl rfl rfl (SsOk.cons (SOk.u8 lr) SsOk.nil) (fun w_10 h_11 => ?_)
 refine qA (vi 2) rfl rfl ?_
 refine WL.nil (thn_n (WP.ret (inb_r (thn_r ?_))))
 refine ret_of Tryz.results38 (RV.cell rfl (h_11.loadA (cs := (List.replicate 32 (0 : UInt8)).map vu8) Tryz.isAgg23 Tryz.sizeOf23 M0 rfl rfl) (RV.tmp (v := (vi 2)) rfl RV.nil)) ?_
 exact ⟨rfl, h_11.chgS⟩

theorem c_num12 (e : Int) (be : -9223372036854775808 ≤ e ∧ e < 9223372036854775808) (w : World) :
  Cs Tryz.prog 26 [(vi e)].toArray w (fun v w1 => v = vi e ∧ Chg w w1 []) := by
 refine Cs.of (n := 4) (args := [(vi e)]) Tryz.func26 rfl rfl rfl ?_
 have h_0 := HP.init w
 refine WP.seq (WP.reg ?_)
 refine qA (vi 0) rfl rfl ?_
 refine WL.nil (thn_n (WP.seq (WP.reg ?_)))
 refine qM (vi e) rfl rfl (qA (vi e) rfl rfl ?_)
 refine WL.nil (thn_n (WP.ret ?_))
 refine ret_of Tryz.results26 (RV.tmp (v := (vi e)) rfl RV.nil) ?_
 exact ⟨rfl, h_0.chgS⟩

theorem c_dr1  (w : World) :
  Cs Tryz.prog 71 [(vu8 1)].toArray w (fun v w1 => v = (.agg ⟨([1, 0, 0, 0, 0, 0, 0, 0, 0, 0, 0, 0, 0, 0, 0, 0, 0, 0, 0, 0, 0, 0, 0, 0, 0, 0, 0, 0, 0, 0, 0, 2] : List UInt8).map vu8⟩) ∧ Chg w w1 []) := by
 refine Cs.of (n := 5) (args := [(vu8 1)]) Tryz.func71 rfl rfl rfl ?_
 have h_0 := HP.init w
 refine WP.seq (WP.reg ?_)
 refine WL.alloc (segs := [(32, (List.replicate 32 (0 : UInt8)).map vu8)]) h_0 (zv Tryz.typeInfo23 rfl) rfl (SsOk.cons (SOk.u8 lr) SsOk.nil) rfl (fun b_1 w_2 h_3 => ?_)
 refine WL.nil (thn_n (WP.seq (WP.reg ?_)))
 refine qM (vu8 1) rfl rfl (qV rfl (R.buildA (vs := [(0, (vu8 1)), (31, (vu8 2))]) (cs := ([1, 0, 0, 0, 0, 0, 0, 0, 0, 0, 0, 0, 0, 0, 0, 0, 0, 0, 0, 0, 0, 0, 0, 0, 0, 0, 0, 0, 0, 0, 0, 2] : List UInt8).map vu8) Tryz.underlying23 Tryz.sizeOf5 (zv Tryz.typeInfo23 rfl) rfl rfl) ?_)
 refine WL.storeA (b := b_1) (off := 0) [] [(32, (List.replicate 32 (0 : UInt8)).map vu8)] [(32, ([1, 0, 0, 0, 0, 0, 0, 0, 0, 0, 0, 0, 0, 0, 0, 0, 0, 0, 0, 0, 0, 0, 0, 0, 0, 0, 0, 0, 0, 0, 0, 2] : List UInt8).map vu8)] [] (ys := ([1, 0, 0, 0, 0, 0, 0, 0, 0, 0, 0, 0, 0, 0, 0, 0, 0, 0, 0, 0, 0, 0, 0, 0, 0, 0, 0, 0, 0, 0, 0, 2] : List UInt8).map vu8) h_3 rfl rfl Tryz.sizeOf23 At.h (by decide) rfl rfl rfl rfl rfl rfl (SsOk.cons (SOk.u8 (rfl : List.length ([1, 0, 0, 0, 0, 0, 0, 0, 0, 0, 0, 0, 0, 0, 0, 0, 0, 0, 0, 0, 0, 0, 0, 0, 0, 0, 0, 0, 0, 0, 0, 2] : List UInt8) = 32)) SsOk.nil) (fun w_4 h_5 => ?_)
 refine WL.nil (thn_n (WP.ret ?_))
 refine ret_of Tryz.results71 (RV.cell rfl (h_5.loadA (cs := ([1, 0, 0, 0, 0, 0, 0, 0, 0, 0, 0, 0, 0, 0, 0, 0, 0, 0, 0, 0, 0, 0, 0, 0, 0, 0, 0, 0, 0, 0, 0, 2] : List UInt8).map vu8) Tryz.isAgg23 Tryz.sizeOf23 M0 rfl rfl) RV.nil) ?_
 exact ⟨rfl, h_5.chgS⟩

theorem c_dr2  (w : World) :
  Cs Tryz.prog 71 [(vu8 2)].toArray w (fun v w1 => v = (.agg ⟨([2, 0, 0, 0, 0, 0, 0, 0, 0, 0, 0, 0, 0, 0, 0, 0, 0, 0, 0, 0, 0, 0, 0, 0, 0, 0, 0, 0, 0, 0, 0, 2] : List UInt8).map vu8⟩) ∧ Chg w w1 []) := by
 refine Cs.of (n := 5) (args := [(vu8 2)]) Tryz.func71 rfl rfl rfl ?_
 have h_0 := HP.init w
 refine WP.seq (WP.reg ?_)
 refine WL.alloc (segs := [(32, (List.replicate 32 (0 : UInt8)).map vu8)]) h_0 (zv Tryz.typeInfo23 rfl) rfl (SsOk.cons (SOk.u8 lr) SsOk.nil) rfl (fun b_1 w_2 h_3 => ?_)
 refine WL.nil (thn_n (WP.seq (WP.reg ?_)))
 refine qM (vu8 2) rfl rfl (qV rfl (R.buildA (vs := [(0, (vu8 2)), (31, (vu8 2))]) (cs := ([2, 0, 0, 0, 0, 0, 0, 0, 0, 0, 0, 0, 0, 0, 0, 0, 0, 0, 0, 0, 0, 0, 0, 0, 0, 0, 0, 0, 0, 0, 0, 2] : List UInt8).map vu8) Tryz.underlying23 Tryz.sizeOf5 (zv Tryz.typeInfo23 rfl) rfl rfl) ?_)
 refine WL.storeA (b := b_1) (off := 0) [] [(32, (List.replicate 32 (0 : UInt8)).map vu8)] [(32, ([2, 0, 0, 0, 0, 0, 0, 0, 0, 0, 0, 0, 0, 0, 0, 0, 0, 0, 0, 0, 0, 0, 0, 0, 0, 0, 0, 0, 0, 0, 0, 2] : List UInt8).map vu8)] [] (ys := ([2, 0, 0, 0, 0, 0, 0, 0, 0, 0, 0, 0, 0, 0, 0, 0, 0, 0, 0, 0, 0, 0, 0, 0, 0, 0, 0, 0, 0, 0, 0, 2] : List UInt8).map vu8) h_3 rfl rfl Tryz.sizeOf23 At.h (by decide) rfl rfl rfl rfl rfl rfl (SsOk.cons (SOk.u8 (rfl : List.length ([2, 0, 0, 0, 0, 0, 0, 0, 0, 0, 0, 0, 0, 0, 0, 0, 0, 0, 0, 0, 0, 0, 0, 0, 0, 0, 0, 0, 0, 0, 0, 2] : List UInt8) = 32)) SsOk.nil) (fun w_4 h_5 => ?_)
 refine WL.nil (thn_n (WP.ret ?_))
 refine ret_of Tryz.results71 (RV.cell rfl (h_5.loadA (cs := ([2, 0, 0, 0, 0, 0, 0, 0, 0, 0, 0, 0, 0, 0, 0, 0, 0, 0, 0, 0, 0, 0, 0, 0, 0, 0, 0, 0, 0, 0, 0, 2] : List UInt8).map vu8) Tryz.isAgg23 Tryz.sizeOf23 M0 rfl rfl) RV.nil) ?_
 exact ⟨rfl, h_5.chgS⟩

theorem c_known12  (w : World) :
  Cs Tryz.prog 23 [].toArray w (fun v w1 => v = .bool true ∧ Chg w w1 []) := by
 refine Cs.of (n := 80) (args := []) Tryz.func23 rfl rfl rfl ?_
 have h_0 := HP.init w
 refine WP.seq (WP.reg ?_)
 refine qA (.bool false) rfl rfl ?_
 refine WL.nil (thn_n (WP.seq (WP.reg ?_)))
 refine qV rfl (R.buildA (vs := []) (cs := (List.replicate 32 (0 : UInt8)).map vu8) Tryz.underlying23 Tryz.sizeOf5 (zv Tryz.typeInfo23 rfl) rfl rfl) ?_
 refine WL.call Tryz.call71 rfl rfl (c_dr1  _ ) rfl ?_
 rintro _ w_2 ⟨rfl, hc_1⟩
 have h_3 := h_0.same hc_1
 refine WL.call Tryz.call71 rfl rfl (c_dr2  _ ) rfl ?_
 rintro _ w_5 ⟨rfl, hc_4⟩
 have h_6 := h_3.same hc_4
 refine WL.buildSl (vs := [(0, (.agg ⟨([1, 0, 0, 0, 0, 0, 0, 0, 0, 0, 0, 0, 0, 0, 0, 0, 0, 0, 0, 0, 0, 0, 0, 0, 0, 0, 0, 0, 0, 0, 0, 2] : List UInt8).map vu8⟩)), (1, (.agg ⟨([2, 0, 0, 0, 0, 0, 0, 0, 0, 0, 0, 0, 0, 0, 0, 0, 0, 0, 0, 0, 0, 0, 0, 0, 0, 0, 0, 0, 0, 0, 0, 2] : List UInt8).map vu8⟩))]) (cs := (([1, 0, 0, 0, 0, 0, 0, 0, 0, 0, 0, 0, 0, 0, 0, 0, 0, 0, 0, 0, 0, 0, 0, 0, 0, 0, 0, 0, 0, 0, 0, 2] : List UInt8) ++ ([2, 0, 0, 0, 0, 0, 0, 0, 0, 0, 0, 0, 0, 0, 0, 0, 0, 0, 0, 0, 0, 0, 0, 0, 0, 0, 0, 0, 0, 0, 0, 2] : List UInt8)).map vu8) h_6 Tryz.underlying24 Tryz.sizeOf23 (zv Tryz.typeInfo23 rfl) rfl rfl (fill_2 (by kernel_rfl) (rfl : List.length ([1, 0, 0, 0, 0, 0, 0, 0, 0, 0, 0, 0, 0, 0, 0, 0, 0, 0, 0, 0, 0, 0, 0, 0, 0, 0, 0, 0, 0, 0, 0, 2] : List UInt8) = 32) (rfl : List.length ([2, 0, 0, 0, 0, 0, 0, 0, 0, 0, 0, 0, 0, 0, 0, 0, 0, 0, 0, 0, 0, 0, 0, 0, 0, 0, 0, 0, 0, 0, 0, 2] : List UInt8) = 32)) (len_map (show List.length (([1, 0, 0, 0, 0, 0, 0, 0, 0, 0, 0, 0, 0, 0, 0, 0, 0, 0, 0, 0, 0, 0, 0, 0, 0, 0, 0, 0, 0, 0, 0, 2] : List UInt8) ++ ([2, 0, 0, 0, 0, 0, 0, 0, 0, 0, 0, 0, 0, 0, 0, 0, 0, 0, 0, 0, 0, 0, 0, 0, 0, 0, 0, 0, 0, 0, 0, 2] : List UInt8)) = 2 * 32 from rfl)) (one_u8 _) rfl rfl (fun b_7 w_8 h_9 => ?_)
 have h_10 := HP.blkRow (m := 2) (s := 32) h_9 At.h rfl (by simp only [maxLen]; decide)
 have h_11 := h_10.rowView
 refine WL.call Tryz.call46 rfl rfl (c_ONew true (List.replicate 32 (0 : UInt8)) (([1, 0, 0, 0, 0, 0, 0, 0, 0, 0, 0, 0, 0, 0, 0, 0, 0, 0, 0, 0, 0, 0, 0, 0, 0, 0, 0, 0, 0, 0, 0, 2] : List UInt8) ++ ([2, 0, 0, 0, 0, 0, 0, 0, 0, 0, 0, 0, 0, 0, 0, 0, 0, 0, 0, 0, 0, 0, 0, 0, 0, 0, 0, 0, 0, 0, 0, 2] : List UInt8)) lr (some ⟨b_7, 0, none⟩) 2 2 (rfl : List.length (([1, 0, 0, 0, 0, 0, 0, 0, 0, 0, 0, 0, 0, 0, 0, 0, 0, 0, 0, 0, 0, 0, 0, 0, 0, 0, 0, 0, 0, 0, 0, 2] : List UInt8) ++ ([2, 0, 0, 0, 0, 0, 0, 0, 0, 0, 0, 0, 0, 0, 0, 0, 0, 0, 0, 0, 0, 0, 0, 0, 0, 0, 0, 0, 0, 0, 0, 2] : List UInt8)) = 64) (by decide) _ h_11) rfl ?_
 rintro _ w_16 ⟨b_12, b_13, a_14, c_15, rfl, h_17⟩
 refine qA (pO b_12 0) rfl rfl ?_
 refine WL.nil (thn_n (WP.seq (WP.reg ?_)))
 refine qM (pO b_12 0) rfl rfl (qV rfl (R.buildS (pl := [(0, 32), (32, 1)]) (zs := [(32, (List.replicate 32 (0 : UInt8)).map vu8), (1, [(vu64 0)])]) (vs := []) (out := [(32, (List.replicate 32 (0 : UInt8)).map vu8), (1, [(vu64 0)])]) (cs := flat [(32, (List.replicate 32 (0 : UInt8)).map vu8), (1, [(vu64 0)])]) Tryz.underlying54 (zv Tryz.typeInfo54 rfl) rfl (SsOk.cons (SOk.u8 lr) (SsOk.cons (SOk.v rfl) SsOk.nil)) (pl54 _ Tryz.underlying54) rfl FillR.nil rfl) ?_)
 have h_23 := ((((h_17.up J4).up J4).up J4).up J4).up J4
 have h32_w_27 := Lgs.ok32 (h_23.ok _ M3).1
 refine WL.call Tryz.call25 rfl rfl (c_Begin true b_12 b_13 (List.replicate 32 (0 : UInt8)) (([1, 0, 0, 0, 0, 0, 0, 0, 0, 0, 0, 0, 0, 0, 0, 0, 0, 0, 0, 0, 0, 0, 0, 0, 0, 0, 0, 0, 0, 0, 0, 2] : List UInt8) ++ ([2, 0, 0, 0, 0, 0, 0, 0, 0, 0, 0, 0, 0, 0, 0, 0, 0, 0, 0, 0, 0, 0, 0, 0, 0, 0, 0, 0, 0, 0, 0, 2] : List UInt8)) lr a_14 2 c_15 0 (rfl : List.length (([1, 0, 0, 0, 0, 0, 0, 0, 0, 0, 0, 0, 0, 0, 0, 0, 0, 0, 0, 0, 0, 0, 0, 0, 0, 0, 0, 0, 0, 0, 0, 2] : List UInt8) ++ ([2, 0, 0, 0, 0, 0, 0, 0, 0, 0, 0, 0, 0, 0, 0, 0, 0, 0, 0, 0, 0, 0, 0, 0, 0, 0, 0, 0, 0, 0, 0, 2] : List UInt8)) = 64) none 0 [] ([] : Lg) (by decide) (by decide) (List.replicate 32 (0 : UInt8)) lr (0 : UInt64) _ h_23) rfl ?_
 rintro _ w_27 ⟨la_24, lc_25, lx_26, rfl, h_28⟩
 refine qM (.tuple [(.agg ⟨(anD true (([1, 0, 0, 0, 0, 0, 0, 0, 0, 0, 0, 0, 0, 0, 0, 0, 0, 0, 0, 0, 0, 0, 0, 0, 0, 0, 0, 0, 0, 0, 0, 2] : List UInt8) ++ ([2, 0, 0, 0, 0, 0, 0, 0, 0, 0, 0, 0, 0, 0, 0, 0, 0, 0, 0, 0, 0, 0, 0, 0, 0, 0, 0, 0, 0, 0, 0, 2] : List UInt8)) 2 0 ([] : Lg) (1, (List.replicate 32 (0 : UInt8)), 1, [List.replicate 32 (0 : UInt8)].flatten)).map vu8⟩), (vi 0)].toArray) rfl rfl (qV rfl (R.extract rfl rfl) (qV rfl (R.extract rfl rfl) ?_))
 refine WL.alloc (segs := [(32, (List.replicate 32 (0 : UInt8)).map vu8)]) h_28 (zv Tryz.typeInfo23 rfl) rfl (SsOk.cons (SOk.u8 lr) SsOk.nil) rfl (fun b_29 w_30 h_31 => ?_)
 refine WL.storeA (b := b_29) (off := 0) [] [(32, (List.replicate 32 (0 : UInt8)).map vu8)] [(32, (anD true (([1, 0, 0, 0, 0, 0, 0, 0, 0, 0, 0, 0, 0, 0, 0, 0, 0, 0, 0, 0, 0, 0, 0, 0, 0, 0, 0, 0, 0, 0, 0, 2] : List UInt8) ++ ([2, 0, 0, 0, 0, 0, 0, 0, 0, 0, 0, 0, 0, 0, 0, 0, 0, 0, 0, 0, 0, 0, 0, 0, 0, 0, 0, 0, 0, 0, 0, 2] : List UInt8)) 2 0 ([] : Lg) (1, (List.replicate 32 (0 : UInt8)), 1, [List.replicate 32 (0 : UInt8)].flatten)).map vu8)] [] (ys := (anD true (([1, 0, 0, 0, 0, 0, 0, 0, 0, 0, 0, 0, 0, 0, 0, 0, 0, 0, 0, 0, 0, 0, 0, 0, 0, 0, 0, 0, 0, 0, 0, 2] : List UInt8) ++ ([2, 0, 0, 0, 0, 0, 0, 0, 0, 0, 0, 0, 0, 0, 0, 0, 0, 0, 0, 0, 0, 0, 0, 0, 0, 0, 0, 0, 0, 0, 0, 2] : List UInt8)) 2 0 ([] : Lg) (1, (List.replicate 32 (0 : UInt8)), 1, [List.replicate 32 (0 : UInt8)].flatten)).map vu8) h_31 rfl rfl Tryz.sizeOf23 At.h (by decide) rfl rfl rfl rfl rfl rfl (SsOk.cons (SOk.u8 (anD_len (rfl : List.length (([1, 0, 0, 0, 0, 0, 0, 0, 0, 0, 0, 0, 0, 0, 0, 0, 0, 0, 0, 0, 0, 0, 0, 0, 0, 0, 0, 0, 0, 0, 0, 2] : List UInt8) ++ ([2, 0, 0, 0, 0, 0, 0, 0, 0, 0, 0, 0, 0, 0, 0, 0, 0, 0, 0, 0, 0, 0, 0, 0, 0, 0, 0, 0, 0, 0, 0, 2] : List UInt8)) = 64) h32_w_27)) SsOk.nil) (fun w_32 h_33 => ?_)
 refine qA (vi 0) rfl rfl ?_
 refine WL.nil (thn_n (WP.seq (WP.reg ?_)))
 refine qM (pO b_12 0) rfl rfl (qV rfl (R.loadA [] [(32, (anD true (([1, 0, 0, 0, 0, 0, 0, 0, 0, 0, 0, 0, 0, 0, 0, 0, 0, 0, 0, 0, 0, 0, 0, 0, 0, 0, 0, 0, 0, 0, 0, 2] : List UInt8) ++ ([2, 0, 0, 0, 0, 0, 0, 0, 0, 0, 0, 0, 0, 0, 0, 0, 0, 0, 0, 0, 0, 0, 0, 0, 0, 0, 0, 0, 0, 0, 0, 2] : List UInt8)) 2 0 ([] : Lg) (1, (List.replicate 32 (0 : UInt8)), 1, [List.replicate 32 (0 : UInt8)].flatten)).map vu8)] [] (cs := (anD true (([1, 0, 0, 0, 0, 0, 0, 0, 0, 0, 0, 0, 0, 0, 0, 0, 0, 0, 0, 0, 0, 0, 0, 0, 0, 0, 0, 0, 0, 0, 0, 2] : List UInt8) ++ ([2, 0, 0, 0, 0, 0, 0, 0, 0, 0, 0, 0, 0, 0, 0, 0, 0, 0, 0, 0, 0, 0, 0, 0, 0, 0, 0, 0, 0, 0, 0, 2] : List UInt8)) 2 0 ([] : Lg) (1, (List.replicate 32 (0 : UInt8)), 1, [List.replicate 32 (0 : UInt8)].flatten)).map vu8) rfl Tryz.isAgg23 Tryz.sizeOf23 (h_33.ok _ M0) rfl rfl rfl rfl) (qV rfl (R.buildA (vs := []) (cs := (List.replicate 128 (0 : UInt8)).map vu8) Tryz.underlying29 Tryz.sizeOf5 (zv Tryz.typeInfo29 rfl) rfl rfl) ?_))
 have h_38 := ((((h_33.up J5).up J5).up J5).up J5).up J5
 have h32_w_42 := Lgs.ok32 (h_38.ok _ M3).1
 refine WL.call Tryz.call28 rfl rfl (c_Data true b_12 b_13 (List.replicate 32 (0 : UInt8)) (([1, 0, 0, 0, 0, 0, 0, 0, 0, 0, 0, 0, 0, 0, 0, 0, 0, 0, 0, 0, 0, 0, 0, 0, 0, 0, 0, 0, 0, 0, 0, 2] : List UInt8) ++ ([2, 0, 0, 0, 0, 0, 0, 0, 0, 0, 0, 0, 0, 0, 0, 0, 0, 0, 0, 0, 0, 0, 0, 0, 0, 0, 0, 0, 0, 0, 0, 2] : List UInt8)) lr a_14 2 c_15 (anU true 0 ([] : Lg) (1, (List.replicate 32 (0 : UInt8)), 1, [List.replicate 32 (0 : UInt8)].flatten)) (rfl : List.length (([1, 0, 0, 0, 0, 0, 0, 0, 0, 0, 0, 0, 0, 0, 0, 0, 0, 0, 0, 0, 0, 0, 0, 0, 0, 0, 0, 0, 0, 0, 0, 2] : List UInt8) ++ ([2, 0, 0, 0, 0, 0, 0, 0, 0, 0, 0, 0, 0, 0, 0, 0, 0, 0, 0, 0, 0, 0, 0, 0, 0, 0, 0, 0, 0, 0, 0, 2] : List UInt8)) = 64) la_24 lc_25 lx_26 (anL true (([1, 0, 0, 0, 0, 0, 0, 0, 0, 0, 0, 0, 0, 0, 0, 0, 0, 0, 0, 0, 0, 0, 0, 0, 0, 0, 0, 0, 0, 0, 0, 2] : List UInt8) ++ ([2, 0, 0, 0, 0, 0, 0, 0, 0, 0, 0, 0, 0, 0, 0, 0, 0, 0, 0, 0, 0, 0, 0, 0, 0, 0, 0, 0, 0, 0, 0, 2] : List UInt8)) 2 0 ([] : Lg) (1, (List.replicate 32 (0 : UInt8)), 1, [List.replicate 32 (0 : UInt8)].flatten)) (by decide) (by decide) (anD true (([1, 0, 0, 0, 0, 0, 0, 0, 0, 0, 0, 0, 0, 0, 0, 0, 0, 0, 0, 0, 0, 0, 0, 0, 0, 0, 0, 0, 0, 0, 0, 2] : List UInt8) ++ ([2, 0, 0, 0, 0, 0, 0, 0, 0, 0, 0, 0, 0, 0, 0, 0, 0, 0, 0, 0, 0, 0, 0, 0, 0, 0, 0, 0, 0, 0, 0, 2] : List UInt8)) 2 0 ([] : Lg) (1, (List.replicate 32 (0 : UInt8)), 1, [List.replicate 32 (0 : UInt8)].flatten)) (List.replicate 128 (0 : UInt8)) (anD_len (rfl : List.length (([1, 0, 0, 0, 0, 0, 0, 0, 0, 0, 0, 0, 0, 0, 0, 0, 0, 0, 0, 0, 0, 0, 0, 0, 0, 0, 0, 0, 0, 0, 0, 2] : List UInt8) ++ ([2, 0, 0, 0, 0, 0, 0, 0, 0, 0, 0, 0, 0, 0, 0, 0, 0, 0, 0, 0, 0, 0, 0, 0, 0, 0, 0, 0, 0, 0, 0, 2] : List UInt8)) = 64) h32_w_27) lr 3 (by omega) _ h_38) rfl ?_
 rintro _ w_42 ⟨la_39, lc_40, lx_41, rfl, h_43⟩
 refine qM (.tuple [(.agg ⟨(anD true (([1, 0, 0, 0, 0, 0, 0, 0, 0, 0, 0, 0, 0, 0, 0, 0, 0, 0, 0, 0, 0, 0, 0, 0, 0, 0, 0, 0, 0, 0, 0, 2] : List UInt8) ++ ([2, 0, 0, 0, 0, 0, 0, 0, 0, 0, 0, 0, 0, 0, 0, 0, 0, 0, 0, 0, 0, 0, 0, 0, 0, 0, 0, 0, 0, 0, 0, 2] : List UInt8)) 2 (anU true 0 ([] : Lg) (1, (List.replicate 32 (0 : UInt8)), 1, [List.replicate 32 (0 : UInt8)].flatten)) (anL true (([1, 0, 0, 0, 0, 0, 0, 0, 0, 0, 0, 0, 0, 0, 0, 0, 0, 0, 0, 0, 0, 0, 0, 0, 0, 0, 0, 0, 0, 0, 0, 2] : List UInt8) ++ ([2, 0, 0, 0, 0, 0, 0, 0, 0, 0, 0, 0, 0, 0, 0, 0, 0, 0, 0, 0, 0, 0, 0, 0, 0, 0, 0, 0, 0, 0, 0, 2] : List UInt8)) 2 0 ([] : Lg) (1, (List.replicate 32 (0 : UInt8)), 1, [List.replicate 32 (0 : UInt8)].flatten)) (1, (List.replicate 32 (0 : UInt8)), 2, [anD true (([1, 0, 0, 0, 0, 0, 0, 0, 0, 0, 0, 0, 0, 0, 0, 0, 0, 0, 0, 0, 0, 0, 0, 0, 0, 0, 0, 0, 0, 0, 0, 2] : List UInt8) ++ ([2, 0, 0, 0, 0, 0, 0, 0, 0, 0, 0, 0, 0, 0, 0, 0, 0, 0, 0, 0, 0, 0, 0, 0, 0, 0, 0, 0, 0, 0, 0, 2] : List UInt8)) 2 0 ([] : Lg) (1, (List.replicate 32 (0 : UInt8)), 1, [List.replicate 32 (0 : UInt8)].flatten), leN 8 (UInt64.ofNat 3).toNat, List.replicate 128 (0 : UInt8)].flatten)).map vu8⟩), (vi 0)].toArray) rfl rfl (qV rfl (R.extract rfl rfl) (qV rfl (R.extract rfl rfl) ?_))
 refine WL.alloc (segs := [(32, (List.replicate 32 (0 : UInt8)).map vu8)]) h_43 (zv Tryz.typeInfo23 rfl) rfl (SsOk.cons (SOk.u8 lr) SsOk.nil) rfl (fun b_44 w_45 h_46 => ?_)
 refine WL.storeA (b := b_44) (off := 0) [] [(32, (List.replicate 32 (0 : UInt8)).map vu8)] [(32, (anD true (([1, 0, 0, 0, 0, 0, 0, 0, 0, 0, 0, 0, 0, 0, 0, 0, 0, 0, 0, 0, 0, 0, 0, 0, 0, 0, 0, 0, 0, 0, 0, 2] : List UInt8) ++ ([2, 0, 0, 0, 0, 0, 0, 0, 0, 0, 0, 0, 0, 0, 0, 0, 0, 0, 0, 0, 0, 0, 0, 0, 0, 0, 0, 0, 0, 0, 0, 2] : List UInt8)) 2 (anU true 0 ([] : Lg) (1, (List.replicate 32 (0 : UInt8)), 1, [List.replicate 32 (0 : UInt8)].flatten)) (anL true (([1, 0, 0, 0, 0, 0, 0, 0, 0, 0, 0, 0, 0, 0, 0, 0, 0, 0, 0, 0, 0, 0, 0, 0, 0, 0, 0, 0, 0, 0, 0, 2] : List UInt8) ++ ([2, 0, 0, 0, 0, 0, 0, 0, 0, 0, 0, 0, 0, 0, 0, 0, 0, 0, 0, 0, 0, 0, 0, 0, 0, 0, 0, 0, 0, 0, 0, 2] : List UInt8)) 2 0 ([] : Lg) (1, (List.replicate 32 (0 : UInt8)), 1, [List.replicate 32 (0 : UInt8)].flatten)) (1, (List.replicate 32 (0 : UInt8)), 2, [anD true (([1, 0, 0, 0, 0, 0, 0, 0, 0, 0, 0, 0, 0, 0, 0, 0, 0, 0, 0, 0, 0, 0, 0, 0, 0, 0, 0, 0, 0, 0, 0, 2] : List UInt8) ++ ([2, 0, 0, 0, 0, 0, 0, 0, 0, 0, 0, 0, 0, 0, 0, 0, 0, 0, 0, 0, 0, 0, 0, 0, 0, 0, 0, 0, 0, 0, 0, 2] : List UInt8)) 2 0 ([] : Lg) (1, (List.replicate 32 (0 : UInt8)), 1, [List.replicate 32 (0 : UInt8)].flatten), leN 8 (UInt64.ofNat 3).toNat, List.replicate 128 (0 : UInt8)].flatten)).map vu8)] [] (ys := (anD true (([1, 0, 0, 0, 0, 0, 0, 0, 0, 0, 0, 0, 0, 0, 0, 0, 0, 0, 0, 0, 0, 0, 0, 0, 0, 0, 0, 0, 0, 0, 0, 2] : List UInt8) ++ ([2, 0, 0, 0, 0, 0, 0, 0, 0, 0, 0, 0, 0, 0, 0, 0, 0, 0, 0, 0, 0, 0, 0, 0, 0, 0, 0, 0, 0, 0, 0, 2] : List UInt8)) 2 (anU true 0 ([] : Lg) (1, (List.replicate 32 (0 : UInt8)), 1, [List.replicate 32 (0 : UInt8)].flatten)) (anL true (([1, 0, 0, 0, 0, 0, 0, 0, 0, 0, 0, 0, 0, 0, 0, 0, 0, 0, 0, 0, 0, 0, 0, 0, 0, 0, 0, 0, 0, 0, 0, 2] : List UInt8) ++ ([2, 0, 0, 0, 0, 0, 0, 0, 0, 0, 0, 0, 0, 0, 0, 0, 0, 0, 0, 0, 0, 0, 0, 0, 0, 0, 0, 0, 0, 0, 0, 2] : List UInt8)) 2 0 ([] : Lg) (1, (List.replicate 32 (0 : UInt8)), 1, [List.replicate 32 (0 : UInt8)].flatten)) (1, (List.replicate 32 (0 : UInt8)), 2, [anD true (([1, 0, 0, 0, 0, 0, 0, 0, 0, 0, 0, 0, 0, 0, 0, 0, 0, 0, 0, 0, 0, 0, 0, 0, 0, 0, 0, 0, 0, 0, 0, 2] : List UInt8) ++ ([2, 0, 0, 0, 0, 0, 0, 0, 0, 0, 0, 0, 0, 0, 0, 0, 0, 0, 0, 0, 0, 0, 0, 0, 0, 0, 0, 0, 0, 0, 0, 2] : List UInt8)) 2 0 ([] : Lg) (1, (List.replicate 32 (0 : UInt8)), 1, [List.replicate 32 (0 : UInt8)].flatten), leN 8 (UInt64.ofNat 3).toNat, List.replicate 128 (0 : UInt8)].flatten)).map vu8) h_46 rfl rfl Tryz.sizeOf23 At.h (by decide) rfl rfl rfl rfl rfl rfl (SsOk.cons (SOk.u8 (anD_len (rfl : List.length (([1, 0, 0, 0, 0, 0, 0, 0, 0, 0, 0, 0, 0, 0, 0, 0, 0, 0, 0, 0, 0, 0, 0, 0, 0, 0, 0, 0, 0, 0, 0, 2] : List UInt8) ++ ([2, 0, 0, 0, 0, 0, 0, 0, 0, 0, 0, 0, 0, 0, 0, 0, 0, 0, 0, 0, 0, 0, 0, 0, 0, 0, 0, 0, 0, 0, 0, 2] : List UInt8)) = 64) h32_w_42)) SsOk.nil) (fun w_47 h_48 => ?_)
 refine qA (vi 0) rfl rfl ?_
 refine WL.nil (thn_n (WP.seq (WP.reg ?_)))
 refine qM (pO b_12 0) rfl rfl (qV rfl (R.loadA [] [(32, (anD true (([1, 0, 0, 0, 0, 0, 0, 0, 0, 0, 0, 0, 0, 0, 0, 0, 0, 0, 0, 0, 0, 0, 0, 0, 0, 0, 0, 0, 0, 0, 0, 2] : List UInt8) ++ ([2, 0, 0, 0, 0, 0, 0, 0, 0, 0, 0, 0, 0, 0, 0, 0, 0, 0, 0, 0, 0, 0, 0, 0, 0, 0, 0, 0, 0, 0, 0, 2] : List UInt8)) 2 0 ([] : Lg) (1, (List.replicate 32 (0 : UInt8)), 1, [List.replicate 32 (0 : UInt8)].flatten)).map vu8)] [] (cs := (anD true (([1, 0, 0, 0, 0, 0, 0, 0, 0, 0, 0, 0, 0, 0, 0, 0, 0, 0, 0, 0, 0, 0, 0, 0, 0, 0, 0, 0, 0, 0, 0, 2] : List UInt8) ++ ([2, 0, 0, 0, 0, 0, 0, 0, 0, 0, 0, 0, 0, 0, 0, 0, 0, 0, 0, 0, 0, 0, 0, 0, 0, 0, 0, 0, 0, 0, 0, 2] : List UInt8)) 2 0 ([] : Lg) (1, (List.replicate 32 (0 : UInt8)), 1, [List.replicate 32 (0 : UInt8)].flatten)).map vu8) rfl Tryz.isAgg23 Tryz.sizeOf23 (h_48.ok _ M6) rfl rfl rfl rfl) (qV rfl (R.buildA (vs := []) (cs := (List.replicate 128 (0 : UInt8)).map vu8) Tryz.underlying29 Tryz.sizeOf5 (zv Tryz.typeInfo29 rfl) rfl rfl) ?_))
 refine WL.call Tryz.call28 rfl rfl (c_Data_big true b_12 b_13 (List.replicate 32 (0 : UInt8)) lr a_14 2 c_15 (anU true (anU true 0 ([] : Lg) (1, (List.replicate 32 (0 : UInt8)), 1, [List.replicate 32 (0 : UInt8)].flatten)) (anL true (([1, 0, 0, 0, 0, 0, 0, 0, 0, 0, 0, 0, 0, 0, 0, 0, 0, 0, 0, 0, 0, 0, 0, 0, 0, 0, 0, 0, 0, 0, 0, 2] : List UInt8) ++ ([2, 0, 0, 0, 0, 0, 0, 0, 0, 0, 0, 0, 0, 0, 0, 0, 0, 0, 0, 0, 0, 0, 0, 0, 0, 0, 0, 0, 0, 0, 0, 2] : List UInt8)) 2 0 ([] : Lg) (1, (List.replicate 32 (0 : UInt8)), 1, [List.replicate 32 (0 : UInt8)].flatten)) (1, (List.replicate 32 (0 : UInt8)), 2, [anD true (([1, 0, 0, 0, 0, 0, 0, 0, 0, 0, 0, 0, 0, 0, 0, 0, 0, 0, 0, 0, 0, 0, 0, 0, 0, 0, 0, 0, 0, 0, 0, 2] : List UInt8) ++ ([2, 0, 0, 0, 0, 0, 0, 0, 0, 0, 0, 0, 0, 0, 0, 0, 0, 0, 0, 0, 0, 0, 0, 0, 0, 0, 0, 0, 0, 0, 0, 2] : List UInt8)) 2 0 ([] : Lg) (1, (List.replicate 32 (0 : UInt8)), 1, [List.replicate 32 (0 : UInt8)].flatten), leN 8 (UInt64.ofNat 3).toNat, List.replicate 128 (0 : UInt8)].flatten)) la_39 ((anL true (([1, 0, 0, 0, 0, 0, 0, 0, 0, 0, 0, 0, 0, 0, 0, 0, 0, 0, 0, 0, 0, 0, 0, 0, 0, 0, 0, 0, 0, 0, 0, 2] : List UInt8) ++ ([2, 0, 0, 0, 0, 0, 0, 0, 0, 0, 0, 0, 0, 0, 0, 0, 0, 0, 0, 0, 0, 0, 0, 0, 0, 0, 0, 0, 0, 0, 0, 2] : List UInt8)) 2 (anU true 0 ([] : Lg) (1, (List.replicate 32 (0 : UInt8)), 1, [List.replicate 32 (0 : UInt8)].flatten)) (anL true (([1, 0, 0, 0, 0, 0, 0, 0, 0, 0, 0, 0, 0, 0, 0, 0, 0, 0, 0, 0, 0, 0, 0, 0, 0, 0, 0, 0, 0, 0, 0, 2] : List UInt8) ++ ([2, 0, 0, 0, 0, 0, 0, 0, 0, 0, 0, 0, 0, 0, 0, 0, 0, 0, 0, 0, 0, 0, 0, 0, 0, 0, 0, 0, 0, 0, 0, 2] : List UInt8)) 2 0 ([] : Lg) (1, (List.replicate 32 (0 : UInt8)), 1, [List.replicate 32 (0 : UInt8)].flatten)) (1, (List.replicate 32 (0 : UInt8)), 2, [anD true (([1, 0, 0, 0, 0, 0, 0, 0, 0, 0, 0, 0, 0, 0, 0, 0, 0, 0, 0, 0, 0, 0, 0, 0, 0, 0, 0, 0, 0, 0, 0, 2] : List UInt8) ++ ([2, 0, 0, 0, 0, 0, 0, 0, 0, 0, 0, 0, 0, 0, 0, 0, 0, 0, 0, 0, 0, 0, 0, 0, 0, 0, 0, 0, 0, 0, 0, 2] : List UInt8)) 2 0 ([] : Lg) (1, (List.replicate 32 (0 : UInt8)), 1, [List.replicate 32 (0 : UInt8)].flatten), leN 8 (UInt64.ofNat 3).toNat, List.replicate 128 (0 : UInt8)].flatten)).length) lc_40 (anD true (([1, 0, 0, 0, 0, 0, 0, 0, 0, 0, 0, 0, 0, 0, 0, 0, 0, 0, 0, 0, 0, 0, 0, 0, 0, 0, 0, 0, 0, 0, 0, 2] : List UInt8) ++ ([2, 0, 0, 0, 0, 0, 0, 0, 0, 0, 0, 0, 0, 0, 0, 0, 0, 0, 0, 0, 0, 0, 0, 0, 0, 0, 0, 0, 0, 0, 0, 2] : List UInt8)) 2 0 ([] : Lg) (1, (List.replicate 32 (0 : UInt8)), 1, [List.replicate 32 (0 : UInt8)].flatten)) (List.replicate 128 (0 : UInt8)) (anD_len (rfl : List.length (([1, 0, 0, 0, 0, 0, 0, 0, 0, 0, 0, 0, 0, 0, 0, 0, 0, 0, 0, 0, 0, 0, 0, 0, 0, 0, 0, 0, 0, 0, 0, 2] : List UInt8) ++ ([2, 0, 0, 0, 0, 0, 0, 0, 0, 0, 0, 0, 0, 0, 0, 0, 0, 0, 0, 0, 0, 0, 0, 0, 0, 0, 0, 0, 0, 0, 0, 2] : List UInt8)) = 64) h32_w_27) lr 128 (by omega) _ (h_48.argR M1)) rfl ?_
 rintro _ w_50 ⟨rfl, hc_49⟩
 have h_51 := h_48.same hc_49
 refine qM (.tuple [(.agg ⟨(List.replicate 32 (0 : UInt8)).map vu8⟩), (vi 2)].toArray) rfl rfl (qV rfl (R.extract rfl rfl) (qV rfl (R.extract rfl rfl) ?_))
 refine WL.alloc (segs := [(32, (List.replicate 32 (0 : UInt8)).map vu8)]) h_51 (zv Tryz.typeInfo23 rfl) rfl (SsOk.cons (SOk.u8 lr) SsOk.nil) rfl (fun b_52 w_53 h_54 => ?_)
 refine WL.storeA (b := b_52) (off := 0) [] [(32, (List.replicate 32 (0 : UInt8)).map vu8)] [(32, (List.replicate 32 (0 : UInt8)).map vu8)] [] (ys := (List.replicate 32 (0 : UInt8)).map vu8) h_54 rfl rfl Tryz.sizeOf23 At.h (by decide) rfl rfl rfl rfl rfl rfl (SsOk.cons (SOk.u8 lr) SsOk.nil) (fun w_55 h_56 => ?_)
 refine qA (vi 2) rfl rfl ?_
 refine WL.nil (thn_n (WP.seq (WP.reg ?_)))
 refine qM (pO b_12 0) rfl rfl ?_
 refine WL.call Tryz.call38 rfl rfl (c_Replay_0 true b_12 b_13 (List.replicate 32 (0 : UInt8)) lr a_14 2 c_15 (anU true (anU true 0 ([] : Lg) (1, (List.replicate 32 (0 : UInt8)), 1, [List.replicate 32 (0 : UInt8)].flatten)) (anL true (([1, 0, 0, 0, 0, 0, 0, 0, 0, 0, 0, 0, 0, 0, 0, 0, 0, 0, 0, 0, 0, 0, 0, 0, 0, 0, 0, 0, 0, 0, 0, 2] : List UInt8) ++ ([2, 0, 0, 0, 0, 0, 0, 0, 0, 0, 0, 0, 0, 0, 0, 0, 0, 0, 0, 0, 0, 0, 0, 0, 0, 0, 0, 0, 0, 0, 0, 2] : List UInt8)) 2 0 ([] : Lg) (1, (List.replicate 32 (0 : UInt8)), 1, [List.replicate 32 (0 : UInt8)].flatten)) (1, (List.replicate 32 (0 : UInt8)), 2, [anD true (([1, 0, 0, 0, 0, 0, 0, 0, 0, 0, 0, 0, 0, 0, 0, 0, 0, 0, 0, 0, 0, 0, 0, 0, 0, 0, 0, 0, 0, 0, 0, 2] : List UInt8) ++ ([2, 0, 0, 0, 0, 0, 0, 0, 0, 0, 0, 0, 0, 0, 0, 0, 0, 0, 0, 0, 0, 0, 0, 0, 0, 0, 0, 0, 0, 0, 0, 2] : List UInt8)) 2 0 ([] : Lg) (1, (List.replicate 32 (0 : UInt8)), 1, [List.replicate 32 (0 : UInt8)].flatten), leN 8 (UInt64.ofNat 3).toNat, List.replicate 128 (0 : UInt8)].flatten)) la_39 ((anL true (([1, 0, 0, 0, 0, 0, 0, 0, 0, 0, 0, 0, 0, 0, 0, 0, 0, 0, 0, 0, 0, 0, 0, 0, 0, 0, 0, 0, 0, 0, 0, 2] : List UInt8) ++ ([2, 0, 0, 0, 0, 0, 0, 0, 0, 0, 0, 0, 0, 0, 0, 0, 0, 0, 0, 0, 0, 0, 0, 0, 0, 0, 0, 0, 0, 0, 0, 2] : List UInt8)) 2 (anU true 0 ([] : Lg) (1, (List.replicate 32 (0 : UInt8)), 1, [List.replicate 32 (0 : UInt8)].flatten)) (anL true (([1, 0, 0, 0, 0, 0, 0, 0, 0, 0, 0, 0, 0, 0, 0, 0, 0, 0, 0, 0, 0, 0, 0, 0, 0, 0, 0, 0, 0, 0, 0, 2] : List UInt8) ++ ([2, 0, 0, 0, 0, 0, 0, 0, 0, 0, 0, 0, 0, 0, 0, 0, 0, 0, 0, 0, 0, 0, 0, 0, 0, 0, 0, 0, 0, 0, 0, 2] : List UInt8)) 2 0 ([] : Lg) (1, (List.replicate 32 (0 : UInt8)), 1, [List.replicate 32 (0 : UInt8)].flatten)) (1, (List.replicate 32 (0 : UInt8)), 2, [anD true (([1, 0, 0, 0, 0, 0, 0, 0, 0, 0, 0, 0, 0, 0, 0, 0, 0, 0, 0, 0, 0, 0, 0, 0, 0, 0, 0, 0, 0, 0, 0, 2] : List UInt8) ++ ([2, 0, 0, 0, 0, 0, 0, 0, 0, 0, 0, 0, 0, 0, 0, 0, 0, 0, 0, 0, 0, 0, 0, 0, 0, 0, 0, 0, 0, 0, 0, 2] : List UInt8)) 2 0 ([] : Lg) (1, (List.replicate 32 (0 : UInt8)), 1, [List.replicate 32 (0 : UInt8)].flatten), leN 8 (UInt64.ofNat 3).toNat, List.replicate 128 (0 : UInt8)].flatten)).length) lc_40 _ (h_56.argR M2)) rfl ?_
 rintro _ w_58 ⟨rfl, hc_57⟩
 have h_59 := h_56.same hc_57
 refine qM (.tuple [(.agg ⟨(List.replicate 32 (0 : UInt8)).map vu8⟩), (vi 2)].toArray) rfl rfl (qV rfl (R.extract rfl rfl) (qV rfl (R.extract rfl rfl) ?_))
 refine WL.alloc (segs := [(32, (List.replicate 32 (0 : UInt8)).map vu8)]) h_59 (zv Tryz.typeInfo23 rfl) rfl (SsOk.cons (SOk.u8 lr) SsOk.nil) rfl (fun b_60 w_61 h_62 => ?_)
 refine WL.storeA (b := b_60) (off := 0) [] [(32, (List.replicate 32 (0 : UInt8)).map vu8)] [(32, (List.replicate 32 (0 : UInt8)).map vu8)] [] (ys := (List.replicate 32 (0 : UInt8)).map vu8) h_62 rfl rfl Tryz.sizeOf23 At.h (by decide) rfl rfl rfl rfl rfl rfl (SsOk.cons (SOk.u8 lr) SsOk.nil) (fun w_63 h_64 => ?_)
 refine qA (vi 2) rfl rfl ?_
 refine WL.nil (thn_n (WP.seq (WP.reg ?_)))
 refine qM (pO b_12 0) rfl rfl (qV rfl (R.buildS (pl := [(0, 1), (1, 32), (33, 1), (34, 128), (162, 10)]) (zs := [(1, [(vi 0)]), (32, (List.replicate 32 (0 : UInt8)).map vu8), (1, [(vi 0)]), (128, (List.replicate 128 (0 : UInt8)).map vu8), (1, [(vu64 0)]), (8, (List.replicate 8 (0 : UInt64)).map vu64), (1, [(.bool false)])]) (vs := [(0, (vi 2))]) (out := [(1, [(vi 2)]), (32, (List.replicate 32 (0 : UInt8)).map vu8), (1, [(vi 0)]), (128, (List.replicate 128 (0 : UInt8)).map vu8), (1, [(vu64 0)]), (8, (List.replicate 8 (0 : UInt64)).map vu64), (1, [(.bool false)])]) (cs := flat [(1, [(vi 2)]), (32, (List.replicate 32 (0 : UInt8)).map vu8), (1, [(vi 0)]), (128, (List.replicate 128 (0 : UInt8)).map vu8), (1, [(vu64 0)]), (8, (List.replicate 8 (0 : UInt64)).map vu64), (1, [(.bool false)])]) Tryz.underlying70 (zv Tryz.typeInfo70 rfl) rfl (SsOk.cons (SOk.v rfl) (SsOk.cons (SOk.u8 lr) (SsOk.cons (SOk.v rfl) (SsOk.cons (SOk.u8 lr) (SsOk.cons (SOk.v rfl) (SsOk.cons (SOk.u64 lr) (SsOk.cons (SOk.v rfl) SsOk.nil))))))) (pl70 _ Tryz.underlying70) rfl (FillR.cons [] [(1, [(vi 0)])] [(1, [(vi 2)])] [(32, (List.replicate 32 (0 : UInt8)).map vu8), (1, [(vi 0)]), (128, (List.replicate 128 (0 : UInt8)).map vu8), (1, [(vu64 0)]), (8, (List.replicate 8 (0 : UInt64)).map vu64), (1, [(.bool false)])] rfl rfl rfl rfl (SsOk.cons (SOk.v rfl) SsOk.nil) rfl rfl rfl FillR.nil) rfl) ?_)
 refine WL.buildSl (vs := [(0, (.agg ⟨flat [(1, [(vi 2)]), (32, (List.replicate 32 (0 : UInt8)).map vu8), (1, [(vi 0)]), (128, (List.replicate 128 (0 : UInt8)).map vu8), (1, [(vu64 0)]), (8, (List.replicate 8 (0 : UInt64)).map vu64), (1, [(.bool false)])]⟩))]) (cs := flat [(1, [(vi 2)]), (32, (List.replicate 32 (0 : UInt8)).map vu8), (1, [(vi 0)]), (128, (List.replicate 128 (0 : UInt8)).map vu8), (1, [(vu64 0)]), (8, (List.replicate 8 (0 : UInt64)).map vu64), (1, [(.bool false)])]) h_64 Tryz.underlying75 Tryz.sizeOf70 (zv Tryz.typeInfo70 rfl) rfl rfl (fill_1 (zc := flat [(1, [(vi 0)]), (32, (List.replicate 32 (0 : UInt8)).map vu8), (1, [(vi 0)]), (128, (List.replicate 128 (0 : UInt8)).map vu8), (1, [(vu64 0)]), (8, (List.replicate 8 (0 : UInt64)).map vu64), (1, [(.bool false)])]) (by kernel_rfl) (show SsOk [(172, flat [(1, [(vi 0)]), (32, (List.replicate 32 (0 : UInt8)).map vu8), (1, [(vi 0)]), (128, (List.replicate 128 (0 : UInt8)).map vu8), (1, [(vu64 0)]), (8, (List.replicate 8 (0 : UInt64)).map vu64), (1, [(.bool false)])])] from SsOk.cons ⟨((SsOk.cons (SOk.v rfl) (SsOk.cons (SOk.u8 lr) (SsOk.cons (SOk.v rfl) (SsOk.cons (SOk.u8 lr) (SsOk.cons (SOk.v rfl) (SsOk.cons (SOk.u64 lr) (SsOk.cons (SOk.v rfl) SsOk.nil)))))))).len, ((SsOk.cons (SOk.v rfl) (SsOk.cons (SOk.u8 lr) (SsOk.cons (SOk.v rfl) (SsOk.cons (SOk.u8 lr) (SsOk.cons (SOk.v rfl) (SsOk.cons (SOk.u64 lr) (SsOk.cons (SOk.v rfl) SsOk.nil)))))))).one⟩ SsOk.nil) (show SsOk [(172, flat [(1, [(vi 2)]), (32, (List.replicate 32 (0 : UInt8)).map vu8), (1, [(vi 0)]), (128, (List.replicate 128 (0 : UInt8)).map vu8), (1, [(vu64 0)]), (8, (List.replicate 8 (0 : UInt64)).map vu64), (1, [(.bool false)])])] from SsOk.cons ⟨((SsOk.cons (SOk.v rfl) (SsOk.cons (SOk.u8 lr) (SsOk.cons (SOk.v rfl) (SsOk.cons (SOk.u8 lr) (SsOk.cons (SOk.v rfl) (SsOk.cons (SOk.u64 lr) (SsOk.cons (SOk.v rfl) SsOk.nil)))))))).len, ((SsOk.cons (SOk.v rfl) (SsOk.cons (SOk.u8 lr) (SsOk.cons (SOk.v rfl) (SsOk.cons (SOk.u8 lr) (SsOk.cons (SOk.v rfl) (SsOk.cons (SOk.u64 lr) (SsOk.cons (SOk.v rfl) SsOk.nil)))))))).one⟩ SsOk.nil)) ((show SsOk [(172, flat [(1, [(vi 2)]), (32, (List.replicate 32 (0 : UInt8)).map vu8), (1, [(vi 0)]), (128, (List.replicate 128 (0 : UInt8)).map vu8), (1, [(vu64 0)]), (8, (List.replicate 8 (0 : UInt64)).map vu64), (1, [(.bool false)])])] from SsOk.cons ⟨((SsOk.cons (SOk.v rfl) (SsOk.cons (SOk.u8 lr) (SsOk.cons (SOk.v rfl) (SsOk.cons (SOk.u8 lr) (SsOk.cons (SOk.v rfl) (SsOk.cons (SOk.u64 lr) (SsOk.cons (SOk.v rfl) SsOk.nil)))))))).len, ((SsOk.cons (SOk.v rfl) (SsOk.cons (SOk.u8 lr) (SsOk.cons (SOk.v rfl) (SsOk.cons (SOk.u8 lr) (SsOk.cons (SOk.v rfl) (SsOk.cons (SOk.u64 lr) (SsOk.cons (SOk.v rfl) SsOk.nil)))))))).one⟩ SsOk.nil)).head.len ((show SsOk [(172, flat [(1, [(vi 2)]), (32, (List.replicate 32 (0 : UInt8)).map vu8), (1, [(vi 0)]), (128, (List.replicate 128 (0 : UInt8)).map vu8), (1, [(vu64 0)]), (8, (List.replicate 8 (0 : UInt64)).map vu64), (1, [(.bool false)])])] from SsOk.cons ⟨((SsOk.cons (SOk.v rfl) (SsOk.cons (SOk.u8 lr) (SsOk.cons (SOk.v rfl) (SsOk.cons (SOk.u8 lr) (SsOk.cons (SOk.v rfl) (SsOk.cons (SOk.u64 lr) (SsOk.cons (SOk.v rfl) SsOk.nil)))))))).len, ((SsOk.cons (SOk.v rfl) (SsOk.cons (SOk.u8 lr) (SsOk.cons (SOk.v rfl) (SsOk.cons (SOk.u8 lr) (SsOk.cons (SOk.v rfl) (SsOk.cons (SOk.u64 lr) (SsOk.cons (SOk.v rfl) SsOk.nil)))))))).one⟩ SsOk.nil)).head.one rfl rfl (fun b_66 w_67 h_68 => ?_)
 have h_69 := HP_reseg (segs' := [(1, [(vi 2)]), (32, (List.replicate 32 (0 : UInt8)).map vu8), (1, [(vi 0)]), (128, (List.replicate 128 (0 : UInt8)).map vu8), (1, [(vu64 0)]), (8, (List.replicate 8 (0 : UInt64)).map vu64), (1, [(.bool false)])]) h_68 .h (by decide) rfl (SsOk.cons (SOk.v rfl) (SsOk.cons (SOk.u8 lr) (SsOk.cons (SOk.v rfl) (SsOk.cons (SOk.u8 lr) (SsOk.cons (SOk.v rfl) (SsOk.cons (SOk.u64 lr) (SsOk.cons (SOk.v rfl) SsOk.nil)))))))
 refine WL.call Tryz.call38 rfl rfl (c_Replay_2 true b_12 b_13 (List.replicate 32 (0 : UInt8)) lr a_14 2 c_15 (anU true (anU true 0 ([] : Lg) (1, (List.replicate 32 (0 : UInt8)), 1, [List.replicate 32 (0 : UInt8)].flatten)) (anL true (([1, 0, 0, 0, 0, 0, 0, 0, 0, 0, 0, 0, 0, 0, 0, 0, 0, 0, 0, 0, 0, 0, 0, 0, 0, 0, 0, 0, 0, 0, 0, 2] : List UInt8) ++ ([2, 0, 0, 0, 0, 0, 0, 0, 0, 0, 0, 0, 0, 0, 0, 0, 0, 0, 0, 0, 0, 0, 0, 0, 0, 0, 0, 0, 0, 0, 0, 2] : List UInt8)) 2 0 ([] : Lg) (1, (List.replicate 32 (0 : UInt8)), 1, [List.replicate 32 (0 : UInt8)].flatten)) (1, (List.replicate 32 (0 : UInt8)), 2, [anD true (([1, 0, 0, 0, 0, 0, 0, 0, 0, 0, 0, 0, 0, 0, 0, 0, 0, 0, 0, 0, 0, 0, 0, 0, 0, 0, 0, 0, 0, 0, 0, 2] : List UInt8) ++ ([2, 0, 0, 0, 0, 0, 0, 0, 0, 0, 0, 0, 0, 0, 0, 0, 0, 0, 0, 0, 0, 0, 0, 0, 0, 0, 0, 0, 0, 0, 0, 2] : List UInt8)) 2 0 ([] : Lg) (1, (List.replicate 32 (0 : UInt8)), 1, [List.replicate 32 (0 : UInt8)].flatten), leN 8 (UInt64.ofNat 3).toNat, List.replicate 128 (0 : UInt8)].flatten)) la_39 ((anL true (([1, 0, 0, 0, 0, 0, 0, 0, 0, 0, 0, 0, 0, 0, 0, 0, 0, 0, 0, 0, 0, 0, 0, 0, 0, 0, 0, 0, 0, 0, 0, 2] : List UInt8) ++ ([2, 0, 0, 0, 0, 0, 0, 0, 0, 0, 0, 0, 0, 0, 0, 0, 0, 0, 0, 0, 0, 0, 0, 0, 0, 0, 0, 0, 0, 0, 0, 2] : List UInt8)) 2 (anU true 0 ([] : Lg) (1, (List.replicate 32 (0 : UInt8)), 1, [List.replicate 32 (0 : UInt8)].flatten)) (anL true (([1, 0, 0, 0, 0, 0, 0, 0, 0, 0, 0, 0, 0, 0, 0, 0, 0, 0, 0, 0, 0, 0, 0, 0, 0, 0, 0, 0, 0, 0, 0, 2] : List UInt8) ++ ([2, 0, 0, 0, 0, 0, 0, 0, 0, 0, 0, 0, 0, 0, 0, 0, 0, 0, 0, 0, 0, 0, 0, 0, 0, 0, 0, 0, 0, 0, 0, 2] : List UInt8)) 2 0 ([] : Lg) (1, (List.replicate 32 (0 : UInt8)), 1, [List.replicate 32 (0 : UInt8)].flatten)) (1, (List.replicate 32 (0 : UInt8)), 2, [anD true (([1, 0, 0, 0, 0, 0, 0, 0, 0, 0, 0, 0, 0, 0, 0, 0, 0, 0, 0, 0, 0, 0, 0, 0, 0, 0, 0, 0, 0, 0, 0, 2] : List UInt8) ++ ([2, 0, 0, 0, 0, 0, 0, 0, 0, 0, 0, 0, 0, 0, 0, 0, 0, 0, 0, 0, 0, 0, 0, 0, 0, 0, 0, 0, 0, 0, 0, 2] : List UInt8)) 2 0 ([] : Lg) (1, (List.replicate 32 (0 : UInt8)), 1, [List.replicate 32 (0 : UInt8)].flatten), leN 8 (UInt64.ofNat 3).toNat, List.replicate 128 (0 : UInt8)].flatten)).length) lc_40 b_66 _ (h_69.argR M4) (h_69.argR M0)) rfl ?_
 rintro _ w_71 ⟨rfl, hc_70⟩
 have h_72 := h_69.same hc_70
 refine qM (.tuple [(.agg ⟨(List.replicate 32 (0 : UInt8)).map vu8⟩), (vi 2)].toArray) rfl rfl (qV rfl (R.extract rfl rfl) (qV rfl (R.extract rfl rfl) ?_))
 refine WL.alloc (segs := [(32, (List.replicate 32 (0 : UInt8)).map vu8)]) h_72 (zv Tryz.typeInfo23 rfl) rfl (SsOk.cons (SOk.u8 lr) SsOk.nil) rfl (fun b_73 w_74 h_75 => ?_)
 refine WL.storeA (b := b_73) (off := 0) [] [(32, (List.replicate 32 (0 : UInt8)).map vu8)] [(32, (List.replicate 32 (0 : UInt8)).map vu8)] [] (ys := (List.replicate 32 (0 : UInt8)).map vu8) h_75 rfl rfl Tryz.sizeOf23 At.h (by decide) rfl rfl rfl rfl rfl rfl (SsOk.cons (SOk.u8 lr) SsOk.nil) (fun w_76 h_77 => ?_)
 refine qA (vi 2) rfl rfl ?_
 refine WL.nil (thn_n (WP.seq ?_))
 refine WP.drawT (SL w.heap.size [.blk b_73 .nw 23 [(32, (List.replicate 32 (0 : UInt8)).map vu8)], .blk b_66 .nw 70 [(1, [(vi 2)]), (32, (List.replicate 32 (0 : UInt8)).map vu8), (1, [(vi 0)]), (128, (List.replicate 128 (0 : UInt8)).map vu8), (1, [(vu64 0)]), (8, (List.replicate 8 (0 : UInt64)).map vu64), (1, [(.bool false)])], .blk b_60 .nw 23 [(32, (List.replicate 32 (0 : UInt8)).map vu8)], .blk b_52 .nw 23 [(32, (List.replicate 32 (0 : UInt8)).map vu8)], .blk b_44 .nw 23 [(32, (anD true (([1, 0, 0, 0, 0, 0, 0, 0, 0, 0, 0, 0, 0, 0, 0, 0, 0, 0, 0, 0, 0, 0, 0, 0, 0, 0, 0, 0, 0, 0, 0, 2] : List UInt8) ++ ([2, 0, 0, 0, 0, 0, 0, 0, 0, 0, 0, 0, 0, 0, 0, 0, 0, 0, 0, 0, 0, 0, 0, 0, 0, 0, 0, 0, 0, 0, 0, 2] : List UInt8)) 2 (anU true 0 ([] : Lg) (1, (List.replicate 32 (0 : UInt8)), 1, [List.replicate 32 (0 : UInt8)].flatten)) (anL true (([1, 0, 0, 0, 0, 0, 0, 0, 0, 0, 0, 0, 0, 0, 0, 0, 0, 0, 0, 0, 0, 0, 0, 0, 0, 0, 0, 0, 0, 0, 0, 2] : List UInt8) ++ ([2, 0, 0, 0, 0, 0, 0, 0, 0, 0, 0, 0, 0, 0, 0, 0, 0, 0, 0, 0, 0, 0, 0, 0, 0, 0, 0, 0, 0, 0, 0, 2] : List UInt8)) 2 0 ([] : Lg) (1, (List.replicate 32 (0 : UInt8)), 1, [List.replicate 32 (0 : UInt8)].flatten)) (1, (List.replicate 32 (0 : UInt8)), 2, [anD true (([1, 0, 0, 0, 0, 0, 0, 0, 0, 0, 0, 0, 0, 0, 0, 0, 0, 0, 0, 0, 0, 0, 0, 0, 0, 0, 0, 0, 0, 0, 0, 2] : List UInt8) ++ ([2, 0, 0, 0, 0, 0, 0, 0, 0, 0, 0, 0, 0, 0, 0, 0, 0, 0, 0, 0, 0, 0, 0, 0, 0, 0, 0, 0, 0, 0, 0, 2] : List UInt8)) 2 0 ([] : Lg) (1, (List.replicate 32 (0 : UInt8)), 1, [List.replicate 32 (0 : UInt8)].flatten), leN 8 (UInt64.ofNat 3).toNat, List.replicate 128 (0 : UInt8)].flatten)).map vu8)], .blk b_12 .nw 118 [(1, [(.bool true)]), (32, (List.replicate 32 (0 : UInt8)).map vu8), (1, [(.slice a_14 2 c_15)]), (1, [(vn (anU true (anU true 0 ([] : Lg) (1, (List.replicate 32 (0 : UInt8)), 1, [List.replicate 32 (0 : UInt8)].flatten)) (anL true (([1, 0, 0, 0, 0, 0, 0, 0, 0, 0, 0, 0, 0, 0, 0, 0, 0, 0, 0, 0, 0, 0, 0, 0, 0, 0, 0, 0, 0, 0, 0, 2] : List UInt8) ++ ([2, 0, 0, 0, 0, 0, 0, 0, 0, 0, 0, 0, 0, 0, 0, 0, 0, 0, 0, 0, 0, 0, 0, 0, 0, 0, 0, 0, 0, 0, 0, 2] : List UInt8)) 2 0 ([] : Lg) (1, (List.replicate 32 (0 : UInt8)), 1, [List.replicate 32 (0 : UInt8)].flatten)) (1, (List.replicate 32 (0 : UInt8)), 2, [anD true (([1, 0, 0, 0, 0, 0, 0, 0, 0, 0, 0, 0, 0, 0, 0, 0, 0, 0, 0, 0, 0, 0, 0, 0, 0, 0, 0, 0, 0, 0, 0, 2] : List UInt8) ++ ([2, 0, 0, 0, 0, 0, 0, 0, 0, 0, 0, 0, 0, 0, 0, 0, 0, 0, 0, 0, 0, 0, 0, 0, 0, 0, 0, 0, 0, 0, 0, 2] : List UInt8)) 2 0 ([] : Lg) (1, (List.replicate 32 (0 : UInt8)), 1, [List.replicate 32 (0 : UInt8)].flatten), leN 8 (UInt64.ofNat 3).toNat, List.replicate 128 (0 : UInt8)].flatten)))]), (1, [(.map (some b_13))]), (1, [(.slice la_39 ((anL true (([1, 0, 0, 0, 0, 0, 0, 0, 0, 0, 0, 0, 0, 0, 0, 0, 0, 0, 0, 0, 0, 0, 0, 0, 0, 0, 0, 0, 0, 0, 0, 2] : List UInt8) ++ ([2, 0, 0, 0, 0, 0, 0, 0, 0, 0, 0, 0, 0, 0, 0, 0, 0, 0, 0, 0, 0, 0, 0, 0, 0, 0, 0, 0, 0, 0, 0, 2] : List UInt8)) 2 (anU true 0 ([] : Lg) (1, (List.replicate 32 (0 : UInt8)), 1, [List.replicate 32 (0 : UInt8)].flatten)) (anL true (([1, 0, 0, 0, 0, 0, 0, 0, 0, 0, 0, 0, 0, 0, 0, 0, 0, 0, 0, 0, 0, 0, 0, 0, 0, 0, 0, 0, 0, 0, 0, 2] : List UInt8) ++ ([2, 0, 0, 0, 0, 0, 0, 0, 0, 0, 0, 0, 0, 0, 0, 0, 0, 0, 0, 0, 0, 0, 0, 0, 0, 0, 0, 0, 0, 0, 0, 2] : List UInt8)) 2 0 ([] : Lg) (1, (List.replicate 32 (0 : UInt8)), 1, [List.replicate 32 (0 : UInt8)].flatten)) (1, (List.replicate 32 (0 : UInt8)), 2, [anD true (([1, 0, 0, 0, 0, 0, 0, 0, 0, 0, 0, 0, 0, 0, 0, 0, 0, 0, 0, 0, 0, 0, 0, 0, 0, 0, 0, 0, 0, 0, 0, 2] : List UInt8) ++ ([2, 0, 0, 0, 0, 0, 0, 0, 0, 0, 0, 0, 0, 0, 0, 0, 0, 0, 0, 0, 0, 0, 0, 0, 0, 0, 0, 0, 0, 0, 0, 2] : List UInt8)) 2 0 ([] : Lg) (1, (List.replicate 32 (0 : UInt8)), 1, [List.replicate 32 (0 : UInt8)].flatten), leN 8 (UInt64.ofNat 3).toNat, List.replicate 128 (0 : UInt8)].flatten)).length) lc_40)])], .row la_39 ((anL true (([1, 0, 0, 0, 0, 0, 0, 0, 0, 0, 0, 0, 0, 0, 0, 0, 0, 0, 0, 0, 0, 0, 0, 0, 0, 0, 0, 0, 0, 0, 0, 2] : List UInt8) ++ ([2, 0, 0, 0, 0, 0, 0, 0, 0, 0, 0, 0, 0, 0, 0, 0, 0, 0, 0, 0, 0, 0, 0, 0, 0, 0, 0, 0, 0, 0, 0, 2] : List UInt8)) 2 (anU true 0 ([] : Lg) (1, (List.replicate 32 (0 : UInt8)), 1, [List.replicate 32 (0 : UInt8)].flatten)) (anL true (([1, 0, 0, 0, 0, 0, 0, 0, 0, 0, 0, 0, 0, 0, 0, 0, 0, 0, 0, 0, 0, 0, 0, 0, 0, 0, 0, 0, 0, 0, 0, 2] : List UInt8) ++ ([2, 0, 0, 0, 0, 0, 0, 0, 0, 0, 0, 0, 0, 0, 0, 0, 0, 0, 0, 0, 0, 0, 0, 0, 0, 0, 0, 0, 0, 0, 0, 2] : List UInt8)) 2 0 ([] : Lg) (1, (List.replicate 32 (0 : UInt8)), 1, [List.replicate 32 (0 : UInt8)].flatten)) (1, (List.replicate 32 (0 : UInt8)), 2, [anD true (([1, 0, 0, 0, 0, 0, 0, 0, 0, 0, 0, 0, 0, 0, 0, 0, 0, 0, 0, 0, 0, 0, 0, 0, 0, 0, 0, 0, 0, 0, 0, 2] : List UInt8) ++ ([2, 0, 0, 0, 0, 0, 0, 0, 0, 0, 0, 0, 0, 0, 0, 0, 0, 0, 0, 0, 0, 0, 0, 0, 0, 0, 0, 0, 0, 0, 0, 2] : List UInt8)) 2 0 ([] : Lg) (1, (List.replicate 32 (0 : UInt8)), 1, [List.replicate 32 (0 : UInt8)].flatten), leN 8 (UInt64.ofNat 3).toNat, List.replicate 128 (0 : UInt8)].flatten)).length) lc_40 96 67 lx_41, .obj b_13 .nw (.map (mArr (anL true (([1, 0, 0, 0, 0, 0, 0, 0, 0, 0, 0, 0, 0, 0, 0, 0, 0, 0, 0, 0, 0, 0, 0, 0, 0, 0, 0, 0, 0, 0, 0, 2] : List UInt8) ++ ([2, 0, 0, 0, 0, 0, 0, 0, 0, 0, 0, 0, 0, 0, 0, 0, 0, 0, 0, 0, 0, 0, 0, 0, 0, 0, 0, 0, 0, 0, 0, 2] : List UInt8)) 2 (anU true 0 ([] : Lg) (1, (List.replicate 32 (0 : UInt8)), 1, [List.replicate 32 (0 : UInt8)].flatten)) (anL true (([1, 0, 0, 0, 0, 0, 0, 0, 0, 0, 0, 0, 0, 0, 0, 0, 0, 0, 0, 0, 0, 0, 0, 0, 0, 0, 0, 0, 0, 0, 0, 2] : List UInt8) ++ ([2, 0, 0, 0, 0, 0, 0, 0, 0, 0, 0, 0, 0, 0, 0, 0, 0, 0, 0, 0, 0, 0, 0, 0, 0, 0, 0, 0, 0, 0, 0, 2] : List UInt8)) 2 0 ([] : Lg) (1, (List.replicate 32 (0 : UInt8)), 1, [List.replicate 32 (0 : UInt8)].flatten)) (1, (List.replicate 32 (0 : UInt8)), 2, [anD true (([1, 0, 0, 0, 0, 0, 0, 0, 0, 0, 0, 0, 0, 0, 0, 0, 0, 0, 0, 0, 0, 0, 0, 0, 0, 0, 0, 0, 0, 0, 0, 2] : List UInt8) ++ ([2, 0, 0, 0, 0, 0, 0, 0, 0, 0, 0, 0, 0, 0, 0, 0, 0, 0, 0, 0, 0, 0, 0, 0, 0, 0, 0, 0, 0, 0, 0, 2] : List UInt8)) 2 0 ([] : Lg) (1, (List.replicate 32 (0 : UInt8)), 1, [List.replicate 32 (0 : UInt8)].flatten), leN 8 (UInt64.ofNat 3).toNat, List.replicate 128 (0 : UInt8)].flatten))) ((anL true (([1, 0, 0, 0, 0, 0, 0, 0, 0, 0, 0, 0, 0, 0, 0, 0, 0, 0, 0, 0, 0, 0, 0, 0, 0, 0, 0, 0, 0, 0, 0, 2] : List UInt8) ++ ([2, 0, 0, 0, 0, 0, 0, 0, 0, 0, 0, 0, 0, 0, 0, 0, 0, 0, 0, 0, 0, 0, 0, 0, 0, 0, 0, 0, 0, 0, 0, 2] : List UInt8)) 2 (anU true 0 ([] : Lg) (1, (List.replicate 32 (0 : UInt8)), 1, [List.replicate 32 (0 : UInt8)].flatten)) (anL true (([1, 0, 0, 0, 0, 0, 0, 0, 0, 0, 0, 0, 0, 0, 0, 0, 0, 0, 0, 0, 0, 0, 0, 0, 0, 0, 0, 0, 0, 0, 0, 2] : List UInt8) ++ ([2, 0, 0, 0, 0, 0, 0, 0, 0, 0, 0, 0, 0, 0, 0, 0, 0, 0, 0, 0, 0, 0, 0, 0, 0, 0, 0, 0, 0, 0, 0, 2] : List UInt8)) 2 0 ([] : Lg) (1, (List.replicate 32 (0 : UInt8)), 1, [List.replicate 32 (0 : UInt8)].flatten)) (1, (List.replicate 32 (0 : UInt8)), 2, [anD true (([1, 0, 0, 0, 0, 0, 0, 0, 0, 0, 0, 0, 0, 0, 0, 0, 0, 0, 0, 0, 0, 0, 0, 0, 0, 0, 0, 0, 0, 0, 0, 2] : List UInt8) ++ ([2, 0, 0, 0, 0, 0, 0, 0, 0, 0, 0, 0, 0, 0, 0, 0, 0, 0, 0, 0, 0, 0, 0, 0, 0, 0, 0, 0, 0, 0, 0, 2] : List UInt8)) 2 0 ([] : Lg) (1, (List.replicate 32 (0 : UInt8)), 1, [List.replicate 32 (0 : UInt8)].flatten), leN 8 (UInt64.ofNat 3).toNat, List.replicate 128 (0 : UInt8)].flatten)).length)), .pin (sblks lx_41) (fun w => Lgs w lx_41 (anL true (([1, 0, 0, 0, 0, 0, 0, 0, 0, 0, 0, 0, 0, 0, 0, 0, 0, 0, 0, 0, 0, 0, 0, 0, 0, 0, 0, 0, 0, 0, 0, 2] : List UInt8) ++ ([2, 0, 0, 0, 0, 0, 0, 0, 0, 0, 0, 0, 0, 0, 0, 0, 0, 0, 0, 0, 0, 0, 0, 0, 0, 0, 0, 0, 0, 0, 0, 2] : List UInt8)) 2 (anU true 0 ([] : Lg) (1, (List.replicate 32 (0 : UInt8)), 1, [List.replicate 32 (0 : UInt8)].flatten)) (anL true (([1, 0, 0, 0, 0, 0, 0, 0, 0, 0, 0, 0, 0, 0, 0, 0, 0, 0, 0, 0, 0, 0, 0, 0, 0, 0, 0, 0, 0, 0, 0, 2] : List UInt8) ++ ([2, 0, 0, 0, 0, 0, 0, 0, 0, 0, 0, 0, 0, 0, 0, 0, 0, 0, 0, 0, 0, 0, 0, 0, 0, 0, 0, 0, 0, 0, 0, 2] : List UInt8)) 2 0 ([] : Lg) (1, (List.replicate 32 (0 : UInt8)), 1, [List.replicate 32 (0 : UInt8)].flatten)) (1, (List.replicate 32 (0 : UInt8)), 2, [anD true (([1, 0, 0, 0, 0, 0, 0, 0, 0, 0, 0, 0, 0, 0, 0, 0, 0, 0, 0, 0, 0, 0, 0, 0, 0, 0, 0, 0, 0, 0, 0, 2] : List UInt8) ++ ([2, 0, 0, 0, 0, 0, 0, 0, 0, 0, 0, 0, 0, 0, 0, 0, 0, 0, 0, 0, 0, 0, 0, 0, 0, 0, 0, 0, 0, 0, 0, 2] : List UInt8)) 2 0 ([] : Lg) (1, (List.replicate 32 (0 : UInt8)), 1, [List.replicate 32 (0 : UInt8)].flatten), leN 8 (UInt64.ofNat 3).toNat, List.replicate 128 (0 : UInt8)].flatten))), .view a_14 ((([1, 0, 0, 0, 0, 0, 0, 0, 0, 0, 0, 0, 0, 0, 0, 0, 0, 0, 0, 0, 0, 0, 0, 0, 0, 0, 0, 0, 0, 0, 0, 2] : List UInt8) ++ ([2, 0, 0, 0, 0, 0, 0, 0, 0, 0, 0, 0, 0, 0, 0, 0, 0, 0, 0, 0, 0, 0, 0, 0, 0, 0, 0, 0, 0, 0, 0, 2] : List UInt8)).map vu8), .blk b_29 .nw 23 [(32, (anD true (([1, 0, 0, 0, 0, 0, 0, 0, 0, 0, 0, 0, 0, 0, 0, 0, 0, 0, 0, 0, 0, 0, 0, 0, 0, 0, 0, 0, 0, 0, 0, 2] : List UInt8) ++ ([2, 0, 0, 0, 0, 0, 0, 0, 0, 0, 0, 0, 0, 0, 0, 0, 0, 0, 0, 0, 0, 0, 0, 0, 0, 0, 0, 0, 0, 0, 0, 2] : List UInt8)) 2 0 ([] : Lg) (1, (List.replicate 32 (0 : UInt8)), 1, [List.replicate 32 (0 : UInt8)].flatten)).map vu8)], .view (some ⟨b_7, 0, none⟩) ((([1, 0, 0, 0, 0, 0, 0, 0, 0, 0, 0, 0, 0, 0, 0, 0, 0, 0, 0, 0, 0, 0, 0, 0, 0, 0, 0, 0, 0, 0, 0, 2] : List UInt8) ++ ([2, 0, 0, 0, 0, 0, 0, 0, 0, 0, 0, 0, 0, 0, 0, 0, 0, 0, 0, 0, 0, 0, 0, 0, 0, 0, 0, 0, 0, 0, 0, 2] : List UInt8)).map vu8)]) (.q 0 (.s 1 (.q 2 (.q 3 (.q 4 (.s 5 (.q 6 (.q 7 (.q 8 (.q 9 (.q 11 (.s 10 (.s 12 (.q 13 (.q 14 (.q 15 (.q 16 (.q 17 (.s 18 (.q 19 (.q 20 (.q 21 (.q 22 (.s 23 (.q 24 (.q 25 (.q 26 (.q 27 (.s 28 (.q 29 (.q 30 (.q 31 .nil)))))))))))))))))))))))))))))))) (by kernel_rfl) (by kernel_rfl) rfl (by kernel_rfl) (fun w_78 hc_80 => (SL.cons ((h_77.same hc_80).ok _ M0) (SL.cons ((h_77.same hc_80).ok _ M1) (SL.cons ((h_77.same hc_80).ok _ M2) (SL.cons ((h_77.same hc_80).ok _ M3) (SL.cons ((h_77.same hc_80).ok _ M4) (SL.cons ((h_77.same hc_80).ok _ M5) (SL.cons ((h_77.same hc_80).ok _ M6) (SL.cons ((h_77.same hc_80).ok _ M7) (SL.cons ((h_77.same hc_80).ok _ M8) (SL.cons ((h_77.same hc_80).ok _ M9) (SL.cons ((h_77.same hc_80).ok _ M10) (SL.cons ((h_77.same hc_80).ok _ M11) (SL.nil _ _)))))))))))))) (fun w_78 hc_80 => ?_)
 have h_79 := h_77.same hc_80
 refine qT rfl rfl (fun wq hS => R.loadA [] [(32, (anD true (([1, 0, 0, 0, 0, 0, 0, 0, 0, 0, 0, 0, 0, 0, 0, 0, 0, 0, 0, 0, 0, 0, 0, 0, 0, 0, 0, 0, 0, 0, 0, 2] : List UInt8) ++ ([2, 0, 0, 0, 0, 0, 0, 0, 0, 0, 0, 0, 0, 0, 0, 0, 0, 0, 0, 0, 0, 0, 0, 0, 0, 0, 0, 0, 0, 0, 0, 2] : List UInt8)) 2 0 ([] : Lg) (1, (List.replicate 32 (0 : UInt8)), 1, [List.replicate 32 (0 : UInt8)].flatten)).map vu8)] [] (cs := (anD true (([1, 0, 0, 0, 0, 0, 0, 0, 0, 0, 0, 0, 0, 0, 0, 0, 0, 0, 0, 0, 0, 0, 0, 0, 0, 0, 0, 0, 0, 0, 0, 2] : List UInt8) ++ ([2, 0, 0, 0, 0, 0, 0, 0, 0, 0, 0, 0, 0, 0, 0, 0, 0, 0, 0, 0, 0, 0, 0, 0, 0, 0, 0, 0, 0, 0, 0, 2] : List UInt8)) 2 0 ([] : Lg) (1, (List.replicate 32 (0 : UInt8)), 1, [List.replicate 32 (0 : UInt8)].flatten)).map vu8) rfl Tryz.isAgg23 Tryz.sizeOf23 (hS _ M10) rfl rfl rfl rfl) ?_
 refine WT.s (oN rfl ?_)
 refine WL.call Tryz.call71 rfl rfl (c_dr1  _ ) rfl ?_
 rintro _ w_82 ⟨rfl, hc_81⟩
 have h_83 := h_79.same hc_81
 refine WL.nil ?_
 refine ⟨(N0_1_2_3_4_5_6_7_8_9_10_11 h_83.ok), ?_⟩
 refine qT rfl rfl (fun wq hS => R.eqA (xs := (anD true (([1, 0, 0, 0, 0, 0, 0, 0, 0, 0, 0, 0, 0, 0, 0, 0, 0, 0, 0, 0, 0, 0, 0, 0, 0, 0, 0, 0, 0, 0, 0, 2] : List UInt8) ++ ([2, 0, 0, 0, 0, 0, 0, 0, 0, 0, 0, 0, 0, 0, 0, 0, 0, 0, 0, 0, 0, 0, 0, 0, 0, 0, 0, 0, 0, 0, 0, 2] : List UInt8)) 2 0 ([] : Lg) (1, (List.replicate 32 (0 : UInt8)), 1, [List.replicate 32 (0 : UInt8)].flatten)).map vu8) (ys := ([1, 0, 0, 0, 0, 0, 0, 0, 0, 0, 0, 0, 0, 0, 0, 0, 0, 0, 0, 0, 0, 0, 0, 0, 0, 0, 0, 0, 0, 0, 0, 2] : List UInt8).map vu8) (r := true) rfl rfl Tryz.eqGuardType23 kt23 (by decide) ag23 (Typ.u8s Tryz.underlying23 ce23 Tryz.underlying5 ce5 (anD_len (rfl : List.length (([1, 0, 0, 0, 0, 0, 0, 0, 0, 0, 0, 0, 0, 0, 0, 0, 0, 0, 0, 0, 0, 0, 0, 0, 0, 0, 0, 0, 0, 0, 0, 2] : List UInt8) ++ ([2, 0, 0, 0, 0, 0, 0, 0, 0, 0, 0, 0, 0, 0, 0, 0, 0, 0, 0, 0, 0, 0, 0, 0, 0, 0, 0, 0, 0, 0, 0, 2] : List UInt8)) = 64) h32_w_27)) (Typ.u8s Tryz.underlying23 ce23 Tryz.underlying5 ce5 (rfl : List.length ([1, 0, 0, 0, 0, 0, 0, 0, 0, 0, 0, 0, 0, 0, 0, 0, 0, 0, 0, 0, 0, 0, 0, 0, 0, 0, 0, 0, 0, 0, 0, 2] : List UInt8) = 32)) (eqT (congrArg (List.map vu8) (by decide +kernel)))) ?_
 refine qT rfl rfl (fun wq hS => R.move (v := (.bool true)) rfl) ?_
 refine WT.q rfl (Wn.yes rfl rfl rfl) rfl rfl (fun wq hS => R.loadA [] [(32, (anD true (([1, 0, 0, 0, 0, 0, 0, 0, 0, 0, 0, 0, 0, 0, 0, 0, 0, 0, 0, 0, 0, 0, 0, 0, 0, 0, 0, 0, 0, 0, 0, 2] : List UInt8) ++ ([2, 0, 0, 0, 0, 0, 0, 0, 0, 0, 0, 0, 0, 0, 0, 0, 0, 0, 0, 0, 0, 0, 0, 0, 0, 0, 0, 0, 0, 0, 0, 2] : List UInt8)) 2 (anU true 0 ([] : Lg) (1, (List.replicate 32 (0 : UInt8)), 1, [List.replicate 32 (0 : UInt8)].flatten)) (anL true (([1, 0, 0, 0, 0, 0, 0, 0, 0, 0, 0, 0, 0, 0, 0, 0, 0, 0, 0, 0, 0, 0, 0, 0, 0, 0, 0, 0, 0, 0, 0, 2] : List UInt8) ++ ([2, 0, 0, 0, 0, 0, 0, 0, 0, 0, 0, 0, 0, 0, 0, 0, 0, 0, 0, 0, 0, 0, 0, 0, 0, 0, 0, 0, 0, 0, 0, 2] : List UInt8)) 2 0 ([] : Lg) (1, (List.replicate 32 (0 : UInt8)), 1, [List.replicate 32 (0 : UInt8)].flatten)) (1, (List.replicate 32 (0 : UInt8)), 2, [anD true (([1, 0, 0, 0, 0, 0, 0, 0, 0, 0, 0, 0, 0, 0, 0, 0, 0, 0, 0, 0, 0, 0, 0, 0, 0, 0, 0, 0, 0, 0, 0, 2] : List UInt8) ++ ([2, 0, 0, 0, 0, 0, 0, 0, 0, 0, 0, 0, 0, 0, 0, 0, 0, 0, 0, 0, 0, 0, 0, 0, 0, 0, 0, 0, 0, 0, 0, 2] : List UInt8)) 2 0 ([] : Lg) (1, (List.replicate 32 (0 : UInt8)), 1, [List.replicate 32 (0 : UInt8)].flatten), leN 8 (UInt64.ofNat 3).toNat, List.replicate 128 (0 : UInt8)].flatten)).map vu8)] [] (cs := (anD true (([1, 0, 0, 0, 0, 0, 0, 0, 0, 0, 0, 0, 0, 0, 0, 0, 0, 0, 0, 0, 0, 0, 0, 0, 0, 0, 0, 0, 0, 0, 0, 2] : List UInt8) ++ ([2, 0, 0, 0, 0, 0, 0, 0, 0, 0, 0, 0, 0, 0, 0, 0, 0, 0, 0, 0, 0, 0, 0, 0, 0, 0, 0, 0, 0, 0, 0, 2] : List UInt8)) 2 (anU true 0 ([] : Lg) (1, (List.replicate 32 (0 : UInt8)), 1, [List.replicate 32 (0 : UInt8)].flatten)) (anL true (([1, 0, 0, 0, 0, 0, 0, 0, 0, 0, 0, 0, 0, 0, 0, 0, 0, 0, 0, 0, 0, 0, 0, 0, 0, 0, 0, 0, 0, 0, 0, 2] : List UInt8) ++ ([2, 0, 0, 0, 0, 0, 0, 0, 0, 0, 0, 0, 0, 0, 0, 0, 0, 0, 0, 0, 0, 0, 0, 0, 0, 0, 0, 0, 0, 0, 0, 2] : List UInt8)) 2 0 ([] : Lg) (1, (List.replicate 32 (0 : UInt8)), 1, [List.replicate 32 (0 : UInt8)].flatten)) (1, (List.replicate 32 (0 : UInt8)), 2, [anD true (([1, 0, 0, 0, 0, 0, 0, 0, 0, 0, 0, 0, 0, 0, 0, 0, 0, 0, 0, 0, 0, 0, 0, 0, 0, 0, 0, 0, 0, 0, 0, 2] : List UInt8) ++ ([2, 0, 0, 0, 0, 0, 0, 0, 0, 0, 0, 0, 0, 0, 0, 0, 0, 0, 0, 0, 0, 0, 0, 0, 0, 0, 0, 0, 0, 0, 0, 2] : List UInt8)) 2 0 ([] : Lg) (1, (List.replicate 32 (0 : UInt8)), 1, [List.replicate 32 (0 : UInt8)].flatten), leN 8 (UInt64.ofNat 3).toNat, List.replicate 128 (0 : UInt8)].flatten)).map vu8) rfl Tryz.isAgg23 Tryz.sizeOf23 (hS _ M4) rfl rfl rfl rfl) ?_
 refine WT.s ?_
 refine Op1.one rfl (Wn.yes rfl rfl rfl) ?_
 refine WL.call Tryz.call71 rfl rfl (c_dr2  _ ) rfl ?_
 rintro _ w_85 ⟨rfl, hc_84⟩
 have h_86 := h_83.same hc_84
 refine WL.nil ?_
 refine ⟨(N0_1_2_3_4_5_6_7_8_9_10_11 h_86.ok), ?_⟩
 refine WT.q rfl (Wn.yes rfl rfl rfl) rfl rfl (fun wq hS => R.eqA (xs := (anD true (([1, 0, 0, 0, 0, 0, 0, 0, 0, 0, 0, 0, 0, 0, 0, 0, 0, 0, 0, 0, 0, 0, 0, 0, 0, 0, 0, 0, 0, 0, 0, 2] : List UInt8) ++ ([2, 0, 0, 0, 0, 0, 0, 0, 0, 0, 0, 0, 0, 0, 0, 0, 0, 0, 0, 0, 0, 0, 0, 0, 0, 0, 0, 0, 0, 0, 0, 2] : List UInt8)) 2 (anU true 0 ([] : Lg) (1, (List.replicate 32 (0 : UInt8)), 1, [List.replicate 32 (0 : UInt8)].flatten)) (anL true (([1, 0, 0, 0, 0, 0, 0, 0, 0, 0, 0, 0, 0, 0, 0, 0, 0, 0, 0, 0, 0, 0, 0, 0, 0, 0, 0, 0, 0, 0, 0, 2] : List UInt8) ++ ([2, 0, 0, 0, 0, 0, 0, 0, 0, 0, 0, 0, 0, 0, 0, 0, 0, 0, 0, 0, 0, 0, 0, 0, 0, 0, 0, 0, 0, 0, 0, 2] : List UInt8)) 2 0 ([] : Lg) (1, (List.replicate 32 (0 : UInt8)), 1, [List.replicate 32 (0 : UInt8)].flatten)) (1, (List.replicate 32 (0 : UInt8)), 2, [anD true (([1, 0, 0, 0, 0, 0, 0, 0, 0, 0, 0, 0, 0, 0, 0, 0, 0, 0, 0, 0, 0, 0, 0, 0, 0, 0, 0, 0, 0, 0, 0, 2] : List UInt8) ++ ([2, 0, 0, 0, 0, 0, 0, 0, 0, 0, 0, 0, 0, 0, 0, 0, 0, 0, 0, 0, 0, 0, 0, 0, 0, 0, 0, 0, 0, 0, 0, 2] : List UInt8)) 2 0 ([] : Lg) (1, (List.replicate 32 (0 : UInt8)), 1, [List.replicate 32 (0 : UInt8)].flatten), leN 8 (UInt64.ofNat 3).toNat, List.replicate 128 (0 : UInt8)].flatten)).map vu8) (ys := ([2, 0, 0, 0, 0, 0, 0, 0, 0, 0, 0, 0, 0, 0, 0, 0, 0, 0, 0, 0, 0, 0, 0, 0, 0, 0, 0, 0, 0, 0, 0, 2] : List UInt8).map vu8) (r := true) rfl rfl Tryz.eqGuardType23 kt23 (by decide) ag23 (Typ.u8s Tryz.underlying23 ce23 Tryz.underlying5 ce5 (anD_len (rfl : List.length (([1, 0, 0, 0, 0, 0, 0, 0, 0, 0, 0, 0, 0, 0, 0, 0, 0, 0, 0, 0, 0, 0, 0, 0, 0, 0, 0, 0, 0, 0, 0, 2] : List UInt8) ++ ([2, 0, 0, 0, 0, 0, 0, 0, 0, 0, 0, 0, 0, 0, 0, 0, 0, 0, 0, 0, 0, 0, 0, 0, 0, 0, 0, 0, 0, 0, 0, 2] : List UInt8)) = 64) h32_w_42)) (Typ.u8s Tryz.underlying23 ce23 Tryz.underlying5 ce5 (rfl : List.length ([2, 0, 0, 0, 0, 0, 0, 0, 0, 0, 0, 0, 0, 0, 0, 0, 0, 0, 0, 0, 0, 0, 0, 0, 0, 0, 0, 0, 0, 0, 0, 2] : List UInt8) = 32)) (eqT (congrArg (List.map vu8) (by decide +kernel)))) ?_
 refine qT rfl rfl (fun wq hS => R.pickT (v := (.bool true)) rfl rfl) ?_
 refine qT rfl rfl (fun wq hS => R.move (v := (.bool true)) rfl) ?_
 refine WT.q rfl (Wn.yes rfl rfl rfl) rfl rfl (fun wq hS => R.move (v := (vi 0)) rfl) ?_
 refine WT.q rfl (Wn.yes rfl rfl rfl) rfl rfl (fun wq hS => R.move (v := (vi 0)) rfl) ?_
 refine WT.s ?_
 refine Op1.one rfl (Wn.yes rfl rfl rfl) ?_
 refine WL.call Tryz.call26 rfl rfl (c_num12 0 (by omega) _ ) rfl ?_
 rintro _ w_88 ⟨rfl, hc_87⟩
 have h_89 := h_86.same hc_87
 refine WL.nil ?_
 refine ⟨(N0_1_2_3_4_5_6_7_8_9_10_11 h_89.ok), ?_⟩
 refine WT.s ?_
 refine Op1.one rfl (Wn.yes rfl rfl rfl) ?_
 refine WL.call Tryz.call26 rfl rfl (c_num12 0 (by omega) _ ) rfl ?_
 rintro _ w_91 ⟨rfl, hc_90⟩
 have h_92 := h_89.same hc_90
 refine WL.nil ?_
 refine ⟨(N0_1_2_3_4_5_6_7_8_9_10_11 h_92.ok), ?_⟩
 refine WT.q rfl (Wn.yes rfl rfl rfl) rfl rfl (fun wq hS => R.bin rfl rfl (bi_add (c := 0) (by omega) (by omega))) ?_
 refine WT.q rfl (Wn.yes rfl rfl rfl) rfl rfl (fun wq hS => R.bin rfl rfl (bi_eql (r := true) (by decide))) ?_
 refine qT rfl rfl (fun wq hS => R.pickT (v := (.bool true)) rfl rfl) ?_
 refine qT rfl rfl (fun wq hS => R.move (v := (.bool true)) rfl) ?_
 refine WT.q rfl (Wn.yes rfl rfl rfl) rfl rfl (fun wq hS => R.move (v := (vi 2)) rfl) ?_
 refine WT.s ?_
 refine Op1.one rfl (Wn.yes rfl rfl rfl) ?_
 refine WL.call Tryz.call26 rfl rfl (c_num12 2 (by omega) _ ) rfl ?_
 rintro _ w_94 ⟨rfl, hc_93⟩
 have h_95 := h_92.same hc_93
 refine WL.nil ?_
 refine ⟨(N0_1_2_3_4_5_6_7_8_9_10_11 h_95.ok), ?_⟩
 refine WT.q rfl (Wn.yes rfl rfl rfl) rfl rfl (fun wq hS => R.bin rfl rfl (bi_eql (r := true) (by decide))) ?_
 refine qT rfl rfl (fun wq hS => R.pickT (v := (.bool true)) rfl rfl) ?_
 refine qT rfl rfl (fun wq hS => R.move (v := (.bool true)) rfl) ?_
 refine WT.q rfl (Wn.yes rfl rfl rfl) rfl rfl (fun wq hS => R.move (v := (vi 2)) rfl) ?_
 refine WT.s ?_
 refine Op1.one rfl (Wn.yes rfl rfl rfl) ?_
 refine WL.call Tryz.call26 rfl rfl (c_num12 2 (by omega) _ ) rfl ?_
 rintro _ w_97 ⟨rfl, hc_96⟩
 have h_98 := h_95.same hc_96
 refine WL.nil ?_
 refine ⟨(N0_1_2_3_4_5_6_7_8_9_10_11 h_98.ok), ?_⟩
 refine WT.q rfl (Wn.yes rfl rfl rfl) rfl rfl (fun wq hS => R.bin rfl rfl (bi_eql (r := true) (by decide))) ?_
 refine qT rfl rfl (fun wq hS => R.pickT (v := (.bool true)) rfl rfl) ?_
 refine qT rfl rfl (fun wq hS => R.move (v := (.bool true)) rfl) ?_
 refine WT.q rfl (Wn.yes rfl rfl rfl) rfl rfl (fun wq hS => R.move (v := (vi 2)) rfl) ?_
 refine WT.s ?_
 refine Op1.one rfl (Wn.yes rfl rfl rfl) ?_
 refine WL.call Tryz.call26 rfl rfl (c_num12 2 (by omega) _ ) rfl ?_
 rintro _ w_100 ⟨rfl, hc_99⟩
 have h_101 := h_98.same hc_99
 refine WL.nil ?_
 refine ⟨(N0_1_2_3_4_5_6_7_8_9_10_11 h_101.ok), ?_⟩
 refine WT.q rfl (Wn.yes rfl rfl rfl) rfl rfl (fun wq hS => R.bin rfl rfl (bi_eql (r := true) (by decide))) ?_
 refine qT rfl rfl (fun wq hS => R.pickT (v := (.bool true)) rfl rfl) ?_
 refine qT rfl rfl (fun wq hS => R.assign (v := (.bool true)) rfl) ?_
 refine WT.nil (thn_n (WP.ret ?_))
 refine ret_of Tryz.results23 (RV.tmp (v := (.bool true)) rfl RV.nil) ?_
 exact ⟨rfl, h_101.chgS⟩
end Go.Proofs.YteclkcpdclimnaaGreat

namespace Go.Proofs.YteclkcpdclimnaaGreat
open Go.Vc Go.Orc Go.Sh Go.RowKit
set_option maxRecDepth 20000
theorem el128 : ElT Tryz.prog 128 88 1 24 := ElT.mk' Tryz.underlying128 (i := Tryz.t88) rfl rfl rfl rfl rfl rfl
theorem flat_take {ls : List (List UInt8)} {k : Nat} (h : k < ls.length) : (ls.take (k + 1)).flatten = (ls.take k).flatten ++ ls.getD k [] := by
 rw [take_snoc ls k [] h, List.flatten_append]; simp
theorem flat_take_le (ls : List (List UInt8)) (k : Nat) : ((ls.take k).flatten).length ≤ ls.flatten.length := by
 have h : ls.flatten = (ls.take k).flatten ++ (ls.drop k).flatten := by rw [← List.flatten_append, List.take_append_drop]
 rw [h, List.length_append]; omega
theorem ovr_ovr {α : Type} {g A B : List α} {i : Nat} (h : i + A.length + B.length ≤ g.length) : ovr (ovr g i A) (i + A.length) B = ovr g i (A ++ B) := by
 have h1 : (g.take i ++ A).length = i + A.length := by rw [List.length_append, List.length_take]; omega
 have e : ovr g i A = (g.take i ++ A) ++ g.drop (i + A.length) := by rw [ovr, List.append_assoc]
 rw [e, ovr, ← h1, List.take_left, List.drop_append, h1, List.drop_of_length_le (by omega), List.nil_append, List.drop_drop, ovr]
 simp only [List.append_assoc, List.length_append]
 congr 4; omega
theorem gr_B {C : List UInt8} (h : C.length ≤ 128) : ovr (List.replicate 128 (0 : UInt8)) 0 C = C ++ List.replicate (128 - C.length) (0 : UInt8) := by
 rw [ovr, List.take_zero, List.nil_append, Nat.zero_add, List.drop_replicate]
theorem gr_P {A B : List UInt8} (hA : A.length ≤ 8) (hB : B.length ≤ 120) : ovr (ovr (List.replicate 128 (0 : UInt8)) 0 A) 8 B = (A ++ List.replicate (8 - A.length) (0 : UInt8)) ++ B ++ List.replicate (120 - B.length) (0 : UInt8) := by
 have e : List.replicate (128 - A.length) (0 : UInt8) = List.replicate (8 - A.length) (0 : UInt8) ++ List.replicate 120 (0 : UInt8) := by
  rw [List.replicate_append_replicate]; congr 1; omega
 have l8 : (A ++ List.replicate (8 - A.length) (0 : UInt8)).length = 8 := by rw [List.length_append, List.length_replicate]; omega
 rw [gr_B (by omega), e, ← List.append_assoc, ovr]
 conv => lhs; rw [show ((A ++ List.replicate (8 - A.length) (0 : UInt8)) ++ List.replicate 120 (0 : UInt8)).take 8 = (A ++ List.replicate (8 - A.length) (0 : UInt8)) from List.take_left' l8]
 rw [← List.drop_drop, List.drop_left' l8, List.drop_replicate]
 simp only [List.append_assoc]
def recL (pc : UInt64) (rg : List UInt64) (run : Bool) : List (List UInt8) := [leN 8 pc.toNat, leN 8 (rg.getD 0 0).toNat, leN 8 (rg.getD 1 0).toNat, leN 8 (rg.getD 2 0).toNat, leN 8 (rg.getD 3 0).toNat, leN 8 (rg.getD 4 0).toNat, leN 8 (rg.getD 5 0).toNat, leN 8 (rg.getD 6 0).toNat, leN 8 (rg.getD 7 0).toNat] ++ (bif run then [[1]] else [])
def recP (pc : UInt64) (rg : List UInt64) (run : Bool) : List UInt8 := ovr (ovr (List.replicate 128 (0 : UInt8)) 0 ([114, 101, 99] : List UInt8)) 8 (recL pc rg run).flatten
def regsB (rg : List UInt64) : List UInt8 := ((((((((([] : List UInt8) ++ leN 8 (rg.getD 0 0).toNat) ++ leN 8 (rg.getD 1 0).toNat) ++ leN 8 (rg.getD 2 0).toNat) ++ leN 8 (rg.getD 3 0).toNat) ++ leN 8 (rg.getD 4 0).toNat) ++ leN 8 (rg.getD 5 0).toNat) ++ leN 8 (rg.getD 6 0).toNat) ++ leN 8 (rg.getD 7 0).toNat)
theorem regsB_len (rg : List UInt64) : (regsB rg).length = 64 := by simp [regsB, leN_len]
def recB (pc : UInt64) (rg : List UInt64) (run : Bool) : List UInt8 := ovr (List.replicate 128 (0 : UInt8)) 0 [(([114, 101, 99] : List UInt8) ++ List.replicate (8 - 3) (0 : UInt8)), leN 8 pc.toNat, regsB rg, [bif run then 1 else 0]].flatten
theorem recB_fl (pc : UInt64) (rg : List UInt64) (run : Bool) : ([(([114, 101, 99] : List UInt8) ++ List.replicate (8 - 3) (0 : UInt8)), leN 8 pc.toNat, regsB rg, [bif run then 1 else 0]].flatten).length = 81 := by
 simp [leN_len, regsB_len]
theorem recB_len (pc : UInt64) (rg : List UInt64) (run : Bool) : (recB pc rg run).length = 128 := ovr_len lr (by rw [recB_fl]; decide)
theorem recP_fl (pc : UInt64) (rg : List UInt64) (run : Bool) : ((recL pc rg run).flatten).length = 72 + run.toNat := by
 cases run <;> simp [recL, leN_len]
theorem rec_eq (pc : UInt64) (rg : List UInt64) (run : Bool) : recP pc rg run = recB pc rg run := by
 rw [recP, recB, gr_P (by decide) (by rw [recP_fl]; cases run <;> decide), gr_B (by rw [recB_fl]; decide), recP_fl, recB_fl]
 cases run <;> simp [recL, regsB]

theorem c_pword (x : UInt64) (w : World) :
  Cs Tryz.prog 129 [(vu64 x)].toArray w (fun v w1 => ∃ a cap, v = .slice a 8 cap ∧ Chg w w1 [] ∧ Own w.heap.size w1 5 1 a 8 cap ((leN 8 x.toNat).map vu8)) := by
 refine Cs.of (n := 11) (args := [(vu64 x)]) Tryz.func129 rfl rfl rfl ?_
 have h_0 := HP.init w
 refine WP.seq (WP.reg ?_)
 refine qA (.slice none 0 0) rfl rfl ?_
 refine WL.nil (thn_n (WP.seq (WP.reg ?_)))
 refine qM (vu64 x) rfl rfl ?_
 refine WL.call Tryz.call73 rfl rfl (c_Put_b x 8 rfl _) rfl ?_
 rintro _ w_3 ⟨a_1, cap_2, rfl, hc_4, ho_5⟩
 have h_6 := h_0.gotRow hc_4 ho_5
 refine qM (.tuple [(.slice a_1 8 cap_2), (vi 0)].toArray) rfl rfl (qV rfl (R.extract rfl rfl) (qV rfl (R.extract rfl rfl) (qA (.slice a_1 8 cap_2) rfl rfl (qA (vi 0) rfl rfl ?_))))
 refine WL.nil (thn_n (WP.seq (WP.reg ?_)))
 refine qM (.slice a_1 8 cap_2) rfl rfl (qA (.slice a_1 8 cap_2) rfl rfl ?_)
 refine WL.nil (thn_n (WP.ret ?_))
 refine ret_of Tryz.results129 (RV.tmp (v := (.slice a_1 8 cap_2)) rfl RV.nil) ?_
 exact ⟨_, _, rfl, h_6.chgS, h_6.ok _ M0⟩

theorem c_rword10 (x : UInt64) (w : World) :
  Cs Tryz.prog 107 [(vu64 x)].toArray w (fun v w1 => ∃ a cap, v = .slice a 8 cap ∧ Chg w w1 [] ∧ Own w.heap.size w1 5 1 a 8 cap ((leN 8 x.toNat).map vu8)) := by
 refine Cs.of (n := 5) (args := [(vu64 x)]) Tryz.func107 rfl rfl rfl ?_
 have h_0 := HP.init w
 refine WP.seq (WP.reg ?_)
 refine qA (.slice none 0 0) rfl rfl ?_
 refine WL.nil (thn_n (WP.seq (WP.reg ?_)))
 refine qM (vu64 x) rfl rfl ?_
 refine WL.call Tryz.call62 rfl rfl (c_PutR x 8 (by omega) _) rfl ?_
 rintro _ w_3 ⟨a_1, cap_2, rfl, hc_4, ho_5⟩
 have h_6 := h_0.gotRow hc_4 ho_5
 refine qA (.slice a_1 8 cap_2) rfl rfl ?_
 refine WL.nil (thn_n (WP.ret ?_))
 refine ret_of Tryz.results107 (RV.tmp (v := (.slice a_1 8 cap_2)) rfl RV.nil) ?_
 exact ⟨_, _, rfl, h_6.chgS, h_6.ok _ M0⟩

theorem c_mark (m : Nat) (l : List UInt8) (hl : l.length = m) (hm : m ≤ 8) (w : World) :
  Cs Tryz.prog 109 [(.string (bstr l))].toArray w (fun v w1 => ∃ a cap, v = .slice a 8 cap ∧ Chg w w1 [] ∧ Own w.heap.size w1 5 1 a 8 cap ((l ++ List.replicate (8 - m) (0 : UInt8)).map vu8)) := by
 refine Cs.of (n := 9) (args := [(.string (bstr l))]) Tryz.func109 rfl rfl rfl ?_
 have h_0 := HP.init w
 refine WP.seq (WP.reg ?_)
 refine qA (.slice none 0 0) rfl rfl ?_
 refine WL.nil (thn_n (WP.seq (WP.reg ?_)))
 refine qM (.string (bstr l)) rfl rfl ?_
 refine WL.toBytes (bs := l) h_0 rfl Tryz.underlying9 Tryz.underlying88 Tryz.underlying5 (by simp only [maxLen]; first | decide | omega) rfl (fun a_1 c_2 w_3 h_4 => ?_)
 refine qM (.string (bstr l)) rfl rfl (qV rfl (R.lenStrL (l := l) (m := m) rfl rfl Tryz.underlying9 hl) (qV rfl (R.bin rfl rfl (bi_sub (c := ((8 - m : Nat) : Int)) (by omega) (by omega))) ?_))
 refine WL.appendZ (i := Tryz.t5) (m := 8 - m) (km := 8) (xs := l.map vu8) (zs := (l ++ List.replicate (8 - m) (0 : UInt8)).map vu8) h_4 rfl rfl Tryz.underlying88 Tryz.underlying3 rfl rfl rfl rfl (by simp only [List.map_append, List.map_replicate, List.map_nil]) (by omega) (by omega) (fun _ _ => At.h) rfl (fun a_5 c_6 w_7 h_8 => ?_)
 refine qA (.slice a_5 8 c_6) rfl rfl ?_
 refine WL.nil (thn_n (WP.ret ?_))
 refine ret_of Tryz.results109 (RV.tmp (v := (.slice a_5 8 c_6)) rfl RV.nil) ?_
 exact ⟨_, _, rfl, h_8.chgS, h_8.ok _ M0⟩

theorem c_granR (a : Option Addr) (n cap : Nat) (xs : List Value) (ls : List (List UInt8)) (hln : ls.length = n) (hb : ls.flatten.length ≤ 128) (hnb : n ≤ 1099511627776) (w : World) (hv : View w a xs) (hs : Sls w xs ls) :
  Cs Tryz.prog 108 [(.slice a n cap)].toArray w (fun v w1 => v = .agg ⟨(ovr (List.replicate 128 (0 : UInt8)) 0 ls.flatten).map vu8⟩ ∧ Chg w w1 []) := by
 refine Cs.of (n := 9) (args := [(.slice a n cap)]) Tryz.func108 rfl rfl rfl ?_
 have h_0 := HP.init w
 have h_01 := h_0.old (View.arg hv) (fun f hf => by cases hf)
 have h_00 := h_01.old hs.pin (fun f hf => by rw [List.mem_singleton] at hf; subst hf; intro hm; simp [Ent.mut] at hm)
 have hxl : xs.length = n := hs.len.trans hln
 refine WP.seq (WP.reg ?_)
 refine WL.alloc (segs := [(128, (List.replicate 128 (0 : UInt8)).map vu8)]) h_00 (zv Tryz.typeInfo29 rfl) rfl (SsOk.cons (SOk.u8 lr) SsOk.nil) rfl (fun b_1 w_2 h_3 => ?_)
 refine WL.nil (thn_n (WP.seq (WP.reg ?_)))
 refine WL.alloc (segs := [(128, (List.replicate 128 (0 : UInt8)).map vu8)]) h_3 (zv Tryz.typeInfo29 rfl) rfl (SsOk.cons (SOk.u8 lr) SsOk.nil) rfl (fun b_4 w_5 h_6 => ?_)
 refine WL.nil (thn_n (WP.seq ?_))
 refine WP.drawT (SL w.heap.size [.blk b_1 .nw 29 [(128, (List.replicate 128 (0 : UInt8)).map vu8)], .pin (sblks xs) (fun w => Sls w xs ls), .view a xs]) (.q 0 (.q 1 (.s 2 (.s 3 .nil)))) (by kernel_rfl) (by kernel_rfl) rfl (by kernel_rfl) (fun w_7 hc_9 => (SL.cons ((h_6.same hc_9).ok _ M1) (SL.cons ((h_6.same hc_9).ok _ M2) (SL.cons ((h_6.same hc_9).ok _ M3) (SL.nil _ _))))) (fun w_7 hc_9 => ?_)
 have h_8 := h_6.same hc_9
 refine qT rfl rfl (fun wq hS => R.sliceA (b := b_4) (off := 0) (off' := 0) (l := 0) (h := 128) rfl EvB.dflt EvB.dflt (by decide) (by decide) Tryz.underlying29 Tryz.sizeOf5 rfl) ?_
 refine qT rfl rfl (fun wq hS => R.move (v := (.slice a n cap)) rfl) ?_
 refine WT.s (oN rfl ?_)
 refine WL.call Tryz.call74 rfl rfl (c_JoinR a n cap xs ls hln (by omega) (by omega) _ (viewV (h_8.ok _ M3)) (h_8.ok _ M2).1) rfl ?_
 rintro _ w_12 ⟨a_10, cap_11, rfl, hc_13, ho_14⟩
 have h_15 := h_8.gotRow hc_13 ho_14
 refine WL.nil ?_
 refine ⟨(N2_3_4 h_15.ok), ?_⟩
 refine WT.s (oN rfl ?_)
 refine WL.copy (q := ls.flatten.length) (i := 0) (ys := ls.flatten.map vu8) (cs' := (ovr (List.replicate 128 (0 : UInt8)) 0 ls.flatten).map vu8) h_15 rfl rfl Tryz.underlying88 Tryz.sizeOf5 (ownView (h_15.ok _ M0)) (len_map (rfl : List.length ls.flatten = ls.flatten.length)) (one_u8 _) Y1 (by decide) Sg.h rfl (Nat.min_eq_left (by omega)) (by rw [len_map lr]; omega) (cpOvr (rfl : List.length ls.flatten = ls.flatten.length)) rfl (fun w_16 h_17 => ?_)
 refine WL.nil ?_
 refine ⟨(N2_3_4 h_17.ok), ?_⟩
 refine WT.nil (thn_n (WP.seq (WP.reg ?_)))
 refine qV rfl (R.loadA [] [(128, (ovr (List.replicate 128 (0 : UInt8)) 0 ls.flatten).map vu8)] [] (cs := (ovr (List.replicate 128 (0 : UInt8)) 0 ls.flatten).map vu8) rfl Tryz.isAgg29 Tryz.sizeOf29 (h_17.ok _ M1) rfl rfl rfl rfl) ?_
 refine WL.storeA (b := b_1) (off := 0) [] [(128, (List.replicate 128 (0 : UInt8)).map vu8)] [(128, (ovr (List.replicate 128 (0 : UInt8)) 0 ls.flatten).map vu8)] [] (ys := (ovr (List.replicate 128 (0 : UInt8)) 0 ls.flatten).map vu8) h_17 rfl rfl Tryz.sizeOf29 Y2 (by decide) rfl rfl rfl rfl rfl rfl (SsOk.cons (SOk.u8 (ovr_len lr (by rw [(rfl : List.length ls.flatten = ls.flatten.length)]; omega))) SsOk.nil) (fun w_18 h_19 => ?_)
 refine WL.nil (thn_n (WP.ret ?_))
 refine ret_of Tryz.results108 (RV.cell rfl (h_19.loadA (cs := (ovr (List.replicate 128 (0 : UInt8)) 0 ls.flatten).map vu8) Tryz.isAgg29 Tryz.sizeOf29 M2 rfl rfl) RV.nil) ?_
 exact ⟨rfl, h_19.chgS⟩

theorem c_gran1 (a : Option Addr) (n cap : Nat) (bs : List UInt8) (hl : bs.length = n) (ba bg : Nat) (Ta Tg : TypeId) (at_ : Nat) (g : List UInt8) (hg : g.length = 128) (hat : at_ + n ≤ 128) (hat1 : at_ < 128) (w : World) (hba : (Ent.blk ba .ar Ta [(1, [vi (at_ : Int)])]).ok w.heap.size w) (hbg : (Ent.blk bg .ar Tg [(128, g.map vu8)]).ok w.heap.size w) (hne : bg ≠ ba) (hv : View w a (bs.map vu8)) (hs1 : Sep (.view a (bs.map vu8)) (.blk bg .ar Tg [(128, g.map vu8)])) (hs2 : Sep (.view a (bs.map vu8)) (.blk ba .ar Ta [(1, [vi (at_ : Int)])])) :
  Cs Tryz.prog 151 [(.slice a n cap), (.pointer (some ⟨ba, 0, none⟩)), (.pointer (some ⟨bg, 0, none⟩))].toArray w (fun v w1 => v = .tuple [].toArray ∧ Chg w w1 [bg, ba] ∧ CellsAt w1 bg Tg (flat [(128, (ovr g at_ bs).map vu8)]) ∧ CellsAt w1 ba Ta (flat [(1, [vi ((at_ + n : Nat) : Int)])])) := by
 refine Cs.of (n := 10) (args := [(.slice a n cap), (pO ba 0), (pO bg 0)]) Tryz.func151 rfl rfl rfl ?_
 have h_0 := HP.init w
 have h_02 := h_0.old hba (fun f hf => by cases hf)
 have h_01 := h_02.old hbg (fun f hf => by rw [List.mem_singleton] at hf; subst hf; intro _ b hb hb2; rw [Ent.blocks, List.mem_singleton] at hb hb2; exact hne (hb.symm.trans hb2))
 have h_00 := h_01.old (View.arg hv) (fun f hf => by
  rcases List.mem_cons.1 hf with rfl | hf
  ·exact hs1
  ·rw [List.mem_singleton] at hf; subst hf; exact hs2)
 refine WP.cutG (G := Unit) [4, 5, 6, 7, 8, 9] (fun _ => [(7, (.slice a n cap)), (4, (vn at_)), (5, (vn at_)), (6, (.slice (some ⟨bg, (0 + at_), none⟩) (128 - at_) (128 - at_))), (8, (vn n)), (9, (vn (at_ + n)))]) (fun _ w1 => HP w w1 [.view a (bs.map vu8), .blk bg .ar Tg [(128, (ovr g at_ bs).map vu8)], .blk ba .ar Ta [(1, [(vn (at_ + n))])]]) ?_ ?_
 ·refine WP.drawZ 6 (SL w.heap.size [.view a (bs.map vu8), .blk ba .ar Ta [(1, [(vn at_)])]]) (.q 3 (.s2 0 1 (.s 1 (.q 2 (.s 4 (.q 5 (.s 6 .nil))))) (.q 2 (.s2 0 4 (.s 4 (.q 5 (.s 6 .nil))) (.s 0 (.q 5 (.s 6 .nil))))))) (by kernel_rfl) (by kernel_rfl) rfl (by kernel_rfl) (fun w_1 hc_3 => (SL.cons ((h_00.same hc_3).ok _ M0) (SL.cons ((h_00.same hc_3).ok _ M2) (SL.nil _ _)))) (fun w_1 hc_3 => ?_)
  have h_2 := h_00.same hc_3
  refine ZT.q rfl (Wn.no rfl) rfl rfl (fun wq hS => R.move (v := (.slice a n cap)) rfl) ?_
  refine ZT.s2 ?_ ?_
  ·refine OpZ.one rfl (Wn.no rfl) ?_
   refine qV rfl (R.load1 rfl Tryz.isAgg3 (h_2.ok _ M2) Sg.h) ?_
   refine WL.nil ?_
   refine ⟨(N0_2 h_2.ok), ?_⟩
   refine ZT.s ?_
   refine OpZ.one rfl (Wn.no rfl) ?_
   refine qV rfl (R.load1 rfl Tryz.isAgg3 (h_2.ok _ M2) Sg.h) ?_
   refine WL.nil ?_
   refine ⟨(N0_2 h_2.ok), ?_⟩
   refine ZT.q rfl (Wn.no rfl) rfl rfl (fun wq hS => R.sliceA (b := bg) (off := 0) (off' := (0 + at_)) (l := at_) (h := 128) rfl (EvB.it (l := at_) rfl rfl) EvB.dflt (by omega) (by decide) Tryz.underlying29 Tryz.sizeOf5 (by rw [if_neg (by omega), Nat.mul_one])) ?_
   refine ZT.s ?_
   refine OpZ.one rfl (Wn.no rfl) ?_
   refine WL.copy (q := n) (i := at_) (ys := bs.map vu8) (cs' := (ovr g at_ bs).map vu8) h_2 rfl rfl Tryz.underlying88 Tryz.sizeOf5 (viewV (h_2.ok _ M0)) (len_map hl) (one_u8 _) Y1 (by decide) Sg.h rfl (Nat.min_eq_left (by omega)) (by rw [len_map hg]; omega) (cpOvr hl) rfl (fun w_4 h_5 => ?_)
   refine WL.nil ?_
   refine ⟨(N0_2 h_5.ok), ?_⟩
   refine ZT.q rfl (Wn.no rfl) rfl rfl (fun wq hS => R.bin rfl rfl (bi_add (c := ((at_ + n : Nat) : Int)) (by omega) (by omega))) ?_
   refine ZT.s ?_
   refine OpZ.last rfl (Wn.no rfl) ?_
   refine WL.store1 h_5 rfl rfl Tryz.sizeOf3 rfl Y2 (by decide) Sg.h (fun w_6 h_7 => ?_)
   refine WL.nil (ZT.nil (thn_n ?_))
   exact ⟨(), (U2 rfl rfl (U4 rfl rfl rfl rfl (Ag.refl _ _))), ⟨rfl, rfl, rfl, rfl, rfl, rfl, trivial⟩, h_7⟩
  ·refine OpZ.one rfl (Wn.no rfl) ?_
   refine qV rfl (R.load1 rfl Tryz.isAgg3 (h_2.ok _ M2) Sg.h) ?_
   refine WL.nil ?_
   refine ⟨(N0_2 h_2.ok), ?_⟩
   refine ZT.q rfl (Wn.no rfl) rfl rfl (fun wq hS => R.sliceA (b := bg) (off := 0) (off' := (0 + at_)) (l := at_) (h := 128) rfl (EvB.it (l := at_) rfl rfl) EvB.dflt (by omega) (by decide) Tryz.underlying29 Tryz.sizeOf5 (by rw [if_neg (by omega), Nat.mul_one])) ?_
   refine ZT.s2 ?_ ?_
   ·refine OpZ.one rfl (Wn.no rfl) ?_
    refine qV rfl (R.load1 rfl Tryz.isAgg3 (h_2.ok _ M2) Sg.h) ?_
    refine WL.nil ?_
    refine ⟨(N0_2 h_2.ok), ?_⟩
    refine ZT.s ?_
    refine OpZ.one rfl (Wn.no rfl) ?_
    refine WL.copy (q := n) (i := at_) (ys := bs.map vu8) (cs' := (ovr g at_ bs).map vu8) h_2 rfl rfl Tryz.underlying88 Tryz.sizeOf5 (viewV (h_2.ok _ M0)) (len_map hl) (one_u8 _) Y1 (by decide) Sg.h rfl (Nat.min_eq_left (by omega)) (by rw [len_map hg]; omega) (cpOvr hl) rfl (fun w_8 h_9 => ?_)
    refine WL.nil ?_
    refine ⟨(N0_2 h_9.ok), ?_⟩
    refine ZT.q rfl (Wn.no rfl) rfl rfl (fun wq hS => R.bin rfl rfl (bi_add (c := ((at_ + n : Nat) : Int)) (by omega) (by omega))) ?_
    refine ZT.s ?_
    refine OpZ.last rfl (Wn.no rfl) ?_
    refine WL.store1 h_9 rfl rfl Tryz.sizeOf3 rfl Y2 (by decide) Sg.h (fun w_10 h_11 => ?_)
    refine WL.nil (ZT.nil (thn_n ?_))
    exact ⟨(), (U2 rfl rfl (U4 rfl rfl rfl rfl (Ag.refl _ _))), ⟨rfl, rfl, rfl, rfl, rfl, rfl, trivial⟩, h_11⟩
   ·refine OpZ.one rfl (Wn.no rfl) ?_
    refine WL.copy (q := n) (i := at_) (ys := bs.map vu8) (cs' := (ovr g at_ bs).map vu8) h_2 rfl rfl Tryz.underlying88 Tryz.sizeOf5 (viewV (h_2.ok _ M0)) (len_map hl) (one_u8 _) Y1 (by decide) Sg.h rfl (Nat.min_eq_left (by omega)) (by rw [len_map hg]; omega) (cpOvr hl) rfl (fun w_12 h_13 => ?_)
    refine WL.nil ?_
    refine ⟨(N0_2 h_13.ok), ?_⟩
    refine ZT.s ?_
    refine OpZ.one rfl (Wn.no rfl) ?_
    refine qV rfl (R.load1 rfl Tryz.isAgg3 (h_13.ok _ M2) Sg.h) ?_
    refine WL.nil ?_
    refine ⟨(N0_2 h_13.ok), ?_⟩
    refine ZT.q rfl (Wn.no rfl) rfl rfl (fun wq hS => R.bin rfl rfl (bi_add (c := ((at_ + n : Nat) : Int)) (by omega) (by omega))) ?_
    refine ZT.s ?_
    refine OpZ.last rfl (Wn.no rfl) ?_
    refine WL.store1 h_13 rfl rfl Tryz.sizeOf3 rfl Y2 (by decide) Sg.h (fun w_14 h_15 => ?_)
    refine WL.nil (ZT.nil (thn_n ?_))
    exact ⟨(), (U2 rfl rfl (U4 rfl rfl rfl rfl (Ag.refl _ _))), ⟨rfl, rfl, rfl, rfl, rfl, rfl, trivial⟩, h_15⟩
 ·rintro _ J_16 w_17 h_18
  refine ret_n ?_
  refine ret_of Tryz.results151 RV.nil ?_
  exact ⟨rfl, h_18.chgS, (h_18.ok _ M1).2.1, (h_18.ok _ M2).2.1⟩

theorem c_gran (m : Nat) (l : List UInt8) (hlm : l.length = m) (hm : m ≤ 8) (a : Option Addr) (n cap : Nat) (xs : List Value) (ls : List (List UInt8)) (hln : ls.length = n) (hb : ls.flatten.length ≤ 119) (hnb : n ≤ 1099511627776) (w : World) (hv : View w a xs) (hs : Sls w xs ls) :
  Cs Tryz.prog 130 [(.string (bstr l)), (.slice a n cap)].toArray w (fun v w1 => v = .agg ⟨(ovr (ovr (List.replicate 128 (0 : UInt8)) 0 l) 8 ls.flatten).map vu8⟩ ∧ Chg w w1 []) := by
 refine Cs.of (n := 28) (args := [(.string (bstr l)), (.slice a n cap)]) Tryz.func130 rfl rfl rfl ?_
 have h_0 := HP.init w
 have h_01 := h_0.old (View.arg hv) (fun f hf => by cases hf)
 have h_00 := h_01.old hs.pin (fun f hf => by rw [List.mem_singleton] at hf; subst hf; intro hm; simp [Ent.mut] at hm)
 have hxl : xs.length = n := hs.len.trans hln
 refine WP.seq (WP.reg ?_)
 refine WL.alloc (segs := [(128, (List.replicate 128 (0 : UInt8)).map vu8)]) h_00 (zv Tryz.typeInfo29 rfl) rfl (SsOk.cons (SOk.u8 lr) SsOk.nil) rfl (fun b_1 w_2 h_3 => ?_)
 refine WL.nil (thn_n (WP.seq (WP.reg ?_)))
 refine qV rfl (R.sliceA (b := b_1) (off := 0) (off' := 0) (l := 0) (h := 128) rfl EvB.dflt EvB.dflt (by decide) (by decide) Tryz.underlying29 Tryz.sizeOf5 rfl) (qM (.string (bstr l)) rfl rfl ?_)
 refine WL.copyS (q := m) (i := 0) (bs := l) (cs' := (ovr (List.replicate 128 (0 : UInt8)) 0 l).map vu8) h_3 rfl rfl Tryz.underlying88 Tryz.sizeOf5 hlm At.h (by decide) Sg.h rfl (Nat.min_eq_left (by omega)) (by rw [len_map lr]; omega) (cpOvr hlm) rfl (fun w_4 h_5 => ?_)
 refine qM (.string (bstr l)) rfl rfl (qV rfl (R.lenStrL (l := l) (m := m) rfl rfl Tryz.underlying9 hlm) (qV rfl (R.bin rfl rfl (bi_sub (c := ((m - m : Nat) : Int)) (by omega) (by omega))) (qV rfl (R.bin rfl rfl (bi_add (c := (((m - m) + 8 : Nat) : Int)) (by omega) (by omega))) ?_)))
 refine WL.alloc (segs := [(1, [(vi 0)])]) h_5 (zv Tryz.typeInfo3 rfl) rfl (SsOk.cons (SOk.v rfl) SsOk.nil) rfl (fun b_6 w_7 h_8 => ?_)
 refine WL.store1 h_8 rfl rfl Tryz.sizeOf3 rfl At.h (by decide) Sg.h (fun w_9 h_10 => ?_)
 refine WL.nil (thn_n (WP.seq (WP.reg ?_)))
 refine qV rfl (R.makeFuncL (fi := []) (ca := [(pO b_6 0), (pO b_1 0)]) rfl rfl) (qA (Value.func (Fn.func 151) [].toArray [(Value.pointer (some ⟨b_6, 0, none⟩)), (Value.pointer (some ⟨b_1, 0, none⟩))].toArray) rfl rfl ?_)
 refine WL.nil (thn_n (WP.seq (WP.seq (WP.reg ?_))))
 refine qM (.slice a n cap) rfl rfl (qV rfl (R.lenS (a := a) (m := n) rfl rfl Tryz.underlying128) (qM (vi 0) rfl rfl ?_))
 refine WL.nil (thn_n (WP.block ?_))
 refine WP.loopG (G := Nat) [8, 19, 20, 21, 22, 23, 24, 25, 26] (fun k => [(19, (vn k))]) (fun k m w1 => HP w w1 [.blk b_6 .nw 3 [(1, [(vn (8 + ((ls.take k).flatten).length))])], .blk b_1 .nw 29 [(128, (ovr (ovr (List.replicate 128 (0 : UInt8)) 0 l) 8 ((ls.take k).flatten)).map vu8)], .pin (sblks xs) (fun w => Sls w xs ls), .view a xs] ∧ (k ≤ n) ∧ m = n - k) ⟨0, _, ⟨rfl, trivial⟩, (by rw [show m - m + 8 = 8 + ((ls.take 0).flatten).length by simp, show ovr (List.replicate 128 (0 : UInt8)) 0 l = ovr (ovr (List.replicate 128 (0 : UInt8)) 0 l) 8 ((ls.take 0).flatten) from ovr_nil.symm] at h_10; exact h_10), Nat.zero_le _, rfl⟩ ?_
 rintro k m_13 J_14 w_11 ⟨h_12, hk, rfl⟩
 refine WP.seq (WP.reg ?_)
 refine qV rfl (R.bin rfl rfl (bi_lss (r := decide ((((k : Nat) : Int) : Int) < ((n : Nat) : Int))) rfl)) ?_
 refine WL.nil (thn_n (WP.seq ?_))
 refine WP.cond (b := decide ((((k : Nat) : Int) : Int) < ((n : Nat) : Int))) rfl (fun c_15 => ?_) (fun c_15 => ?_)
 ·have p_16 := of_decide_eq_true c_15
  refine WP.skip (thn_n (WP.seq (WP.block (WP.seq (WP.reg ?_)))))
  refine qV rfl (R.indexS (a := a) (i := k) (off := k) (xs := xs) rfl rfl rfl (by omega) (viewV (h_12.ok _ M3)) (by omega) Tryz.underlying128 Tryz.sizeOf88 (Nat.mul_one _).symm) ?_
  obtain ⟨a_17, n_18, c_19, hx_20, hl_21, hn_22, hv_23, hb_24⟩ := Sls.get (i := k) (h_12.ok _ M2).1 (by rw [hln]; omega)
  have h_25 := h_12.within (e' := .view a_17 ((ls.getD k []).map vu8)) M2 rfl (View.arg hv_23) rfl rfl (fun b hb_ => hb_24 _ (view_sblk hl_21 b hb_))
  refine qV rfl (R.loadG (a := a) (i := k) (xs := xs) (v := (.slice a_17 n_18 c_19)) rfl (viewV (h_25.ok _ M4)) Tryz.isAgg88 hx_20) (qA (.slice a_17 n_18 c_19) rfl rfl ?_)
  refine WL.nil (thn_n (WP.reg ?_))
  refine qM (Value.func (Fn.func 151) [].toArray [(Value.pointer (some ⟨b_6, 0, none⟩)), (Value.pointer (some ⟨b_1, 0, none⟩))].toArray) rfl rfl (qM (.slice a_17 n_18 c_19) rfl rfl ?_)
  have hleA := flat_take_le ls (k + 1)
  rw [flat_take (by omega), List.length_append] at hleA
  refine WL.call Tryz.call151 rfl rfl (c_gran1 a_17 n_18 c_19 (ls.getD k []) hl_21 b_6 b_1 3 29 (8 + ((ls.take k).flatten).length) (ovr (ovr (List.replicate 128 (0 : UInt8)) 0 l) 8 ((ls.take k).flatten)) (ovr_len (ovr_len lr (by omega)) (by have := flat_take_le ls k; omega)) (by have e := flat_take (ls := ls) (k := k) (by omega); have hle := flat_take_le ls (k + 1); rw [e, List.length_append] at hle; omega) (by have := flat_take_le ls k; omega) _ (h_25.arg M1) (h_25.arg M2) (fun e => (h_25.ne (i := 1) (j := 2) rfl rfl rfl).symm (.inl rfl) _ (List.mem_singleton.2 rfl) (List.mem_singleton.2 e)) (viewV (h_25.ok _ M0)) (Sep.view (by decide) (fun h => h) (h_25.ne (i := 0) (j := 2) rfl rfl rfl)) (Sep.view (by decide) (fun h => h) (h_25.ne (i := 0) (j := 1) rfl rfl rfl))) rfl ?_
  rintro _ w_26 ⟨rfl, hc_27, hk_28, hk_29⟩
  have h_30 := h_25.setAll (Rp.same (Rp.blk (h_25.ok _ M1).2.2 (by decide) (SsOk.cons (SOk.v rfl) SsOk.nil) hk_29 (Rp.blk (h_25.ok _ M2).2.2 (by decide) (SsOk.cons (SOk.u8 (ovr_len (ovr_len (ovr_len lr (by omega)) (by have := flat_take_le ls k; omega)) (by rw [hl_21]; omega))) SsOk.nil) hk_28 (Rp.same (Rp.same Rp.nil))))) (hc_27.mono (by intro x hx; simp at hx ⊢; omega))
  refine WL.nil (inb_n (thn_n (WP.reg ?_)))
  refine qV rfl (R.bin rfl rfl (bi_add (c := ((k + 1 : Nat) : Int)) (by omega) (by omega))) (qM (vn (k + 1)) rfl rfl ?_)
  refine WL.nil (thn_n ?_)
  have h_31 := h_30.drop rfl
  have e := flat_take (ls := ls) (k := k) (by omega)
  have hle := flat_take_le ls (k + 1)
  rw [e, List.length_append] at hle
  have eg : ovr (ovr (ovr (List.replicate 128 (0 : UInt8)) 0 l) 8 ((ls.take k).flatten)) (8 + ((ls.take k).flatten).length) (ls.getD k []) = ovr (ovr (List.replicate 128 (0 : UInt8)) 0 l) 8 ((ls.take (k + 1)).flatten) := by rw [ovr_ovr (by rw [ovr_len (K := 128) lr (by omega)]; omega), e]
  have ea : 8 + ((ls.take k).flatten).length + n_18 = 8 + ((ls.take (k + 1)).flatten).length := by rw [e, List.length_append]; omega
  rw [eg, ea] at h_31
  exact ⟨k + 1, _, (by omega), (Ag.upd rfl (U4 rfl rfl rfl rfl (U4 rfl rfl rfl rfl (Ag.updL rfl (Ag.mix _ _ _))))), ⟨rfl, trivial⟩, h_31, (by omega), rfl⟩
 ·have p_32 := of_decide_eq_false c_15
  refine WP.exit (thn_x (thn_x (inb_hit (thn_n (WP.seq (WP.reg ?_))))))
  refine qV rfl (R.loadA [] [(128, (ovr (ovr (List.replicate 128 (0 : UInt8)) 0 l) 8 ((ls.take k).flatten)).map vu8)] [] (cs := (ovr (ovr (List.replicate 128 (0 : UInt8)) 0 l) 8 ((ls.take k).flatten)).map vu8) rfl Tryz.isAgg29 Tryz.sizeOf29 (h_12.ok _ M1) rfl rfl rfl rfl) ?_
  refine WL.storeA (b := b_1) (off := 0) [] [(128, (ovr (ovr (List.replicate 128 (0 : UInt8)) 0 l) 8 ((ls.take k).flatten)).map vu8)] [(128, (ovr (ovr (List.replicate 128 (0 : UInt8)) 0 l) 8 ((ls.take k).flatten)).map vu8)] [] (ys := (ovr (ovr (List.replicate 128 (0 : UInt8)) 0 l) 8 ((ls.take k).flatten)).map vu8) h_12 rfl rfl Tryz.sizeOf29 Y1 (by decide) rfl rfl rfl rfl rfl rfl (SsOk.cons (SOk.u8 (ovr_len (ovr_len lr (by omega)) (by have := flat_take_le ls k; omega))) SsOk.nil) (fun w_33 h_34 => ?_)
  refine WL.nil (thn_n (WP.ret ?_))
  refine ret_of Tryz.results130 (RV.cell rfl (h_34.loadA (cs := (ovr (ovr (List.replicate 128 (0 : UInt8)) 0 l) 8 ((ls.take k).flatten)).map vu8) Tryz.isAgg29 Tryz.sizeOf29 M1 rfl rfl) RV.nil) ?_
  have hkn : k = n := by omega
  exact ⟨by rw [hkn, List.take_of_length_le (by omega)]; rfl, h_34.chgS⟩

theorem c_rec (pc : UInt64) (rg : List UInt64) (hrg : rg.length = 8) (run : Bool) (w : World) :
  Cs Tryz.prog 106 [(.agg ⟨flat [(1, [(vu64 pc)]), (8, rg.map vu64), (1, [(.bool run)])]⟩)].toArray w (fun v w1 => v = .agg ⟨(recB pc rg run).map vu8⟩ ∧ Chg w w1 []) := by
 refine Cs.of (n := 29) (args := [(.agg ⟨flat [(1, [(vu64 pc)]), (8, rg.map vu64), (1, [(.bool run)])]⟩)]) Tryz.func106 rfl rfl rfl ?_
 have h_0 := HP.init w
 refine WP.seq (WP.reg ?_)
 refine WL.box (v := (.agg ⟨flat [(1, [(vu64 pc)]), (8, rg.map vu64), (1, [(.bool run)])]⟩)) (segs := [(1, [(vu64 pc)]), (8, rg.map vu64), (1, [(.bool run)])]) h_0 rfl rfl (SsOk.cons (SOk.v rfl) (SsOk.cons (SOk.u64 hrg) (SsOk.cons (SOk.v rfl) SsOk.nil))) rfl (fun b_1 w_2 h_3 => ?_)
 refine WL.alloc (segs := [(128, (List.replicate 128 (0 : UInt8)).map vu8)]) h_3 (zv Tryz.typeInfo29 rfl) rfl (SsOk.cons (SOk.u8 lr) SsOk.nil) rfl (fun b_4 w_5 h_6 => ?_)
 refine WL.nil (thn_n (WP.seq (WP.reg ?_)))
 refine qV rfl (R.fieldAddr (off' := 0) rfl Tryz.underlying57 rfl Tryz.sizeOf27 rfl rfl) (qV rfl (R.load1 rfl Tryz.isAgg27 (h_6.ok _ M1) Sg.h) ?_)
 refine WL.call Tryz.call129 rfl rfl (c_pword pc _) rfl ?_
 rintro _ w_9 ⟨a_7, cap_8, rfl, hc_10, ho_11⟩
 have h_12 := h_6.gotRow hc_10 ho_11
 refine WL.buildSl (vs := [(0, (.slice a_7 8 cap_8))]) (cs := [(.slice a_7 8 cap_8)]) h_12 Tryz.underlying128 Tryz.sizeOf88 (zv Tryz.typeInfo88 rfl) rfl rfl (by kernel_rfl) rfl (by simp [Value.oneCell']) rfl rfl (fun b_13 w_14 h_15 => ?_)
 refine qA (.slice (some ⟨b_13, 0, none⟩) 1 1) rfl rfl ?_
 refine WL.nil (thn_n (WP.seq (WP.seq (WP.reg ?_))))
 refine qM (vi 0) rfl rfl ?_
 refine WL.nil (thn_n (WP.block ?_))
 refine WP.loopU (WI.round ?_)
 refine WP.seq (WP.reg ?_)
 refine qV rfl (R.bin rfl rfl (bi_lss (r := true) (by decide))) ?_
 refine WL.nil (thn_n (WP.seq ?_))
 refine WP.condT rfl ?_
 refine WP.skip (thn_n (WP.seq (WP.block (WP.seq (WP.reg ?_)))))
 refine qM (vi 0) rfl rfl (qA (vi 0) rfl rfl ?_)
 refine WL.nil (thn_n (WP.reg ?_))
 refine qM (.slice (some ⟨b_13, 0, none⟩) 1 1) rfl rfl (qM (vi 0) rfl rfl (qV rfl (R.fieldAddr (off' := 1) rfl Tryz.underlying57 rfl Tryz.sizeOf55 rfl rfl) (qV rfl (R.indexA (b := b_1) (off := 1) (off' := 1) (i := 0) rfl rfl rfl (by decide) Tryz.underlying55 Tryz.sizeOf27 rfl) (qV rfl (R.loadE (b := b_1) (off := 1) (i := 0) (v := (vu64 (rg.getD 0 0))) rfl Tryz.isAgg27 (h_15.ok _ M3) (Sg.t rfl Sg.h) rfl (get_u64 (lt_len (K := 8) hrg (by decide)))) ?_))))
 refine WL.call Tryz.call129 rfl rfl (c_pword (rg.getD 0 0) _) rfl ?_
 rintro _ w_18 ⟨a_16, cap_17, rfl, hc_19, ho_20⟩
 have h_21 := h_15.gotRow hc_19 ho_20
 refine WL.buildSl (vs := [(0, (.slice a_16 8 cap_17))]) (cs := [(.slice a_16 8 cap_17)]) h_21 Tryz.underlying128 Tryz.sizeOf88 (zv Tryz.typeInfo88 rfl) rfl rfl (by kernel_rfl) rfl (by simp [Value.oneCell']) rfl rfl (fun b_22 w_23 h_24 => ?_)
 have h_25 := HP.blkRow (m := 1) (s := 1) h_24 Y2 rfl (by simp only [maxLen]; decide)
 refine WL.append (km := 2) (xs := [(.slice a_7 8 cap_8)]) (ys := [(.slice a_16 8 cap_17)]) (zs := [(.slice a_7 8 cap_8), (.slice a_16 8 cap_17)]) h_25 rfl rfl el128 (viewB (h_25.ok _ M0) Sg.h) rfl (by simp [Value.oneCell']) rfl rfl (by omega) (by omega) (fun _ _ => Y2) rfl (fun a_26 c_27 w_28 h_29 => ?_)
 refine qA (.slice a_26 2 c_27) rfl rfl ?_
 refine WL.nil (inb_n (thn_n (WP.reg ?_)))
 refine qV rfl (R.bin rfl rfl (bi_add (c := 1) (by omega) (by omega))) (qM (vi 1) rfl rfl ?_)
 refine WL.nil (thn_n ?_)
 refine WI.round ?_
 refine WP.seq (WP.reg ?_)
 refine qV rfl (R.bin rfl rfl (bi_lss (r := true) (by decide))) ?_
 refine WL.nil (thn_n (WP.seq ?_))
 refine WP.condT rfl ?_
 refine WP.skip (thn_n (WP.seq (WP.block (WP.seq (WP.reg ?_)))))
 refine qM (vi 1) rfl rfl (qA (vi 1) rfl rfl ?_)
 refine WL.nil (thn_n (WP.reg ?_))
 refine qM (.slice a_26 2 c_27) rfl rfl (qM (vi 1) rfl rfl (qV rfl (R.fieldAddr (off' := 1) rfl Tryz.underlying57 rfl Tryz.sizeOf55 rfl rfl) (qV rfl (R.indexA (b := b_1) (off := 1) (off' := 2) (i := 1) rfl rfl rfl (by decide) Tryz.underlying55 Tryz.sizeOf27 rfl) (qV rfl (R.loadE (b := b_1) (off := 2) (i := 1) (v := (vu64 (rg.getD 1 0))) rfl Tryz.isAgg27 (h_29.ok _ M5) (Sg.t rfl Sg.h) rfl (get_u64 (lt_len (K := 8) hrg (by decide)))) ?_))))
 refine WL.call Tryz.call129 rfl rfl (c_pword (rg.getD 1 0) _) rfl ?_
 rintro _ w_32 ⟨a_30, cap_31, rfl, hc_33, ho_34⟩
 have h_35 := h_29.gotRow hc_33 ho_34
 refine WL.buildSl (vs := [(0, (.slice a_30 8 cap_31))]) (cs := [(.slice a_30 8 cap_31)]) h_35 Tryz.underlying128 Tryz.sizeOf88 (zv Tryz.typeInfo88 rfl) rfl rfl (by kernel_rfl) rfl (by simp [Value.oneCell']) rfl rfl (fun b_36 w_37 h_38 => ?_)
 refine WL.append (km := 3) (xs := [(.slice a_7 8 cap_8), (.slice a_16 8 cap_17)]) (ys := [(.slice a_30 8 cap_31)]) (zs := [(.slice a_7 8 cap_8), (.slice a_16 8 cap_17), (.slice a_30 8 cap_31)]) h_38 rfl rfl el128 (viewB (h_38.ok _ M0) Sg.h) rfl (by simp [Value.oneCell']) rfl rfl (by omega) (by omega) (fun _ _ => Y4) rfl (fun a_39 c_40 w_41 h_42 => ?_)
 refine qA (.slice a_39 3 c_40) rfl rfl ?_
 refine WL.nil (inb_n (thn_n (WP.reg ?_)))
 refine qV rfl (R.bin rfl rfl (bi_add (c := 2) (by omega) (by omega))) (qM (vi 2) rfl rfl ?_)
 refine WL.nil (thn_n ?_)
 refine WI.round ?_
 refine WP.seq (WP.reg ?_)
 refine qV rfl (R.bin rfl rfl (bi_lss (r := true) (by decide))) ?_
 refine WL.nil (thn_n (WP.seq ?_))
 refine WP.condT rfl ?_
 refine WP.skip (thn_n (WP.seq (WP.block (WP.seq (WP.reg ?_)))))
 refine qM (vi 2) rfl rfl (qA (vi 2) rfl rfl ?_)
 refine WL.nil (thn_n (WP.reg ?_))
 refine qM (.slice a_39 3 c_40) rfl rfl (qM (vi 2) rfl rfl (qV rfl (R.fieldAddr (off' := 1) rfl Tryz.underlying57 rfl Tryz.sizeOf55 rfl rfl) (qV rfl (R.indexA (b := b_1) (off := 1) (off' := 3) (i := 2) rfl rfl rfl (by decide) Tryz.underlying55 Tryz.sizeOf27 rfl) (qV rfl (R.loadE (b := b_1) (off := 3) (i := 2) (v := (vu64 (rg.getD 2 0))) rfl Tryz.isAgg27 (h_42.ok _ M7) (Sg.t rfl Sg.h) rfl (get_u64 (lt_len (K := 8) hrg (by decide)))) ?_))))
 refine WL.call Tryz.call129 rfl rfl (c_pword (rg.getD 2 0) _) rfl ?_
 rintro _ w_45 ⟨a_43, cap_44, rfl, hc_46, ho_47⟩
 have h_48 := h_42.gotRow hc_46 ho_47
 refine WL.buildSl (vs := [(0, (.slice a_43 8 cap_44))]) (cs := [(.slice a_43 8 cap_44)]) h_48 Tryz.underlying128 Tryz.sizeOf88 (zv Tryz.typeInfo88 rfl) rfl rfl (by kernel_rfl) rfl (by simp [Value.oneCell']) rfl rfl (fun b_49 w_50 h_51 => ?_)
 refine WL.append (km := 4) (xs := [(.slice a_7 8 cap_8), (.slice a_16 8 cap_17), (.slice a_30 8 cap_31)]) (ys := [(.slice a_43 8 cap_44)]) (zs := [(.slice a_7 8 cap_8), (.slice a_16 8 cap_17), (.slice a_30 8 cap_31), (.slice a_43 8 cap_44)]) h_51 rfl rfl el128 (viewB (h_51.ok _ M0) Sg.h) rfl (by simp [Value.oneCell']) rfl rfl (by omega) (by omega) (fun _ _ => Y6) rfl (fun a_52 c_53 w_54 h_55 => ?_)
 refine qA (.slice a_52 4 c_53) rfl rfl ?_
 refine WL.nil (inb_n (thn_n (WP.reg ?_)))
 refine qV rfl (R.bin rfl rfl (bi_add (c := 3) (by omega) (by omega))) (qM (vi 3) rfl rfl ?_)
 refine WL.nil (thn_n ?_)
 refine WI.round ?_
 refine WP.seq (WP.reg ?_)
 refine qV rfl (R.bin rfl rfl (bi_lss (r := true) (by decide))) ?_
 refine WL.nil (thn_n (WP.seq ?_))
 refine WP.condT rfl ?_
 refine WP.skip (thn_n (WP.seq (WP.block (WP.seq (WP.reg ?_)))))
 refine qM (vi 3) rfl rfl (qA (vi 3) rfl rfl ?_)
 refine WL.nil (thn_n (WP.reg ?_))
 refine qM (.slice a_52 4 c_53) rfl rfl (qM (vi 3) rfl rfl (qV rfl (R.fieldAddr (off' := 1) rfl Tryz.underlying57 rfl Tryz.sizeOf55 rfl rfl) (qV rfl (R.indexA (b := b_1) (off := 1) (off' := 4) (i := 3) rfl rfl rfl (by decide) Tryz.underlying55 Tryz.sizeOf27 rfl) (qV rfl (R.loadE (b := b_1) (off := 4) (i := 3) (v := (vu64 (rg.getD 3 0))) rfl Tryz.isAgg27 (h_55.ok _ M9) (Sg.t rfl Sg.h) rfl (get_u64 (lt_len (K := 8) hrg (by decide)))) ?_))))
 refine WL.call Tryz.call129 rfl rfl (c_pword (rg.getD 3 0) _) rfl ?_
 rintro _ w_58 ⟨a_56, cap_57, rfl, hc_59, ho_60⟩
 have h_61 := h_55.gotRow hc_59 ho_60
 refine WL.buildSl (vs := [(0, (.slice a_56 8 cap_57))]) (cs := [(.slice a_56 8 cap_57)]) h_61 Tryz.underlying128 Tryz.sizeOf88 (zv Tryz.typeInfo88 rfl) rfl rfl (by kernel_rfl) rfl (by simp [Value.oneCell']) rfl rfl (fun b_62 w_63 h_64 => ?_)
 refine WL.append (km := 5) (xs := [(.slice a_7 8 cap_8), (.slice a_16 8 cap_17), (.slice a_30 8 cap_31), (.slice a_43 8 cap_44)]) (ys := [(.slice a_56 8 cap_57)]) (zs := [(.slice a_7 8 cap_8), (.slice a_16 8 cap_17), (.slice a_30 8 cap_31), (.slice a_43 8 cap_44), (.slice a_56 8 cap_57)]) h_64 rfl rfl el128 (viewB (h_64.ok _ M0) Sg.h) rfl (by simp [Value.oneCell']) rfl rfl (by omega) (by omega) (fun _ _ => Y8) rfl (fun a_65 c_66 w_67 h_68 => ?_)
 refine qA (.slice a_65 5 c_66) rfl rfl ?_
 refine WL.nil (inb_n (thn_n (WP.reg ?_)))
 refine qV rfl (R.bin rfl rfl (bi_add (c := 4) (by omega) (by omega))) (qM (vi 4) rfl rfl ?_)
 refine WL.nil (thn_n ?_)
 refine WI.round ?_
 refine WP.seq (WP.reg ?_)
 refine qV rfl (R.bin rfl rfl (bi_lss (r := true) (by decide))) ?_
 refine WL.nil (thn_n (WP.seq ?_))
 refine WP.condT rfl ?_
 refine WP.skip (thn_n (WP.seq (WP.block (WP.seq (WP.reg ?_)))))
 refine qM (vi 4) rfl rfl (qA (vi 4) rfl rfl ?_)
 refine WL.nil (thn_n (WP.reg ?_))
 refine qM (.slice a_65 5 c_66) rfl rfl (qM (vi 4) rfl rfl (qV rfl (R.fieldAddr (off' := 1) rfl Tryz.underlying57 rfl Tryz.sizeOf55 rfl rfl) (qV rfl (R.indexA (b := b_1) (off := 1) (off' := 5) (i := 4) rfl rfl rfl (by decide) Tryz.underlying55 Tryz.sizeOf27 rfl) (qV rfl (R.loadE (b := b_1) (off := 5) (i := 4) (v := (vu64 (rg.getD 4 0))) rfl Tryz.isAgg27 (h_68.ok _ M11) (Sg.t rfl Sg.h) rfl (get_u64 (lt_len (K := 8) hrg (by decide)))) ?_))))
 refine WL.call Tryz.call129 rfl rfl (c_pword (rg.getD 4 0) _) rfl ?_
 rintro _ w_71 ⟨a_69, cap_70, rfl, hc_72, ho_73⟩
 have h_74 := h_68.gotRow hc_72 ho_73
 refine WL.buildSl (vs := [(0, (.slice a_69 8 cap_70))]) (cs := [(.slice a_69 8 cap_70)]) h_74 Tryz.underlying128 Tryz.sizeOf88 (zv Tryz.typeInfo88 rfl) rfl rfl (by kernel_rfl) rfl (by simp [Value.oneCell']) rfl rfl (fun b_75 w_76 h_77 => ?_)
 refine WL.append (km := 6) (xs := [(.slice a_7 8 cap_8), (.slice a_16 8 cap_17), (.slice a_30 8 cap_31), (.slice a_43 8 cap_44), (.slice a_56 8 cap_57)]) (ys := [(.slice a_69 8 cap_70)]) (zs := [(.slice a_7 8 cap_8), (.slice a_16 8 cap_17), (.slice a_30 8 cap_31), (.slice a_43 8 cap_44), (.slice a_56 8 cap_57), (.slice a_69 8 cap_70)]) h_77 rfl rfl el128 (viewB (h_77.ok _ M0) Sg.h) rfl (by simp [Value.oneCell']) rfl rfl (by omega) (by omega) (fun _ _ => Y10) rfl (fun a_78 c_79 w_80 h_81 => ?_)
 refine qA (.slice a_78 6 c_79) rfl rfl ?_
 refine WL.nil (inb_n (thn_n (WP.reg ?_)))
 refine qV rfl (R.bin rfl rfl (bi_add (c := 5) (by omega) (by omega))) (qM (vi 5) rfl rfl ?_)
 refine WL.nil (thn_n ?_)
 refine WI.round ?_
 refine WP.seq (WP.reg ?_)
 refine qV rfl (R.bin rfl rfl (bi_lss (r := true) (by decide))) ?_
 refine WL.nil (thn_n (WP.seq ?_))
 refine WP.condT rfl ?_
 refine WP.skip (thn_n (WP.seq (WP.block (WP.seq (WP.reg ?_)))))
 refine qM (vi 5) rfl rfl (qA (vi 5) rfl rfl ?_)
 refine WL.nil (thn_n (WP.reg ?_))
 refine qM (.slice a_78 6 c_79) rfl rfl (qM (vi 5) rfl rfl (qV rfl (R.fieldAddr (off' := 1) rfl Tryz.underlying57 rfl Tryz.sizeOf55 rfl rfl) (qV rfl (R.indexA (b := b_1) (off := 1) (off' := 6) (i := 5) rfl rfl rfl (by decide) Tryz.underlying55 Tryz.sizeOf27 rfl) (qV rfl (R.loadE (b := b_1) (off := 6) (i := 5) (v := (vu64 (rg.getD 5 0))) rfl Tryz.isAgg27 (h_81.ok _ M13) (Sg.t rfl Sg.h) rfl (get_u64 (lt_len (K := 8) hrg (by decide)))) ?_))))
 refine WL.call Tryz.call129 rfl rfl (c_pword (rg.getD 5 0) _) rfl ?_
 rintro _ w_84 ⟨a_82, cap_83, rfl, hc_85, ho_86⟩
 have h_87 := h_81.gotRow hc_85 ho_86
 refine WL.buildSl (vs := [(0, (.slice a_82 8 cap_83))]) (cs := [(.slice a_82 8 cap_83)]) h_87 Tryz.underlying128 Tryz.sizeOf88 (zv Tryz.typeInfo88 rfl) rfl rfl (by kernel_rfl) rfl (by simp [Value.oneCell']) rfl rfl (fun b_88 w_89 h_90 => ?_)
 refine WL.append (km := 7) (xs := [(.slice a_7 8 cap_8), (.slice a_16 8 cap_17), (.slice a_30 8 cap_31), (.slice a_43 8 cap_44), (.slice a_56 8 cap_57), (.slice a_69 8 cap_70)]) (ys := [(.slice a_82 8 cap_83)]) (zs := [(.slice a_7 8 cap_8), (.slice a_16 8 cap_17), (.slice a_30 8 cap_31), (.slice a_43 8 cap_44), (.slice a_56 8 cap_57), (.slice a_69 8 cap_70), (.slice a_82 8 cap_83)]) h_90 rfl rfl el128 (viewB (h_90.ok _ M0) Sg.h) rfl (by simp [Value.oneCell']) rfl rfl (by omega) (by omega) (fun _ _ => Y12) rfl (fun a_91 c_92 w_93 h_94 => ?_)
 refine qA (.slice a_91 7 c_92) rfl rfl ?_
 refine WL.nil (inb_n (thn_n (WP.reg ?_)))
 refine qV rfl (R.bin rfl rfl (bi_add (c := 6) (by omega) (by omega))) (qM (vi 6) rfl rfl ?_)
 refine WL.nil (thn_n ?_)
 refine WI.round ?_
 refine WP.seq (WP.reg ?_)
 refine qV rfl (R.bin rfl rfl (bi_lss (r := true) (by decide))) ?_
 refine WL.nil (thn_n (WP.seq ?_))
 refine WP.condT rfl ?_
 refine WP.skip (thn_n (WP.seq (WP.block (WP.seq (WP.reg ?_)))))
 refine qM (vi 6) rfl rfl (qA (vi 6) rfl rfl ?_)
 refine WL.nil (thn_n (WP.reg ?_))
 refine qM (.slice a_91 7 c_92) rfl rfl (qM (vi 6) rfl rfl (qV rfl (R.fieldAddr (off' := 1) rfl Tryz.underlying57 rfl Tryz.sizeOf55 rfl rfl) (qV rfl (R.indexA (b := b_1) (off := 1) (off' := 7) (i := 6) rfl rfl rfl (by decide) Tryz.underlying55 Tryz.sizeOf27 rfl) (qV rfl (R.loadE (b := b_1) (off := 7) (i := 6) (v := (vu64 (rg.getD 6 0))) rfl Tryz.isAgg27 (h_94.ok _ M15) (Sg.t rfl Sg.h) rfl (get_u64 (lt_len (K := 8) hrg (by decide)))) ?_))))
 refine WL.call Tryz.call129 rfl rfl (c_pword (rg.getD 6 0) _) rfl ?_
 rintro _ w_97 ⟨a_95, cap_96, rfl, hc_98, ho_99⟩
 have h_100 := h_94.gotRow hc_98 ho_99
 refine WL.buildSl (vs := [(0, (.slice a_95 8 cap_96))]) (cs := [(.slice a_95 8 cap_96)]) h_100 Tryz.underlying128 Tryz.sizeOf88 (zv Tryz.typeInfo88 rfl) rfl rfl (by kernel_rfl) rfl (by simp [Value.oneCell']) rfl rfl (fun b_101 w_102 h_103 => ?_)
 refine WL.append (km := 8) (xs := [(.slice a_7 8 cap_8), (.slice a_16 8 cap_17), (.slice a_30 8 cap_31), (.slice a_43 8 cap_44), (.slice a_56 8 cap_57), (.slice a_69 8 cap_70), (.slice a_82 8 cap_83)]) (ys := [(.slice a_95 8 cap_96)]) (zs := [(.slice a_7 8 cap_8), (.slice a_16 8 cap_17), (.slice a_30 8 cap_31), (.slice a_43 8 cap_44), (.slice a_56 8 cap_57), (.slice a_69 8 cap_70), (.slice a_82 8 cap_83), (.slice a_95 8 cap_96)]) h_103 rfl rfl el128 (viewB (h_103.ok _ M0) Sg.h) rfl (by simp [Value.oneCell']) rfl rfl (by omega) (by omega) (fun _ _ => Y14) rfl (fun a_104 c_105 w_106 h_107 => ?_)
 refine qA (.slice a_104 8 c_105) rfl rfl ?_
 refine WL.nil (inb_n (thn_n (WP.reg ?_)))
 refine qV rfl (R.bin rfl rfl (bi_add (c := 7) (by omega) (by omega))) (qM (vi 7) rfl rfl ?_)
 refine WL.nil (thn_n ?_)
 refine WI.round ?_
 refine WP.seq (WP.reg ?_)
 refine qV rfl (R.bin rfl rfl (bi_lss (r := true) (by decide))) ?_
 refine WL.nil (thn_n (WP.seq ?_))
 refine WP.condT rfl ?_
 refine WP.skip (thn_n (WP.seq (WP.block (WP.seq (WP.reg ?_)))))
 refine qM (vi 7) rfl rfl (qA (vi 7) rfl rfl ?_)
 refine WL.nil (thn_n (WP.reg ?_))
 refine qM (.slice a_104 8 c_105) rfl rfl (qM (vi 7) rfl rfl (qV rfl (R.fieldAddr (off' := 1) rfl Tryz.underlying57 rfl Tryz.sizeOf55 rfl rfl) (qV rfl (R.indexA (b := b_1) (off := 1) (off' := 8) (i := 7) rfl rfl rfl (by decide) Tryz.underlying55 Tryz.sizeOf27 rfl) (qV rfl (R.loadE (b := b_1) (off := 8) (i := 7) (v := (vu64 (rg.getD 7 0))) rfl Tryz.isAgg27 (h_107.ok _ M17) (Sg.t rfl Sg.h) rfl (get_u64 (lt_len (K := 8) hrg (by decide)))) ?_))))
 refine WL.call Tryz.call129 rfl rfl (c_pword (rg.getD 7 0) _) rfl ?_
 rintro _ w_110 ⟨a_108, cap_109, rfl, hc_111, ho_112⟩
 have h_113 := h_107.gotRow hc_111 ho_112
 refine WL.buildSl (vs := [(0, (.slice a_108 8 cap_109))]) (cs := [(.slice a_108 8 cap_109)]) h_113 Tryz.underlying128 Tryz.sizeOf88 (zv Tryz.typeInfo88 rfl) rfl rfl (by kernel_rfl) rfl (by simp [Value.oneCell']) rfl rfl (fun b_114 w_115 h_116 => ?_)
 refine WL.append (km := 9) (xs := [(.slice a_7 8 cap_8), (.slice a_16 8 cap_17), (.slice a_30 8 cap_31), (.slice a_43 8 cap_44), (.slice a_56 8 cap_57), (.slice a_69 8 cap_70), (.slice a_82 8 cap_83), (.slice a_95 8 cap_96)]) (ys := [(.slice a_108 8 cap_109)]) (zs := [(.slice a_7 8 cap_8), (.slice a_16 8 cap_17), (.slice a_30 8 cap_31), (.slice a_43 8 cap_44), (.slice a_56 8 cap_57), (.slice a_69 8 cap_70), (.slice a_82 8 cap_83), (.slice a_95 8 cap_96), (.slice a_108 8 cap_109)]) h_116 rfl rfl el128 (viewB (h_116.ok _ M0) Sg.h) rfl (by simp [Value.oneCell']) rfl rfl (by omega) (by omega) (fun _ _ => (At.t (At.t (At.t (At.t (At.t (At.t (At.t (At.t (At.t (At.t (At.t (At.t (At.t (At.t (At.t (At.t At.h))))))))))))))))) rfl (fun a_117 c_118 w_119 h_120 => ?_)
 refine qA (.slice a_117 9 c_118) rfl rfl ?_
 refine WL.nil (inb_n (thn_n (WP.reg ?_)))
 refine qV rfl (R.bin rfl rfl (bi_add (c := 8) (by omega) (by omega))) (qM (vi 8) rfl rfl ?_)
 refine WL.nil (thn_n ?_)
 refine WI.round ?_
 refine WP.seq (WP.reg ?_)
 refine qV rfl (R.bin rfl rfl (bi_lss (r := false) (by decide))) ?_
 refine WL.nil (thn_n (WP.seq ?_))
 refine WP.condF rfl ?_
 refine WP.exit (thn_x (thn_x (inb_hit (thn_n (WP.seq (WP.seq (WP.reg ?_)))))))
 refine qV rfl (R.fieldAddr (off' := 9) rfl Tryz.underlying57 rfl Tryz.sizeOf4 rfl rfl) (qV rfl (R.load1 rfl Tryz.isAgg4 (h_120.ok _ M19) (Sg.t rfl (Sg.t rfl Sg.h))) ?_)
 refine WL.nil (thn_n ?_)
 refine WP.cond (b := run) rfl (fun c_121 => ?_) (fun c_121 => ?_)
 ·refine WP.reg ?_
  refine qM (.slice a_117 9 c_118) rfl rfl ?_
  refine WL.buildSl (vs := [(0, (vu8 1))]) (cs := ([1] : List UInt8).map vu8) h_120 Tryz.underlying88 Tryz.sizeOf5 (zv Tryz.typeInfo5 rfl) rfl rfl (by kernel_rfl) rfl (one_u8 _) rfl rfl (fun b_122 w_123 h_124 => ?_)
  refine WL.buildSl (vs := [(0, (.slice (some ⟨b_122, 0, none⟩) 1 1))]) (cs := [(.slice (some ⟨b_122, 0, none⟩) 1 1)]) h_124 Tryz.underlying128 Tryz.sizeOf88 (zv Tryz.typeInfo88 rfl) rfl rfl (by kernel_rfl) rfl (by simp [Value.oneCell']) rfl rfl (fun b_125 w_126 h_127 => ?_)
  refine WL.append (km := 10) (xs := [(.slice a_7 8 cap_8), (.slice a_16 8 cap_17), (.slice a_30 8 cap_31), (.slice a_43 8 cap_44), (.slice a_56 8 cap_57), (.slice a_69 8 cap_70), (.slice a_82 8 cap_83), (.slice a_95 8 cap_96), (.slice a_108 8 cap_109)]) (ys := [(.slice (some ⟨b_122, 0, none⟩) 1 1)]) (zs := [(.slice a_7 8 cap_8), (.slice a_16 8 cap_17), (.slice a_30 8 cap_31), (.slice a_43 8 cap_44), (.slice a_56 8 cap_57), (.slice a_69 8 cap_70), (.slice a_82 8 cap_83), (.slice a_95 8 cap_96), (.slice a_108 8 cap_109), (.slice (some ⟨b_122, 0, none⟩) 1 1)]) h_127 rfl rfl el128 (viewB (h_127.ok _ M0) Sg.h) rfl (by simp [Value.oneCell']) rfl rfl (by omega) (by omega) (fun _ _ => (At.t (At.t (At.t (At.t (At.t (At.t (At.t (At.t (At.t (At.t (At.t (At.t (At.t (At.t (At.t (At.t (At.t (At.t At.h))))))))))))))))))) rfl (fun a_128 c_129 w_130 h_131 => ?_)
  refine qA (.slice a_128 10 c_129) rfl rfl ?_
  refine WL.nil (thn_n (WP.seq (WP.reg ?_)))
  refine qM (.slice a_128 10 c_129) rfl rfl ?_
  refine WL.call Tryz.call130 rfl rfl (c_gran 3 ([114, 101, 99] : List UInt8) rfl (by decide) a_128 10 c_129 [(.slice a_7 8 cap_8), (.slice a_16 8 cap_17), (.slice a_30 8 cap_31), (.slice a_43 8 cap_44), (.slice a_56 8 cap_57), (.slice a_69 8 cap_70), (.slice a_82 8 cap_83), (.slice a_95 8 cap_96), (.slice a_108 8 cap_109), (.slice (some ⟨b_122, 0, none⟩) 1 1)] [leN 8 pc.toNat, leN 8 (rg.getD 0 0).toNat, leN 8 (rg.getD 1 0).toNat, leN 8 (rg.getD 2 0).toNat, leN 8 (rg.getD 3 0).toNat, leN 8 (rg.getD 4 0).toNat, leN 8 (rg.getD 5 0).toNat, leN 8 (rg.getD 6 0).toNat, leN 8 (rg.getD 7 0).toNat, ([1] : List UInt8)] rfl (by simp [leN_len]) (by omega) _ (ownView (h_131.ok _ M18)) (Sls.cons (leN_len ..) (h_131.own M19).2.2.1 (ownView (h_131.ok _ M19)) (Sls.cons (leN_len ..) (h_131.own M17).2.2.1 (ownView (h_131.ok _ M17)) (Sls.cons (leN_len ..) (h_131.own M15).2.2.1 (ownView (h_131.ok _ M15)) (Sls.cons (leN_len ..) (h_131.own M13).2.2.1 (ownView (h_131.ok _ M13)) (Sls.cons (leN_len ..) (h_131.own M11).2.2.1 (ownView (h_131.ok _ M11)) (Sls.cons (leN_len ..) (h_131.own M9).2.2.1 (ownView (h_131.ok _ M9)) (Sls.cons (leN_len ..) (h_131.own M7).2.2.1 (ownView (h_131.ok _ M7)) (Sls.cons (leN_len ..) (h_131.own M5).2.2.1 (ownView (h_131.ok _ M5)) (Sls.cons (leN_len ..) (h_131.own M3).2.2.1 (ownView (h_131.ok _ M3)) (Sls.cons (rfl : List.length ([1] : List UInt8) = 1) (by decide) (viewB (h_131.ok _ M1) Sg.h) Sls.nil))))))))))) rfl ?_
  rintro _ w_133 ⟨rfl, hc_132⟩
  have h_134 := h_131.same hc_132
  refine WL.storeA (b := b_4) (off := 0) [] [(128, (List.replicate 128 (0 : UInt8)).map vu8)] [(128, (ovr (ovr (List.replicate 128 (0 : UInt8)) 0 ([114, 101, 99] : List UInt8)) 8 ([leN 8 pc.toNat, leN 8 (rg.getD 0 0).toNat, leN 8 (rg.getD 1 0).toNat, leN 8 (rg.getD 2 0).toNat, leN 8 (rg.getD 3 0).toNat, leN 8 (rg.getD 4 0).toNat, leN 8 (rg.getD 5 0).toNat, leN 8 (rg.getD 6 0).toNat, leN 8 (rg.getD 7 0).toNat, ([1] : List UInt8)]).flatten).map vu8)] [] (ys := (ovr (ovr (List.replicate 128 (0 : UInt8)) 0 ([114, 101, 99] : List UInt8)) 8 ([leN 8 pc.toNat, leN 8 (rg.getD 0 0).toNat, leN 8 (rg.getD 1 0).toNat, leN 8 (rg.getD 2 0).toNat, leN 8 (rg.getD 3 0).toNat, leN 8 (rg.getD 4 0).toNat, leN 8 (rg.getD 5 0).toNat, leN 8 (rg.getD 6 0).toNat, leN 8 (rg.getD 7 0).toNat, ([1] : List UInt8)]).flatten).map vu8) h_134 rfl rfl Tryz.sizeOf29 (At.t (At.t (At.t (At.t (At.t (At.t (At.t (At.t (At.t (At.t (At.t (At.t (At.t (At.t (At.t (At.t (At.t (At.t (At.t (At.t At.h)))))))))))))))))))) (by decide) rfl rfl rfl rfl rfl rfl (SsOk.cons (SOk.u8 (ovr_len (ovr_len lr (by decide)) (by have hz : ([leN 8 pc.toNat, leN 8 (rg.getD 0 0).toNat, leN 8 (rg.getD 1 0).toNat, leN 8 (rg.getD 2 0).toNat, leN 8 (rg.getD 3 0).toNat, leN 8 (rg.getD 4 0).toNat, leN 8 (rg.getD 5 0).toNat, leN 8 (rg.getD 6 0).toNat, leN 8 (rg.getD 7 0).toNat, ([1] : List UInt8)]).flatten.length ≤ 119 := (by simp [leN_len]); omega))) SsOk.nil) (fun w_135 h_136 => ?_)
  refine WL.nil (thn_n (WP.ret ?_))
  refine ret_of Tryz.results106 (RV.cell rfl (h_136.loadA (cs := (ovr (ovr (List.replicate 128 (0 : UInt8)) 0 ([114, 101, 99] : List UInt8)) 8 ([leN 8 pc.toNat, leN 8 (rg.getD 0 0).toNat, leN 8 (rg.getD 1 0).toNat, leN 8 (rg.getD 2 0).toNat, leN 8 (rg.getD 3 0).toNat, leN 8 (rg.getD 4 0).toNat, leN 8 (rg.getD 5 0).toNat, leN 8 (rg.getD 6 0).toNat, leN 8 (rg.getD 7 0).toNat, ([1] : List UInt8)]).flatten).map vu8) Tryz.isAgg29 Tryz.sizeOf29 M20 rfl rfl) RV.nil) ?_
  exact ⟨by rw [← rec_eq, recP, recL, c_121]; rfl, h_136.chgS⟩
 ·refine WP.skip (thn_n (WP.seq (WP.reg ?_)))
  refine qM (.slice a_117 9 c_118) rfl rfl ?_
  refine WL.call Tryz.call130 rfl rfl (c_gran 3 ([114, 101, 99] : List UInt8) rfl (by decide) a_117 9 c_118 [(.slice a_7 8 cap_8), (.slice a_16 8 cap_17), (.slice a_30 8 cap_31), (.slice a_43 8 cap_44), (.slice a_56 8 cap_57), (.slice a_69 8 cap_70), (.slice a_82 8 cap_83), (.slice a_95 8 cap_96), (.slice a_108 8 cap_109)] [leN 8 pc.toNat, leN 8 (rg.getD 0 0).toNat, leN 8 (rg.getD 1 0).toNat, leN 8 (rg.getD 2 0).toNat, leN 8 (rg.getD 3 0).toNat, leN 8 (rg.getD 4 0).toNat, leN 8 (rg.getD 5 0).toNat, leN 8 (rg.getD 6 0).toNat, leN 8 (rg.getD 7 0).toNat] rfl (by simp [leN_len]) (by omega) _ (ownView (h_120.ok _ M16)) (Sls.cons (leN_len ..) (h_120.own M17).2.2.1 (ownView (h_120.ok _ M17)) (Sls.cons (leN_len ..) (h_120.own M15).2.2.1 (ownView (h_120.ok _ M15)) (Sls.cons (leN_len ..) (h_120.own M13).2.2.1 (ownView (h_120.ok _ M13)) (Sls.cons (leN_len ..) (h_120.own M11).2.2.1 (ownView (h_120.ok _ M11)) (Sls.cons (leN_len ..) (h_120.own M9).2.2.1 (ownView (h_120.ok _ M9)) (Sls.cons (leN_len ..) (h_120.own M7).2.2.1 (ownView (h_120.ok _ M7)) (Sls.cons (leN_len ..) (h_120.own M5).2.2.1 (ownView (h_120.ok _ M5)) (Sls.cons (leN_len ..) (h_120.own M3).2.2.1 (ownView (h_120.ok _ M3)) (Sls.cons (leN_len ..) (h_120.own M1).2.2.1 (ownView (h_120.ok _ M1)) Sls.nil)))))))))) rfl ?_
  rintro _ w_138 ⟨rfl, hc_137⟩
  have h_139 := h_120.same hc_137
  refine WL.storeA (b := b_4) (off := 0) [] [(128, (List.replicate 128 (0 : UInt8)).map vu8)] [(128, (ovr (ovr (List.replicate 128 (0 : UInt8)) 0 ([114, 101, 99] : List UInt8)) 8 ([leN 8 pc.toNat, leN 8 (rg.getD 0 0).toNat, leN 8 (rg.getD 1 0).toNat, leN 8 (rg.getD 2 0).toNat, leN 8 (rg.getD 3 0).toNat, leN 8 (rg.getD 4 0).toNat, leN 8 (rg.getD 5 0).toNat, leN 8 (rg.getD 6 0).toNat, leN 8 (rg.getD 7 0).toNat]).flatten).map vu8)] [] (ys := (ovr (ovr (List.replicate 128 (0 : UInt8)) 0 ([114, 101, 99] : List UInt8)) 8 ([leN 8 pc.toNat, leN 8 (rg.getD 0 0).toNat, leN 8 (rg.getD 1 0).toNat, leN 8 (rg.getD 2 0).toNat, leN 8 (rg.getD 3 0).toNat, leN 8 (rg.getD 4 0).toNat, leN 8 (rg.getD 5 0).toNat, leN 8 (rg.getD 6 0).toNat, leN 8 (rg.getD 7 0).toNat]).flatten).map vu8) h_139 rfl rfl Tryz.sizeOf29 (At.t (At.t (At.t (At.t (At.t (At.t (At.t (At.t (At.t (At.t (At.t (At.t (At.t (At.t (At.t (At.t (At.t (At.t At.h)))))))))))))))))) (by decide) rfl rfl rfl rfl rfl rfl (SsOk.cons (SOk.u8 (ovr_len (ovr_len lr (by decide)) (by have hz : ([leN 8 pc.toNat, leN 8 (rg.getD 0 0).toNat, leN 8 (rg.getD 1 0).toNat, leN 8 (rg.getD 2 0).toNat, leN 8 (rg.getD 3 0).toNat, leN 8 (rg.getD 4 0).toNat, leN 8 (rg.getD 5 0).toNat, leN 8 (rg.getD 6 0).toNat, leN 8 (rg.getD 7 0).toNat]).flatten.length ≤ 119 := (by simp [leN_len]); omega))) SsOk.nil) (fun w_140 h_141 => ?_)
  refine WL.nil (thn_n (WP.ret ?_))
  refine ret_of Tryz.results106 (RV.cell rfl (h_141.loadA (cs := (ovr (ovr (List.replicate 128 (0 : UInt8)) 0 ([114, 101, 99] : List UInt8)) 8 ([leN 8 pc.toNat, leN 8 (rg.getD 0 0).toNat, leN 8 (rg.getD 1 0).toNat, leN 8 (rg.getD 2 0).toNat, leN 8 (rg.getD 3 0).toNat, leN 8 (rg.getD 4 0).toNat, leN 8 (rg.getD 5 0).toNat, leN 8 (rg.getD 6 0).toNat, leN 8 (rg.getD 7 0).toNat]).flatten).map vu8) Tryz.isAgg29 Tryz.sizeOf29 M18 rfl rfl) RV.nil) ?_
  exact ⟨by rw [← rec_eq, recP, recL, c_121]; rfl, h_141.chgS⟩

theorem c_RecBytesR (pc : UInt64) (rg : List UInt64) (hrg : rg.length = 8) (run : Bool) (w : World) :
  Cs Tryz.prog 76 [(.agg ⟨flat [(1, [(vu64 pc)]), (8, rg.map vu64), (1, [(.bool run)])]⟩)].toArray w (fun v w1 => v = .agg ⟨(recB pc rg run).map vu8⟩ ∧ Chg w w1 []) := by
 refine Cs.of (n := 30) (args := [(.agg ⟨flat [(1, [(vu64 pc)]), (8, rg.map vu64), (1, [(.bool run)])]⟩)]) Tryz.func76 rfl rfl rfl ?_
 have h_0 := HP.init w
 refine WP.seq (WP.reg ?_)
 refine WL.box (v := (.agg ⟨flat [(1, [(vu64 pc)]), (8, rg.map vu64), (1, [(.bool run)])]⟩)) (segs := [(1, [(vu64 pc)]), (8, rg.map vu64), (1, [(.bool run)])]) h_0 rfl rfl (SsOk.cons (SOk.v rfl) (SsOk.cons (SOk.u64 hrg) (SsOk.cons (SOk.v rfl) SsOk.nil))) rfl (fun b_1 w_2 h_3 => ?_)
 refine WL.alloc (segs := [(128, (List.replicate 128 (0 : UInt8)).map vu8)]) h_3 (zv Tryz.typeInfo29 rfl) rfl (SsOk.cons (SOk.u8 lr) SsOk.nil) rfl (fun b_4 w_5 h_6 => ?_)
 refine WL.nil (thn_n (WP.seq (WP.reg ?_)))
 refine qA (.slice none 0 0) rfl rfl ?_
 refine WL.nil (thn_n (WP.seq (WP.seq (WP.reg ?_))))
 refine qA (vi 0) rfl rfl ?_
 refine WL.nil (thn_n (WP.block ?_))
 refine WP.loopU (WI.round ?_)
 refine WP.seq (WP.seq (WP.reg ?_))
 refine qM (vi 0) rfl rfl (qV rfl (R.bin rfl rfl (bi_lss (r := true) (by decide))) ?_)
 refine WL.nil (thn_n ?_)
 refine WP.condT rfl ?_
 refine WP.skip (thn_n (WP.seq (WP.block (WP.reg ?_))))
 refine qM (.slice none 0 0) rfl rfl (qM (vi 0) rfl rfl (qV rfl (R.fieldAddr (off' := 1) rfl Tryz.underlying57 rfl Tryz.sizeOf55 rfl rfl) (qV rfl (R.indexA (b := b_1) (off := 1) (off' := 1) (i := 0) rfl rfl rfl (by decide) Tryz.underlying55 Tryz.sizeOf27 rfl) (qV rfl (R.loadE (b := b_1) (off := 1) (i := 0) (v := (vu64 (rg.getD 0 0))) rfl Tryz.isAgg27 (h_6.ok _ M1) (Sg.t rfl Sg.h) rfl (get_u64 (lt_len (K := 8) hrg (by decide)))) ?_))))
 refine WL.call Tryz.call107 rfl rfl (c_rword10 (rg.getD 0 0) _) rfl ?_
 rintro _ w_9 ⟨a_7, cap_8, rfl, hc_10, ho_11⟩
 have h_12 := h_6.gotRow hc_10 ho_11
 have h_13 := h_12.rowNil 5 1
 refine WL.append (km := 8) (xs := []) (ys := (leN 8 (rg.getD 0 0).toNat).map vu8) (zs := (([] : List UInt8) ++ (leN 8 (rg.getD 0 0).toNat)).map vu8) h_13 rfl rfl el88 (ownView (h_13.ok _ M1)) ((len_map (leN_len ..)).trans (Nat.mul_one _).symm) (one_u8 _) (by simp only [List.map_append, List.map_nil]) rfl (by omega) (by omega) (fun _ _ => At.h) rfl (fun a_14 c_15 w_16 h_17 => ?_)
 refine qA (.slice a_14 8 c_15) rfl rfl ?_
 refine WL.nil (inb_n (thn_n (WP.reg ?_)))
 refine qM (vi 0) rfl rfl (qV rfl (R.bin rfl rfl (bi_add (c := 1) (by omega) (by omega))) (qA (vi 1) rfl rfl ?_))
 refine WL.nil (thn_n ?_)
 refine WI.round ?_
 refine WP.seq (WP.seq (WP.reg ?_))
 refine qM (vi 1) rfl rfl (qV rfl (R.bin rfl rfl (bi_lss (r := true) (by decide))) ?_)
 refine WL.nil (thn_n ?_)
 refine WP.condT rfl ?_
 refine WP.skip (thn_n (WP.seq (WP.block (WP.reg ?_))))
 refine qM (.slice a_14 8 c_15) rfl rfl (qM (vi 1) rfl rfl (qV rfl (R.fieldAddr (off' := 1) rfl Tryz.underlying57 rfl Tryz.sizeOf55 rfl rfl) (qV rfl (R.indexA (b := b_1) (off := 1) (off' := 2) (i := 1) rfl rfl rfl (by decide) Tryz.underlying55 Tryz.sizeOf27 rfl) (qV rfl (R.loadE (b := b_1) (off := 2) (i := 1) (v := (vu64 (rg.getD 1 0))) rfl Tryz.isAgg27 (h_17.ok _ M3) (Sg.t rfl Sg.h) rfl (get_u64 (lt_len (K := 8) hrg (by decide)))) ?_))))
 refine WL.call Tryz.call107 rfl rfl (c_rword10 (rg.getD 1 0) _) rfl ?_
 rintro _ w_20 ⟨a_18, cap_19, rfl, hc_21, ho_22⟩
 have h_23 := h_17.gotRow hc_21 ho_22
 refine WL.append (km := 16) (xs := (([] : List UInt8) ++ (leN 8 (rg.getD 0 0).toNat)).map vu8) (ys := (leN 8 (rg.getD 1 0).toNat).map vu8) (zs := ((([] : List UInt8) ++ (leN 8 (rg.getD 0 0).toNat)) ++ (leN 8 (rg.getD 1 0).toNat)).map vu8) h_23 rfl rfl el88 (ownView (h_23.ok _ M0)) ((len_map (leN_len ..)).trans (Nat.mul_one _).symm) (one_u8 _) (by simp only [List.map_append, List.map_nil]) rfl (by omega) (by omega) (fun _ _ => Y1) rfl (fun a_24 c_25 w_26 h_27 => ?_)
 refine qA (.slice a_24 16 c_25) rfl rfl ?_
 refine WL.nil (inb_n (thn_n (WP.reg ?_)))
 refine qM (vi 1) rfl rfl (qV rfl (R.bin rfl rfl (bi_add (c := 2) (by omega) (by omega))) (qA (vi 2) rfl rfl ?_))
 refine WL.nil (thn_n ?_)
 refine WI.round ?_
 refine WP.seq (WP.seq (WP.reg ?_))
 refine qM (vi 2) rfl rfl (qV rfl (R.bin rfl rfl (bi_lss (r := true) (by decide))) ?_)
 refine WL.nil (thn_n ?_)
 refine WP.condT rfl ?_
 refine WP.skip (thn_n (WP.seq (WP.block (WP.reg ?_))))
 refine qM (.slice a_24 16 c_25) rfl rfl (qM (vi 2) rfl rfl (qV rfl (R.fieldAddr (off' := 1) rfl Tryz.underlying57 rfl Tryz.sizeOf55 rfl rfl) (qV rfl (R.indexA (b := b_1) (off := 1) (off' := 3) (i := 2) rfl rfl rfl (by decide) Tryz.underlying55 Tryz.sizeOf27 rfl) (qV rfl (R.loadE (b := b_1) (off := 3) (i := 2) (v := (vu64 (rg.getD 2 0))) rfl Tryz.isAgg27 (h_27.ok _ M4) (Sg.t rfl Sg.h) rfl (get_u64 (lt_len (K := 8) hrg (by decide)))) ?_))))
 refine WL.call Tryz.call107 rfl rfl (c_rword10 (rg.getD 2 0) _) rfl ?_
 rintro _ w_30 ⟨a_28, cap_29, rfl, hc_31, ho_32⟩
 have h_33 := h_27.gotRow hc_31 ho_32
 refine WL.append (km := 24) (xs := ((([] : List UInt8) ++ (leN 8 (rg.getD 0 0).toNat)) ++ (leN 8 (rg.getD 1 0).toNat)).map vu8) (ys := (leN 8 (rg.getD 2 0).toNat).map vu8) (zs := (((([] : List UInt8) ++ (leN 8 (rg.getD 0 0).toNat)) ++ (leN 8 (rg.getD 1 0).toNat)) ++ (leN 8 (rg.getD 2 0).toNat)).map vu8) h_33 rfl rfl el88 (ownView (h_33.ok _ M0)) ((len_map (leN_len ..)).trans (Nat.mul_one _).symm) (one_u8 _) (by simp only [List.map_append, List.map_nil]) rfl (by omega) (by omega) (fun _ _ => Y2) rfl (fun a_34 c_35 w_36 h_37 => ?_)
 refine qA (.slice a_34 24 c_35) rfl rfl ?_
 refine WL.nil (inb_n (thn_n (WP.reg ?_)))
 refine qM (vi 2) rfl rfl (qV rfl (R.bin rfl rfl (bi_add (c := 3) (by omega) (by omega))) (qA (vi 3) rfl rfl ?_))
 refine WL.nil (thn_n ?_)
 refine WI.round ?_
 refine WP.seq (WP.seq (WP.reg ?_))
 refine qM (vi 3) rfl rfl (qV rfl (R.bin rfl rfl (bi_lss (r := true) (by decide))) ?_)
 refine WL.nil (thn_n ?_)
 refine WP.condT rfl ?_
 refine WP.skip (thn_n (WP.seq (WP.block (WP.reg ?_))))
 refine qM (.slice a_34 24 c_35) rfl rfl (qM (vi 3) rfl rfl (qV rfl (R.fieldAddr (off' := 1) rfl Tryz.underlying57 rfl Tryz.sizeOf55 rfl rfl) (qV rfl (R.indexA (b := b_1) (off := 1) (off' := 4) (i := 3) rfl rfl rfl (by decide) Tryz.underlying55 Tryz.sizeOf27 rfl) (qV rfl (R.loadE (b := b_1) (off := 4) (i := 3) (v := (vu64 (rg.getD 3 0))) rfl Tryz.isAgg27 (h_37.ok _ M5) (Sg.t rfl Sg.h) rfl (get_u64 (lt_len (K := 8) hrg (by decide)))) ?_))))
 refine WL.call Tryz.call107 rfl rfl (c_rword10 (rg.getD 3 0) _) rfl ?_
 rintro _ w_40 ⟨a_38, cap_39, rfl, hc_41, ho_42⟩
 have h_43 := h_37.gotRow hc_41 ho_42
 refine WL.append (km := 32) (xs := (((([] : List UInt8) ++ (leN 8 (rg.getD 0 0).toNat)) ++ (leN 8 (rg.getD 1 0).toNat)) ++ (leN 8 (rg.getD 2 0).toNat)).map vu8) (ys := (leN 8 (rg.getD 3 0).toNat).map vu8) (zs := ((((([] : List UInt8) ++ (leN 8 (rg.getD 0 0).toNat)) ++ (leN 8 (rg.getD 1 0).toNat)) ++ (leN 8 (rg.getD 2 0).toNat)) ++ (leN 8 (rg.getD 3 0).toNat)).map vu8) h_43 rfl rfl el88 (ownView (h_43.ok _ M0)) ((len_map (leN_len ..)).trans (Nat.mul_one _).symm) (one_u8 _) (by simp only [List.map_append, List.map_nil]) rfl (by omega) (by omega) (fun _ _ => Y3) rfl (fun a_44 c_45 w_46 h_47 => ?_)
 refine qA (.slice a_44 32 c_45) rfl rfl ?_
 refine WL.nil (inb_n (thn_n (WP.reg ?_)))
 refine qM (vi 3) rfl rfl (qV rfl (R.bin rfl rfl (bi_add (c := 4) (by omega) (by omega))) (qA (vi 4) rfl rfl ?_))
 refine WL.nil (thn_n ?_)
 refine WI.round ?_
 refine WP.seq (WP.seq (WP.reg ?_))
 refine qM (vi 4) rfl rfl (qV rfl (R.bin rfl rfl (bi_lss (r := true) (by decide))) ?_)
 refine WL.nil (thn_n ?_)
 refine WP.condT rfl ?_
 refine WP.skip (thn_n (WP.seq (WP.block (WP.reg ?_))))
 refine qM (.slice a_44 32 c_45) rfl rfl (qM (vi 4) rfl rfl (qV rfl (R.fieldAddr (off' := 1) rfl Tryz.underlying57 rfl Tryz.sizeOf55 rfl rfl) (qV rfl (R.indexA (b := b_1) (off := 1) (off' := 5) (i := 4) rfl rfl rfl (by decide) Tryz.underlying55 Tryz.sizeOf27 rfl) (qV rfl (R.loadE (b := b_1) (off := 5) (i := 4) (v := (vu64 (rg.getD 4 0))) rfl Tryz.isAgg27 (h_47.ok _ M6) (Sg.t rfl Sg.h) rfl (get_u64 (lt_len (K := 8) hrg (by decide)))) ?_))))
 refine WL.call Tryz.call107 rfl rfl (c_rword10 (rg.getD 4 0) _) rfl ?_
 rintro _ w_50 ⟨a_48, cap_49, rfl, hc_51, ho_52⟩
 have h_53 := h_47.gotRow hc_51 ho_52
 refine WL.append (km := 40) (xs := ((((([] : List UInt8) ++ (leN 8 (rg.getD 0 0).toNat)) ++ (leN 8 (rg.getD 1 0).toNat)) ++ (leN 8 (rg.getD 2 0).toNat)) ++ (leN 8 (rg.getD 3 0).toNat)).map vu8) (ys := (leN 8 (rg.getD 4 0).toNat).map vu8) (zs := (((((([] : List UInt8) ++ (leN 8 (rg.getD 0 0).toNat)) ++ (leN 8 (rg.getD 1 0).toNat)) ++ (leN 8 (rg.getD 2 0).toNat)) ++ (leN 8 (rg.getD 3 0).toNat)) ++ (leN 8 (rg.getD 4 0).toNat)).map vu8) h_53 rfl rfl el88 (ownView (h_53.ok _ M0)) ((len_map (leN_len ..)).trans (Nat.mul_one _).symm) (one_u8 _) (by simp only [List.map_append, List.map_nil]) rfl (by omega) (by omega) (fun _ _ => Y4) rfl (fun a_54 c_55 w_56 h_57 => ?_)
 refine qA (.slice a_54 40 c_55) rfl rfl ?_
 refine WL.nil (inb_n (thn_n (WP.reg ?_)))
 refine qM (vi 4) rfl rfl (qV rfl (R.bin rfl rfl (bi_add (c := 5) (by omega) (by omega))) (qA (vi 5) rfl rfl ?_))
 refine WL.nil (thn_n ?_)
 refine WI.round ?_
 refine WP.seq (WP.seq (WP.reg ?_))
 refine qM (vi 5) rfl rfl (qV rfl (R.bin rfl rfl (bi_lss (r := true) (by decide))) ?_)
 refine WL.nil (thn_n ?_)
 refine WP.condT rfl ?_
 refine WP.skip (thn_n (WP.seq (WP.block (WP.reg ?_))))
 refine qM (.slice a_54 40 c_55) rfl rfl (qM (vi 5) rfl rfl (qV rfl (R.fieldAddr (off' := 1) rfl Tryz.underlying57 rfl Tryz.sizeOf55 rfl rfl) (qV rfl (R.indexA (b := b_1) (off := 1) (off' := 6) (i := 5) rfl rfl rfl (by decide) Tryz.underlying55 Tryz.sizeOf27 rfl) (qV rfl (R.loadE (b := b_1) (off := 6) (i := 5) (v := (vu64 (rg.getD 5 0))) rfl Tryz.isAgg27 (h_57.ok _ M7) (Sg.t rfl Sg.h) rfl (get_u64 (lt_len (K := 8) hrg (by decide)))) ?_))))
 refine WL.call Tryz.call107 rfl rfl (c_rword10 (rg.getD 5 0) _) rfl ?_
 rintro _ w_60 ⟨a_58, cap_59, rfl, hc_61, ho_62⟩
 have h_63 := h_57.gotRow hc_61 ho_62
 refine WL.append (km := 48) (xs := (((((([] : List UInt8) ++ (leN 8 (rg.getD 0 0).toNat)) ++ (leN 8 (rg.getD 1 0).toNat)) ++ (leN 8 (rg.getD 2 0).toNat)) ++ (leN 8 (rg.getD 3 0).toNat)) ++ (leN 8 (rg.getD 4 0).toNat)).map vu8) (ys := (leN 8 (rg.getD 5 0).toNat).map vu8) (zs := ((((((([] : List UInt8) ++ (leN 8 (rg.getD 0 0).toNat)) ++ (leN 8 (rg.getD 1 0).toNat)) ++ (leN 8 (rg.getD 2 0).toNat)) ++ (leN 8 (rg.getD 3 0).toNat)) ++ (leN 8 (rg.getD 4 0).toNat)) ++ (leN 8 (rg.getD 5 0).toNat)).map vu8) h_63 rfl rfl el88 (ownView (h_63.ok _ M0)) ((len_map (leN_len ..)).trans (Nat.mul_one _).symm) (one_u8 _) (by simp only [List.map_append, List.map_nil]) rfl (by omega) (by omega) (fun _ _ => Y5) rfl (fun a_64 c_65 w_66 h_67 => ?_)
 refine qA (.slice a_64 48 c_65) rfl rfl ?_
 refine WL.nil (inb_n (thn_n (WP.reg ?_)))
 refine qM (vi 5) rfl rfl (qV rfl (R.bin rfl rfl (bi_add (c := 6) (by omega) (by omega))) (qA (vi 6) rfl rfl ?_))
 refine WL.nil (thn_n ?_)
 refine WI.round ?_
 refine WP.seq (WP.seq (WP.reg ?_))
 refine qM (vi 6) rfl rfl (qV rfl (R.bin rfl rfl (bi_lss (r := true) (by decide))) ?_)
 refine WL.nil (thn_n ?_)
 refine WP.condT rfl ?_
 refine WP.skip (thn_n (WP.seq (WP.block (WP.reg ?_))))
 refine qM (.slice a_64 48 c_65) rfl rfl (qM (vi 6) rfl rfl (qV rfl (R.fieldAddr (off' := 1) rfl Tryz.underlying57 rfl Tryz.sizeOf55 rfl rfl) (qV rfl (R.indexA (b := b_1) (off := 1) (off' := 7) (i := 6) rfl rfl rfl (by decide) Tryz.underlying55 Tryz.sizeOf27 rfl) (qV rfl (R.loadE (b := b_1) (off := 7) (i := 6) (v := (vu64 (rg.getD 6 0))) rfl Tryz.isAgg27 (h_67.ok _ M8) (Sg.t rfl Sg.h) rfl (get_u64 (lt_len (K := 8) hrg (by decide)))) ?_))))
 refine WL.call Tryz.call107 rfl rfl (c_rword10 (rg.getD 6 0) _) rfl ?_
 rintro _ w_70 ⟨a_68, cap_69, rfl, hc_71, ho_72⟩
 have h_73 := h_67.gotRow hc_71 ho_72
 refine WL.append (km := 56) (xs := ((((((([] : List UInt8) ++ (leN 8 (rg.getD 0 0).toNat)) ++ (leN 8 (rg.getD 1 0).toNat)) ++ (leN 8 (rg.getD 2 0).toNat)) ++ (leN 8 (rg.getD 3 0).toNat)) ++ (leN 8 (rg.getD 4 0).toNat)) ++ (leN 8 (rg.getD 5 0).toNat)).map vu8) (ys := (leN 8 (rg.getD 6 0).toNat).map vu8) (zs := (((((((([] : List UInt8) ++ (leN 8 (rg.getD 0 0).toNat)) ++ (leN 8 (rg.getD 1 0).toNat)) ++ (leN 8 (rg.getD 2 0).toNat)) ++ (leN 8 (rg.getD 3 0).toNat)) ++ (leN 8 (rg.getD 4 0).toNat)) ++ (leN 8 (rg.getD 5 0).toNat)) ++ (leN 8 (rg.getD 6 0).toNat)).map vu8) h_73 rfl rfl el88 (ownView (h_73.ok _ M0)) ((len_map (leN_len ..)).trans (Nat.mul_one _).symm) (one_u8 _) (by simp only [List.map_append, List.map_nil]) rfl (by omega) (by omega) (fun _ _ => Y6) rfl (fun a_74 c_75 w_76 h_77 => ?_)
 refine qA (.slice a_74 56 c_75) rfl rfl ?_
 refine WL.nil (inb_n (thn_n (WP.reg ?_)))
 refine qM (vi 6) rfl rfl (qV rfl (R.bin rfl rfl (bi_add (c := 7) (by omega) (by omega))) (qA (vi 7) rfl rfl ?_))
 refine WL.nil (thn_n ?_)
 refine WI.round ?_
 refine WP.seq (WP.seq (WP.reg ?_))
 refine qM (vi 7) rfl rfl (qV rfl (R.bin rfl rfl (bi_lss (r := true) (by decide))) ?_)
 refine WL.nil (thn_n ?_)
 refine WP.condT rfl ?_
 refine WP.skip (thn_n (WP.seq (WP.block (WP.reg ?_))))
 refine qM (.slice a_74 56 c_75) rfl rfl (qM (vi 7) rfl rfl (qV rfl (R.fieldAddr (off' := 1) rfl Tryz.underlying57 rfl Tryz.sizeOf55 rfl rfl) (qV rfl (R.indexA (b := b_1) (off := 1) (off' := 8) (i := 7) rfl rfl rfl (by decide) Tryz.underlying55 Tryz.sizeOf27 rfl) (qV rfl (R.loadE (b := b_1) (off := 8) (i := 7) (v := (vu64 (rg.getD 7 0))) rfl Tryz.isAgg27 (h_77.ok _ M9) (Sg.t rfl Sg.h) rfl (get_u64 (lt_len (K := 8) hrg (by decide)))) ?_))))
 refine WL.call Tryz.call107 rfl rfl (c_rword10 (rg.getD 7 0) _) rfl ?_
 rintro _ w_80 ⟨a_78, cap_79, rfl, hc_81, ho_82⟩
 have h_83 := h_77.gotRow hc_81 ho_82
 refine WL.append (km := 64) (xs := (((((((([] : List UInt8) ++ (leN 8 (rg.getD 0 0).toNat)) ++ (leN 8 (rg.getD 1 0).toNat)) ++ (leN 8 (rg.getD 2 0).toNat)) ++ (leN 8 (rg.getD 3 0).toNat)) ++ (leN 8 (rg.getD 4 0).toNat)) ++ (leN 8 (rg.getD 5 0).toNat)) ++ (leN 8 (rg.getD 6 0).toNat)).map vu8) (ys := (leN 8 (rg.getD 7 0).toNat).map vu8) (zs := ((((((((([] : List UInt8) ++ (leN 8 (rg.getD 0 0).toNat)) ++ (leN 8 (rg.getD 1 0).toNat)) ++ (leN 8 (rg.getD 2 0).toNat)) ++ (leN 8 (rg.getD 3 0).toNat)) ++ (leN 8 (rg.getD 4 0).toNat)) ++ (leN 8 (rg.getD 5 0).toNat)) ++ (leN 8 (rg.getD 6 0).toNat)) ++ (leN 8 (rg.getD 7 0).toNat)).map vu8) h_83 rfl rfl el88 (ownView (h_83.ok _ M0)) ((len_map (leN_len ..)).trans (Nat.mul_one _).symm) (one_u8 _) (by simp only [List.map_append, List.map_nil]) rfl (by omega) (by omega) (fun _ _ => Y7) rfl (fun a_84 c_85 w_86 h_87 => ?_)
 refine qA (.slice a_84 64 c_85) rfl rfl ?_
 refine WL.nil (inb_n (thn_n (WP.reg ?_)))
 refine qM (vi 7) rfl rfl (qV rfl (R.bin rfl rfl (bi_add (c := 8) (by omega) (by omega))) (qA (vi 8) rfl rfl ?_))
 refine WL.nil (thn_n ?_)
 refine WI.round ?_
 refine WP.seq (WP.seq (WP.reg ?_))
 refine qM (vi 8) rfl rfl (qV rfl (R.bin rfl rfl (bi_lss (r := false) (by decide))) ?_)
 refine WL.nil (thn_n ?_)
 refine WP.condF rfl ?_
 refine WP.exit (thn_x (thn_x (inb_hit (thn_n (WP.seq (WP.reg ?_))))))
 refine WL.buildSl (vs := [(0, (vu8 0))]) (cs := ([0] : List UInt8).map vu8) h_87 Tryz.underlying88 Tryz.sizeOf5 (zv Tryz.typeInfo5 rfl) rfl rfl (by kernel_rfl) rfl (one_u8 _) rfl rfl (fun b_88 w_89 h_90 => ?_)
 refine qA (.slice (some ⟨b_88, 0, none⟩) 1 1) rfl rfl ?_
 refine WL.nil (thn_n (WP.seq (WP.seq (WP.reg ?_))))
 refine qV rfl (R.fieldAddr (off' := 9) rfl Tryz.underlying57 rfl Tryz.sizeOf4 rfl rfl) (qV rfl (R.load1 rfl Tryz.isAgg4 (h_90.ok _ M11) (Sg.t rfl (Sg.t rfl Sg.h))) ?_)
 refine WL.nil (thn_n ?_)
 refine WP.cond (b := run) rfl (fun c_91 => ?_) (fun c_91 => ?_)
 ·refine WP.reg ?_
  refine qM (.slice (some ⟨b_88, 0, none⟩) 1 1) rfl rfl (qV rfl (R.indexP (b := b_88) (off := 0) (off' := 0) (i := 0) rfl rfl rfl (by decide) Tryz.underlying88 Tryz.sizeOf5 rfl) ?_)
  refine WL.storeE (b := b_88) (off := 0) (i := 0) (v := (vu8 1)) (cs' := (([0] : List UInt8).set 0 1).map vu8) h_90 rfl rfl Tryz.sizeOf5 rfl At.h (by decide) Sg.h rfl (lt_len (K := 1) (len_map (rfl : List.length ([0] : List UInt8) = 1)) (by decide)) (set_u8 _ _ _) (fun w_92 h_93 => ?_)
  refine WL.nil (thn_n (WP.seq ?_))
  refine WP.drawZ 8 (SL w.heap.size [.blk b_88 .nw 5 [(1, (([0] : List UInt8).set 0 1).map vu8)], .row a_78 8 cap_79 5 1 ((leN 8 (rg.getD 7 0).toNat).map vu8), .row a_68 8 cap_69 5 1 ((leN 8 (rg.getD 6 0).toNat).map vu8), .row a_58 8 cap_59 5 1 ((leN 8 (rg.getD 5 0).toNat).map vu8), .row a_48 8 cap_49 5 1 ((leN 8 (rg.getD 4 0).toNat).map vu8), .row a_38 8 cap_39 5 1 ((leN 8 (rg.getD 3 0).toNat).map vu8), .row a_28 8 cap_29 5 1 ((leN 8 (rg.getD 2 0).toNat).map vu8), .row a_18 8 cap_19 5 1 ((leN 8 (rg.getD 1 0).toNat).map vu8), .row a_84 64 c_85 5 1 (((((((((([] : List UInt8) ++ (leN 8 (rg.getD 0 0).toNat)) ++ (leN 8 (rg.getD 1 0).toNat)) ++ (leN 8 (rg.getD 2 0).toNat)) ++ (leN 8 (rg.getD 3 0).toNat)) ++ (leN 8 (rg.getD 4 0).toNat)) ++ (leN 8 (rg.getD 5 0).toNat)) ++ (leN 8 (rg.getD 6 0).toNat)) ++ (leN 8 (rg.getD 7 0).toNat)).map vu8), .row a_7 8 cap_8 5 1 ((leN 8 (rg.getD 0 0).toNat).map vu8), .blk b_4 .nw 29 [(128, (List.replicate 128 (0 : UInt8)).map vu8)], .blk b_1 .nw 57 [(1, [(vu64 pc)]), (8, rg.map vu64), (1, [(.bool run)])]]) (.q 1 (.q 2 (.q 4 (.q 5 (.s 0 (.s 3 (.s 6 (.s 7 (.s 8 .nil))))))))) (by kernel_rfl) (by kernel_rfl) rfl (by kernel_rfl) (fun w_94 hc_96 => (SL.cons ((h_93.same hc_96).ok _ M0) (SL.cons ((h_93.same hc_96).ok _ M1) (SL.cons ((h_93.same hc_96).ok _ M2) (SL.cons ((h_93.same hc_96).ok _ M3) (SL.cons ((h_93.same hc_96).ok _ M4) (SL.cons ((h_93.same hc_96).ok _ M5) (SL.cons ((h_93.same hc_96).ok _ M6) (SL.cons ((h_93.same hc_96).ok _ M7) (SL.cons ((h_93.same hc_96).ok _ M8) (SL.cons ((h_93.same hc_96).ok _ M9) (SL.cons ((h_93.same hc_96).ok _ M10) (SL.cons ((h_93.same hc_96).ok _ M11) (SL.nil _ _)))))))))))))) (fun w_94 hc_96 => ?_)
  have h_95 := h_93.same hc_96
  refine ZT.q rfl (Wn.no rfl) rfl rfl (fun wq hS => R.fieldAddr (off' := 0) rfl Tryz.underlying57 rfl Tryz.sizeOf27 rfl rfl) ?_
  refine ZT.q rfl (Wn.no rfl) rfl rfl (fun wq hS => R.load1 rfl Tryz.isAgg27 (hS _ M11) Sg.h) ?_
  refine ZT.q rfl (Wn.no rfl) rfl rfl (fun wq hS => R.move (v := (.slice a_84 64 c_85)) rfl) ?_
  refine ZT.q rfl (Wn.no rfl) rfl rfl (fun wq hS => R.move (v := (.slice (some ⟨b_88, 0, none⟩) 1 1)) rfl) ?_
  refine ZT.s ?_
  refine OpZ.one rfl (Wn.no rfl) ?_
  refine WL.call Tryz.call109 rfl rfl (c_mark 3 ([114, 101, 99] : List UInt8) rfl (by decide) _) rfl ?_
  rintro _ w_99 ⟨a_97, cap_98, rfl, hc_100, ho_101⟩
  have h_102 := h_95.gotRow hc_100 ho_101
  refine WL.nil ?_
  refine ⟨(N1_2_3_4_5_6_7_8_9_10_11_12 h_102.ok), ?_⟩
  refine ZT.s ?_
  refine OpZ.one rfl (Wn.no rfl) ?_
  refine WL.call Tryz.call107 rfl rfl (c_rword10 pc _) rfl ?_
  rintro _ w_105 ⟨a_103, cap_104, rfl, hc_106, ho_107⟩
  have h_108 := h_102.gotRow hc_106 ho_107
  refine WL.nil ?_
  refine ⟨(N2_3_4_5_6_7_8_9_10_11_12_13 h_108.ok), ?_⟩
  refine ZT.s ?_
  refine OpZ.one rfl (Wn.no rfl) ?_
  refine WL.buildSl (vs := [(0, (.slice a_97 8 cap_98)), (1, (.slice a_103 8 cap_104)), (2, (.slice a_84 64 c_85)), (3, (.slice (some ⟨b_88, 0, none⟩) 1 1))]) (cs := [(.slice a_97 8 cap_98), (.slice a_103 8 cap_104), (.slice a_84 64 c_85), (.slice (some ⟨b_88, 0, none⟩) 1 1)]) h_108 Tryz.underlying128 Tryz.sizeOf88 (zv Tryz.typeInfo88 rfl) rfl rfl (by kernel_rfl) rfl (by simp [Value.oneCell']) rfl rfl (fun b_109 w_110 h_111 => ?_)
  refine WL.nil ?_
  refine ⟨(N3_4_5_6_7_8_9_10_11_12_13_14 h_111.ok), ?_⟩
  refine ZT.s ?_
  refine OpZ.one rfl (Wn.no rfl) ?_
  refine WL.call Tryz.call108 rfl rfl (c_granR (some ⟨b_109, 0, none⟩) 4 4 [(.slice a_97 8 cap_98), (.slice a_103 8 cap_104), (.slice a_84 64 c_85), (.slice (some ⟨b_88, 0, none⟩) 1 1)] [([114, 101, 99] : List UInt8) ++ List.replicate (8 - 3) (0 : UInt8), leN 8 pc.toNat, (((((((([] : List UInt8) ++ (leN 8 (rg.getD 0 0).toNat)) ++ (leN 8 (rg.getD 1 0).toNat)) ++ (leN 8 (rg.getD 2 0).toNat)) ++ (leN 8 (rg.getD 3 0).toNat)) ++ (leN 8 (rg.getD 4 0).toNat)) ++ (leN 8 (rg.getD 5 0).toNat)) ++ (leN 8 (rg.getD 6 0).toNat)) ++ (leN 8 (rg.getD 7 0).toNat), ([0] : List UInt8).set 0 1] rfl (by simp [leN_len]) (by omega) _ (viewB (h_111.ok _ M0) Sg.h) (Sls.cons (rfl : List.length (([114, 101, 99] : List UInt8) ++ List.replicate (8 - 3) (0 : UInt8)) = 8) (h_111.own M2).2.2.1 (ownView (h_111.ok _ M2)) (Sls.cons (leN_len ..) (h_111.own M1).2.2.1 (ownView (h_111.ok _ M1)) (Sls.cons (lenApp (a := 56) (b := 8) (lenApp (a := 48) (b := 8) (lenApp (a := 40) (b := 8) (lenApp (a := 32) (b := 8) (lenApp (a := 24) (b := 8) (lenApp (a := 16) (b := 8) (lenApp (a := 8) (b := 8) (lenApp (a := 0) (b := 8) (rfl : List.length ([] : List UInt8) = 0) (leN_len ..) (by omega) : List.length (([] : List UInt8) ++ (leN 8 (rg.getD 0 0).toNat)) = 8) (leN_len ..) (by omega) : List.length ((([] : List UInt8) ++ (leN 8 (rg.getD 0 0).toNat)) ++ (leN 8 (rg.getD 1 0).toNat)) = 16) (leN_len ..) (by omega) : List.length (((([] : List UInt8) ++ (leN 8 (rg.getD 0 0).toNat)) ++ (leN 8 (rg.getD 1 0).toNat)) ++ (leN 8 (rg.getD 2 0).toNat)) = 24) (leN_len ..) (by omega) : List.length ((((([] : List UInt8) ++ (leN 8 (rg.getD 0 0).toNat)) ++ (leN 8 (rg.getD 1 0).toNat)) ++ (leN 8 (rg.getD 2 0).toNat)) ++ (leN 8 (rg.getD 3 0).toNat)) = 32) (leN_len ..) (by omega) : List.length (((((([] : List UInt8) ++ (leN 8 (rg.getD 0 0).toNat)) ++ (leN 8 (rg.getD 1 0).toNat)) ++ (leN 8 (rg.getD 2 0).toNat)) ++ (leN 8 (rg.getD 3 0).toNat)) ++ (leN 8 (rg.getD 4 0).toNat)) = 40) (leN_len ..) (by omega) : List.length ((((((([] : List UInt8) ++ (leN 8 (rg.getD 0 0).toNat)) ++ (leN 8 (rg.getD 1 0).toNat)) ++ (leN 8 (rg.getD 2 0).toNat)) ++ (leN 8 (rg.getD 3 0).toNat)) ++ (leN 8 (rg.getD 4 0).toNat)) ++ (leN 8 (rg.getD 5 0).toNat)) = 48) (leN_len ..) (by omega) : List.length (((((((([] : List UInt8) ++ (leN 8 (rg.getD 0 0).toNat)) ++ (leN 8 (rg.getD 1 0).toNat)) ++ (leN 8 (rg.getD 2 0).toNat)) ++ (leN 8 (rg.getD 3 0).toNat)) ++ (leN 8 (rg.getD 4 0).toNat)) ++ (leN 8 (rg.getD 5 0).toNat)) ++ (leN 8 (rg.getD 6 0).toNat)) = 56) (leN_len ..) (by omega) : List.length ((((((((([] : List UInt8) ++ (leN 8 (rg.getD 0 0).toNat)) ++ (leN 8 (rg.getD 1 0).toNat)) ++ (leN 8 (rg.getD 2 0).toNat)) ++ (leN 8 (rg.getD 3 0).toNat)) ++ (leN 8 (rg.getD 4 0).toNat)) ++ (leN 8 (rg.getD 5 0).toNat)) ++ (leN 8 (rg.getD 6 0).toNat)) ++ (leN 8 (rg.getD 7 0).toNat)) = 64) (h_111.own M11).2.2.1 (ownView (h_111.ok _ M11)) (Sls.cons (len_set (rfl : List.length ([0] : List UInt8) = 1) _ _) (by decide) (viewB (h_111.ok _ M3) Sg.h) Sls.nil))))) rfl ?_
  rintro _ w_113 ⟨rfl, hc_112⟩
  have h_114 := h_111.same hc_112
  refine WL.nil ?_
  refine ⟨(N3_4_5_6_7_8_9_10_11_12_13_14 h_114.ok), ?_⟩
  refine ZT.s ?_
  refine OpZ.last rfl (Wn.no rfl) ?_
  refine WL.storeA (b := b_4) (off := 0) [] [(128, (List.replicate 128 (0 : UInt8)).map vu8)] [(128, (ovr (List.replicate 128 (0 : UInt8)) 0 ([([114, 101, 99] : List UInt8) ++ List.replicate (8 - 3) (0 : UInt8), leN 8 pc.toNat, (((((((([] : List UInt8) ++ (leN 8 (rg.getD 0 0).toNat)) ++ (leN 8 (rg.getD 1 0).toNat)) ++ (leN 8 (rg.getD 2 0).toNat)) ++ (leN 8 (rg.getD 3 0).toNat)) ++ (leN 8 (rg.getD 4 0).toNat)) ++ (leN 8 (rg.getD 5 0).toNat)) ++ (leN 8 (rg.getD 6 0).toNat)) ++ (leN 8 (rg.getD 7 0).toNat), ([0] : List UInt8).set 0 1]).flatten).map vu8)] [] (ys := (ovr (List.replicate 128 (0 : UInt8)) 0 ([([114, 101, 99] : List UInt8) ++ List.replicate (8 - 3) (0 : UInt8), leN 8 pc.toNat, (((((((([] : List UInt8) ++ (leN 8 (rg.getD 0 0).toNat)) ++ (leN 8 (rg.getD 1 0).toNat)) ++ (leN 8 (rg.getD 2 0).toNat)) ++ (leN 8 (rg.getD 3 0).toNat)) ++ (leN 8 (rg.getD 4 0).toNat)) ++ (leN 8 (rg.getD 5 0).toNat)) ++ (leN 8 (rg.getD 6 0).toNat)) ++ (leN 8 (rg.getD 7 0).toNat), ([0] : List UInt8).set 0 1]).flatten).map vu8) h_114 rfl rfl Tryz.sizeOf29 Y13 (by decide) rfl rfl rfl rfl rfl rfl (SsOk.cons (SOk.u8 (ovr_len lr (by have hz : ([([114, 101, 99] : List UInt8) ++ List.replicate (8 - 3) (0 : UInt8), leN 8 pc.toNat, (((((((([] : List UInt8) ++ (leN 8 (rg.getD 0 0).toNat)) ++ (leN 8 (rg.getD 1 0).toNat)) ++ (leN 8 (rg.getD 2 0).toNat)) ++ (leN 8 (rg.getD 3 0).toNat)) ++ (leN 8 (rg.getD 4 0).toNat)) ++ (leN 8 (rg.getD 5 0).toNat)) ++ (leN 8 (rg.getD 6 0).toNat)) ++ (leN 8 (rg.getD 7 0).toNat), ([0] : List UInt8).set 0 1]).flatten.length ≤ 128 := (by simp [leN_len]); omega))) SsOk.nil) (fun w_115 h_116 => ?_)
  refine WL.nil (ZT.nil (thn_n (WP.ret ?_)))
  refine ret_of Tryz.results76 (RV.cell rfl (h_116.loadA (cs := (ovr (List.replicate 128 (0 : UInt8)) 0 ([([114, 101, 99] : List UInt8) ++ List.replicate (8 - 3) (0 : UInt8), leN 8 pc.toNat, (((((((([] : List UInt8) ++ (leN 8 (rg.getD 0 0).toNat)) ++ (leN 8 (rg.getD 1 0).toNat)) ++ (leN 8 (rg.getD 2 0).toNat)) ++ (leN 8 (rg.getD 3 0).toNat)) ++ (leN 8 (rg.getD 4 0).toNat)) ++ (leN 8 (rg.getD 5 0).toNat)) ++ (leN 8 (rg.getD 6 0).toNat)) ++ (leN 8 (rg.getD 7 0).toNat), ([0] : List UInt8).set 0 1]).flatten).map vu8) Tryz.isAgg29 Tryz.sizeOf29 M13 rfl rfl) RV.nil) ?_
  exact ⟨by rw [recB, c_91]; rfl, h_116.chgS⟩
 ·refine WP.skip (thn_n (WP.seq ?_))
  refine WP.drawZ 8 (SL w.heap.size [.blk b_88 .nw 5 [(1, ([0] : List UInt8).map vu8)], .row a_78 8 cap_79 5 1 ((leN 8 (rg.getD 7 0).toNat).map vu8), .row a_68 8 cap_69 5 1 ((leN 8 (rg.getD 6 0).toNat).map vu8), .row a_58 8 cap_59 5 1 ((leN 8 (rg.getD 5 0).toNat).map vu8), .row a_48 8 cap_49 5 1 ((leN 8 (rg.getD 4 0).toNat).map vu8), .row a_38 8 cap_39 5 1 ((leN 8 (rg.getD 3 0).toNat).map vu8), .row a_28 8 cap_29 5 1 ((leN 8 (rg.getD 2 0).toNat).map vu8), .row a_18 8 cap_19 5 1 ((leN 8 (rg.getD 1 0).toNat).map vu8), .row a_84 64 c_85 5 1 (((((((((([] : List UInt8) ++ (leN 8 (rg.getD 0 0).toNat)) ++ (leN 8 (rg.getD 1 0).toNat)) ++ (leN 8 (rg.getD 2 0).toNat)) ++ (leN 8 (rg.getD 3 0).toNat)) ++ (leN 8 (rg.getD 4 0).toNat)) ++ (leN 8 (rg.getD 5 0).toNat)) ++ (leN 8 (rg.getD 6 0).toNat)) ++ (leN 8 (rg.getD 7 0).toNat)).map vu8), .row a_7 8 cap_8 5 1 ((leN 8 (rg.getD 0 0).toNat).map vu8), .blk b_4 .nw 29 [(128, (List.replicate 128 (0 : UInt8)).map vu8)], .blk b_1 .nw 57 [(1, [(vu64 pc)]), (8, rg.map vu64), (1, [(.bool run)])]]) (.q 1 (.q 2 (.q 4 (.q 5 (.s 0 (.s 3 (.s 6 (.s 7 (.s 8 .nil))))))))) (by kernel_rfl) (by kernel_rfl) rfl (by kernel_rfl) (fun w_117 hc_119 => (SL.cons ((h_90.same hc_119).ok _ M0) (SL.cons ((h_90.same hc_119).ok _ M1) (SL.cons ((h_90.same hc_119).ok _ M2) (SL.cons ((h_90.same hc_119).ok _ M3) (SL.cons ((h_90.same hc_119).ok _ M4) (SL.cons ((h_90.same hc_119).ok _ M5) (SL.cons ((h_90.same hc_119).ok _ M6) (SL.cons ((h_90.same hc_119).ok _ M7) (SL.cons ((h_90.same hc_119).ok _ M8) (SL.cons ((h_90.same hc_119).ok _ M9) (SL.cons ((h_90.same hc_119).ok _ M10) (SL.cons ((h_90.same hc_119).ok _ M11) (SL.nil _ _)))))))))))))) (fun w_117 hc_119 => ?_)
  have h_118 := h_90.same hc_119
  refine ZT.q rfl (Wn.no rfl) rfl rfl (fun wq hS => R.fieldAddr (off' := 0) rfl Tryz.underlying57 rfl Tryz.sizeOf27 rfl rfl) ?_
  refine ZT.q rfl (Wn.no rfl) rfl rfl (fun wq hS => R.load1 rfl Tryz.isAgg27 (hS _ M11) Sg.h) ?_
  refine ZT.q rfl (Wn.no rfl) rfl rfl (fun wq hS => R.move (v := (.slice a_84 64 c_85)) rfl) ?_
  refine ZT.q rfl (Wn.no rfl) rfl rfl (fun wq hS => R.move (v := (.slice (some ⟨b_88, 0, none⟩) 1 1)) rfl) ?_
  refine ZT.s ?_
  refine OpZ.one rfl (Wn.no rfl) ?_
  refine WL.call Tryz.call109 rfl rfl (c_mark 3 ([114, 101, 99] : List UInt8) rfl (by decide) _) rfl ?_
  rintro _ w_122 ⟨a_120, cap_121, rfl, hc_123, ho_124⟩
  have h_125 := h_118.gotRow hc_123 ho_124
  refine WL.nil ?_
  refine ⟨(N1_2_3_4_5_6_7_8_9_10_11_12 h_125.ok), ?_⟩
  refine ZT.s ?_
  refine OpZ.one rfl (Wn.no rfl) ?_
  refine WL.call Tryz.call107 rfl rfl (c_rword10 pc _) rfl ?_
  rintro _ w_128 ⟨a_126, cap_127, rfl, hc_129, ho_130⟩
  have h_131 := h_125.gotRow hc_129 ho_130
  refine WL.nil ?_
  refine ⟨(N2_3_4_5_6_7_8_9_10_11_12_13 h_131.ok), ?_⟩
  refine ZT.s ?_
  refine OpZ.one rfl (Wn.no rfl) ?_
  refine WL.buildSl (vs := [(0, (.slice a_120 8 cap_121)), (1, (.slice a_126 8 cap_127)), (2, (.slice a_84 64 c_85)), (3, (.slice (some ⟨b_88, 0, none⟩) 1 1))]) (cs := [(.slice a_120 8 cap_121), (.slice a_126 8 cap_127), (.slice a_84 64 c_85), (.slice (some ⟨b_88, 0, none⟩) 1 1)]) h_131 Tryz.underlying128 Tryz.sizeOf88 (zv Tryz.typeInfo88 rfl) rfl rfl (by kernel_rfl) rfl (by simp [Value.oneCell']) rfl rfl (fun b_132 w_133 h_134 => ?_)
  refine WL.nil ?_
  refine ⟨(N3_4_5_6_7_8_9_10_11_12_13_14 h_134.ok), ?_⟩
  refine ZT.s ?_
  refine OpZ.one rfl (Wn.no rfl) ?_
  refine WL.call Tryz.call108 rfl rfl (c_granR (some ⟨b_132, 0, none⟩) 4 4 [(.slice a_120 8 cap_121), (.slice a_126 8 cap_127), (.slice a_84 64 c_85), (.slice (some ⟨b_88, 0, none⟩) 1 1)] [([114, 101, 99] : List UInt8) ++ List.replicate (8 - 3) (0 : UInt8), leN 8 pc.toNat, (((((((([] : List UInt8) ++ (leN 8 (rg.getD 0 0).toNat)) ++ (leN 8 (rg.getD 1 0).toNat)) ++ (leN 8 (rg.getD 2 0).toNat)) ++ (leN 8 (rg.getD 3 0).toNat)) ++ (leN 8 (rg.getD 4 0).toNat)) ++ (leN 8 (rg.getD 5 0).toNat)) ++ (leN 8 (rg.getD 6 0).toNat)) ++ (leN 8 (rg.getD 7 0).toNat), ([0] : List UInt8)] rfl (by simp [leN_len]) (by omega) _ (viewB (h_134.ok _ M0) Sg.h) (Sls.cons (rfl : List.length (([114, 101, 99] : List UInt8) ++ List.replicate (8 - 3) (0 : UInt8)) = 8) (h_134.own M2).2.2.1 (ownView (h_134.ok _ M2)) (Sls.cons (leN_len ..) (h_134.own M1).2.2.1 (ownView (h_134.ok _ M1)) (Sls.cons (lenApp (a := 56) (b := 8) (lenApp (a := 48) (b := 8) (lenApp (a := 40) (b := 8) (lenApp (a := 32) (b := 8) (lenApp (a := 24) (b := 8) (lenApp (a := 16) (b := 8) (lenApp (a := 8) (b := 8) (lenApp (a := 0) (b := 8) (rfl : List.length ([] : List UInt8) = 0) (leN_len ..) (by omega) : List.length (([] : List UInt8) ++ (leN 8 (rg.getD 0 0).toNat)) = 8) (leN_len ..) (by omega) : List.length ((([] : List UInt8) ++ (leN 8 (rg.getD 0 0).toNat)) ++ (leN 8 (rg.getD 1 0).toNat)) = 16) (leN_len ..) (by omega) : List.length (((([] : List UInt8) ++ (leN 8 (rg.getD 0 0).toNat)) ++ (leN 8 (rg.getD 1 0).toNat)) ++ (leN 8 (rg.getD 2 0).toNat)) = 24) (leN_len ..) (by omega) : List.length ((((([] : List UInt8) ++ (leN 8 (rg.getD 0 0).toNat)) ++ (leN 8 (rg.getD 1 0).toNat)) ++ (leN 8 (rg.getD 2 0).toNat)) ++ (leN 8 (rg.getD 3 0).toNat)) = 32) (leN_len ..) (by omega) : List.length (((((([] : List UInt8) ++ (leN 8 (rg.getD 0 0).toNat)) ++ (leN 8 (rg.getD 1 0).toNat)) ++ (leN 8 (rg.getD 2 0).toNat)) ++ (leN 8 (rg.getD 3 0).toNat)) ++ (leN 8 (rg.getD 4 0).toNat)) = 40) (leN_len ..) (by omega) : List.length ((((((([] : List UInt8) ++ (leN 8 (rg.getD 0 0).toNat)) ++ (leN 8 (rg.getD 1 0).toNat)) ++ (leN 8 (rg.getD 2 0).toNat)) ++ (leN 8 (rg.getD 3 0).toNat)) ++ (leN 8 (rg.getD 4 0).toNat)) ++ (leN 8 (rg.getD 5 0).toNat)) = 48) (leN_len ..) (by omega) : List.length (((((((([] : List UInt8) ++ (leN 8 (rg.getD 0 0).toNat)) ++ (leN 8 (rg.getD 1 0).toNat)) ++ (leN 8 (rg.getD 2 0).toNat)) ++ (leN 8 (rg.getD 3 0).toNat)) ++ (leN 8 (rg.getD 4 0).toNat)) ++ (leN 8 (rg.getD 5 0).toNat)) ++ (leN 8 (rg.getD 6 0).toNat)) = 56) (leN_len ..) (by omega) : List.length ((((((((([] : List UInt8) ++ (leN 8 (rg.getD 0 0).toNat)) ++ (leN 8 (rg.getD 1 0).toNat)) ++ (leN 8 (rg.getD 2 0).toNat)) ++ (leN 8 (rg.getD 3 0).toNat)) ++ (leN 8 (rg.getD 4 0).toNat)) ++ (leN 8 (rg.getD 5 0).toNat)) ++ (leN 8 (rg.getD 6 0).toNat)) ++ (leN 8 (rg.getD 7 0).toNat)) = 64) (h_134.own M11).2.2.1 (ownView (h_134.ok _ M11)) (Sls.cons (rfl : List.length ([0] : List UInt8) = 1) (by decide) (viewB (h_134.ok _ M3) Sg.h) Sls.nil))))) rfl ?_
  rintro _ w_136 ⟨rfl, hc_135⟩
  have h_137 := h_134.same hc_135
  refine WL.nil ?_
  refine ⟨(N3_4_5_6_7_8_9_10_11_12_13_14 h_137.ok), ?_⟩
  refine ZT.s ?_
  refine OpZ.last rfl (Wn.no rfl) ?_
  refine WL.storeA (b := b_4) (off := 0) [] [(128, (List.replicate 128 (0 : UInt8)).map vu8)] [(128, (ovr (List.replicate 128 (0 : UInt8)) 0 ([([114, 101, 99] : List UInt8) ++ List.replicate (8 - 3) (0 : UInt8), leN 8 pc.toNat, (((((((([] : List UInt8) ++ (leN 8 (rg.getD 0 0).toNat)) ++ (leN 8 (rg.getD 1 0).toNat)) ++ (leN 8 (rg.getD 2 0).toNat)) ++ (leN 8 (rg.getD 3 0).toNat)) ++ (leN 8 (rg.getD 4 0).toNat)) ++ (leN 8 (rg.getD 5 0).toNat)) ++ (leN 8 (rg.getD 6 0).toNat)) ++ (leN 8 (rg.getD 7 0).toNat), ([0] : List UInt8)]).flatten).map vu8)] [] (ys := (ovr (List.replicate 128 (0 : UInt8)) 0 ([([114, 101, 99] : List UInt8) ++ List.replicate (8 - 3) (0 : UInt8), leN 8 pc.toNat, (((((((([] : List UInt8) ++ (leN 8 (rg.getD 0 0).toNat)) ++ (leN 8 (rg.getD 1 0).toNat)) ++ (leN 8 (rg.getD 2 0).toNat)) ++ (leN 8 (rg.getD 3 0).toNat)) ++ (leN 8 (rg.getD 4 0).toNat)) ++ (leN 8 (rg.getD 5 0).toNat)) ++ (leN 8 (rg.getD 6 0).toNat)) ++ (leN 8 (rg.getD 7 0).toNat), ([0] : List UInt8)]).flatten).map vu8) h_137 rfl rfl Tryz.sizeOf29 Y13 (by decide) rfl rfl rfl rfl rfl rfl (SsOk.cons (SOk.u8 (ovr_len lr (by have hz : ([([114, 101, 99] : List UInt8) ++ List.replicate (8 - 3) (0 : UInt8), leN 8 pc.toNat, (((((((([] : List UInt8) ++ (leN 8 (rg.getD 0 0).toNat)) ++ (leN 8 (rg.getD 1 0).toNat)) ++ (leN 8 (rg.getD 2 0).toNat)) ++ (leN 8 (rg.getD 3 0).toNat)) ++ (leN 8 (rg.getD 4 0).toNat)) ++ (leN 8 (rg.getD 5 0).toNat)) ++ (leN 8 (rg.getD 6 0).toNat)) ++ (leN 8 (rg.getD 7 0).toNat), ([0] : List UInt8)]).flatten.length ≤ 128 := (by simp [leN_len]); omega))) SsOk.nil) (fun w_138 h_139 => ?_)
  refine WL.nil (ZT.nil (thn_n (WP.ret ?_)))
  refine ret_of Tryz.results76 (RV.cell rfl (h_139.loadA (cs := (ovr (List.replicate 128 (0 : UInt8)) 0 ([([114, 101, 99] : List UInt8) ++ List.replicate (8 - 3) (0 : UInt8), leN 8 pc.toNat, (((((((([] : List UInt8) ++ (leN 8 (rg.getD 0 0).toNat)) ++ (leN 8 (rg.getD 1 0).toNat)) ++ (leN 8 (rg.getD 2 0).toNat)) ++ (leN 8 (rg.getD 3 0).toNat)) ++ (leN 8 (rg.getD 4 0).toNat)) ++ (leN 8 (rg.getD 5 0).toNat)) ++ (leN 8 (rg.getD 6 0).toNat)) ++ (leN 8 (rg.getD 7 0).toNat), ([0] : List UInt8)]).flatten).map vu8) Tryz.isAgg29 Tryz.sizeOf29 M13 rfl rfl) RV.nil) ?_
  exact ⟨by rw [recB, c_91]; rfl, h_139.chgS⟩

theorem c_RecBytes_t (pc : UInt64) (rg : List UInt64) (hrg : rg.length = 8) (run : Bool) (h : decide (pc % 8 = 0) = true) (w : World) :
  Cs Tryz.prog 75 [(.agg ⟨flat [(1, [(vu64 pc)]), (8, rg.map vu64), (1, [(.bool run)])]⟩)].toArray w (fun v w1 => v = (.tuple [(.agg ⟨(recB pc rg run).map vu8⟩), (vi 0)].toArray) ∧ Chg w w1 []) := by
 refine Cs.of (n := 10) (args := [(.agg ⟨flat [(1, [(vu64 pc)]), (8, rg.map vu64), (1, [(.bool run)])]⟩)]) Tryz.func75 rfl rfl rfl ?_
 have h_0 := HP.init w
 refine WP.seq (WP.reg ?_)
 refine WL.box (v := (.agg ⟨flat [(1, [(vu64 pc)]), (8, rg.map vu64), (1, [(.bool run)])]⟩)) (segs := [(1, [(vu64 pc)]), (8, rg.map vu64), (1, [(.bool run)])]) h_0 rfl rfl (SsOk.cons (SOk.v rfl) (SsOk.cons (SOk.u64 hrg) (SsOk.cons (SOk.v rfl) SsOk.nil))) rfl (fun b_1 w_2 h_3 => ?_)
 refine WL.alloc (segs := [(128, (List.replicate 128 (0 : UInt8)).map vu8)]) h_3 (zv Tryz.typeInfo29 rfl) rfl (SsOk.cons (SOk.u8 lr) SsOk.nil) rfl (fun b_4 w_5 h_6 => ?_)
 refine qA (vi 0) rfl rfl ?_
 refine WL.nil (thn_n (WP.seq (WP.seq (WP.reg ?_))))
 refine qV rfl (R.loadA [] [(1, [(vu64 pc)]), (8, rg.map vu64), (1, [(.bool run)])] [] (cs := flat [(1, [(vu64 pc)]), (8, rg.map vu64), (1, [(.bool run)])]) rfl Tryz.isAgg57 Tryz.sizeOf57 (h_6.ok _ M1) rfl rfl rfl rfl) ?_
 refine WL.call Tryz.call79 rfl rfl (c_MayRec pc rg hrg run _ ) rfl ?_
 rintro _ w_8 ⟨rfl, hc_7⟩
 have h_9 := h_6.same hc_7
 refine qV rfl (R.not (b := true) (congrArg Value.bool h)) ?_
 refine WL.nil (thn_n ?_)
 refine WP.condF rfl ?_
 refine WP.skip (thn_n (WP.seq (WP.reg ?_)))
 refine qV rfl (R.loadA [] [(1, [(vu64 pc)]), (8, rg.map vu64), (1, [(.bool run)])] [] (cs := flat [(1, [(vu64 pc)]), (8, rg.map vu64), (1, [(.bool run)])]) rfl Tryz.isAgg57 Tryz.sizeOf57 (h_9.ok _ M1) rfl rfl rfl rfl) ?_
 refine WL.call Tryz.call106 rfl rfl (c_rec pc rg hrg run _ ) rfl ?_
 rintro _ w_11 ⟨rfl, hc_10⟩
 have h_12 := h_9.same hc_10
 refine WL.storeA (b := b_4) (off := 0) [] [(128, (List.replicate 128 (0 : UInt8)).map vu8)] [(128, (recB pc rg run).map vu8)] [] (ys := (recB pc rg run).map vu8) h_12 rfl rfl Tryz.sizeOf29 At.h (by decide) rfl rfl rfl rfl rfl rfl (SsOk.cons (SOk.u8 (recB_len ..)) SsOk.nil) (fun w_13 h_14 => ?_)
 refine qA (vi 0) rfl rfl ?_
 refine WL.nil (thn_n (WP.ret ?_))
 refine ret_of Tryz.results75 (RV.cell rfl (h_14.loadA (cs := (recB pc rg run).map vu8) Tryz.isAgg29 Tryz.sizeOf29 M0 rfl rfl) (RV.tmp (v := (vi 0)) rfl RV.nil)) ?_
 exact ⟨rfl, h_14.chgS⟩

theorem c_RecBytes_f (pc : UInt64) (rg : List UInt64) (hrg : rg.length = 8) (run : Bool) (h : decide (pc % 8 = 0) = false) (w : World) :
  Cs Tryz.prog 75 [(.agg ⟨flat [(1, [(vu64 pc)]), (8, rg.map vu64), (1, [(.bool run)])]⟩)].toArray w (fun v w1 => v = (.tuple [(.agg ⟨(List.replicate 128 (0 : UInt8)).map vu8⟩), (vi 2)].toArray) ∧ Chg w w1 []) := by
 refine Cs.of (n := 10) (args := [(.agg ⟨flat [(1, [(vu64 pc)]), (8, rg.map vu64), (1, [(.bool run)])]⟩)]) Tryz.func75 rfl rfl rfl ?_
 have h_0 := HP.init w
 refine WP.seq (WP.reg ?_)
 refine WL.box (v := (.agg ⟨flat [(1, [(vu64 pc)]), (8, rg.map vu64), (1, [(.bool run)])]⟩)) (segs := [(1, [(vu64 pc)]), (8, rg.map vu64), (1, [(.bool run)])]) h_0 rfl rfl (SsOk.cons (SOk.v rfl) (SsOk.cons (SOk.u64 hrg) (SsOk.cons (SOk.v rfl) SsOk.nil))) rfl (fun b_1 w_2 h_3 => ?_)
 refine WL.alloc (segs := [(128, (List.replicate 128 (0 : UInt8)).map vu8)]) h_3 (zv Tryz.typeInfo29 rfl) rfl (SsOk.cons (SOk.u8 lr) SsOk.nil) rfl (fun b_4 w_5 h_6 => ?_)
 refine qA (vi 0) rfl rfl ?_
 refine WL.nil (thn_n (WP.seq (WP.seq (WP.reg ?_))))
 refine qV rfl (R.loadA [] [(1, [(vu64 pc)]), (8, rg.map vu64), (1, [(.bool run)])] [] (cs := flat [(1, [(vu64 pc)]), (8, rg.map vu64), (1, [(.bool run)])]) rfl Tryz.isAgg57 Tryz.sizeOf57 (h_6.ok _ M1) rfl rfl rfl rfl) ?_
 refine WL.call Tryz.call79 rfl rfl (c_MayRec pc rg hrg run _ ) rfl ?_
 rintro _ w_8 ⟨rfl, hc_7⟩
 have h_9 := h_6.same hc_7
 refine qV rfl (R.not (b := false) (congrArg Value.bool h)) ?_
 refine WL.nil (thn_n ?_)
 refine WP.condT rfl ?_
 refine WP.seq (WP.reg ?_)
 refine qV rfl (R.buildA (vs := []) (cs := (List.replicate 128 (0 : UInt8)).map vu8) Tryz.underlying29 Tryz.sizeOf5 (zv Tryz.typeInfo29 rfl) rfl rfl) ?_
 refine WL.storeA (b := b_4) (off := 0) [] [(128, (List.replicate 128 (0 : UInt8)).map vu8)] [(128, (List.replicate 128 (0 : UInt8)).map vu8)] [] (ys := (List.replicate 128 (0 : UInt8)).map vu8) h_9 rfl rfl Tryz.sizeOf29 At.h (by decide) rfl rfl rfl rfl rfl rfl (SsOk.cons (SOk.u8 lr) SsOk.nil) (fun w_10 h_11 => ?_)
 refine qA (vi 2) rfl rfl ?_
 refine WL.nil (thn_n (WP.ret (thn_r ?_)))
 refine ret_of Tryz.results75 (RV.cell rfl (h_11.loadA (cs := (List.replicate 128 (0 : UInt8)).map vu8) Tryz.isAgg29 Tryz.sizeOf29 M0 rfl rfl) (RV.tmp (v := (vi 2)) rfl RV.nil)) ?_
 exact ⟨rfl, h_11.chgS⟩

theorem c_MayRecR (pc : UInt64) (rg : List UInt64) (hrg : rg.length = 8) (b : Bool) (w : World) :
  Cs Tryz.prog 32 [(.agg ⟨flat [(1, [(vu64 pc)]), (8, rg.map vu64), (1, [(.bool b)])]⟩)].toArray w (fun v w1 => v = (.bool (decide (pc % 8 = 0))) ∧ Chg w w1 []) := by
 refine Cs.of (n := 7) (args := [(.agg ⟨flat [(1, [(vu64 pc)]), (8, rg.map vu64), (1, [(.bool b)])]⟩)]) Tryz.func32 rfl rfl rfl ?_
 have h_0 := HP.init w
 refine WP.seq (WP.reg ?_)
 refine WL.box (v := (.agg ⟨flat [(1, [(vu64 pc)]), (8, rg.map vu64), (1, [(.bool b)])]⟩)) (segs := [(1, [(vu64 pc)]), (8, rg.map vu64), (1, [(.bool b)])]) h_0 rfl rfl (SsOk.cons (SOk.v rfl) (SsOk.cons (SOk.u64 hrg) (SsOk.cons (SOk.v rfl) SsOk.nil))) rfl (fun b_1 w_2 h_3 => ?_)
 refine qA (.bool false) rfl rfl ?_
 refine WL.nil (thn_n (WP.seq (WP.reg ?_)))
 refine qV rfl (R.fieldAddr (off' := 0) rfl Tryz.underlying57 rfl Tryz.sizeOf27 rfl rfl) (qV rfl (R.load1 rfl Tryz.isAgg27 (h_3.ok _ M0) Sg.h) (qV rfl (R.bin (v := (vu64 (pc % 8))) rfl rfl (b64_rem pc 8 (by decide))) (qV rfl (R.bin (v := (.bool (decide ((pc % 8 : UInt64) = 0)))) rfl rfl (b64_eql (pc % 8) 0 (r := decide ((pc % 8 : UInt64) = 0)) rfl)) (qA (.bool (decide ((pc % 8 : UInt64) = 0))) rfl rfl ?_))))
 refine WL.nil (thn_n (WP.ret ?_))
 refine ret_of Tryz.results32 (RV.tmp (v := (.bool (decide ((pc % 8 : UInt64) = 0)))) rfl RV.nil) ?_
 exact ⟨rfl, h_3.chgS⟩
end Go.Proofs.YteclkcpdclimnaaGreat

namespace Go.Proofs.YteclkcpdclimnaaGreat
open Go.Vc Go.Sh Go.RowKit
set_option maxRecDepth 20000
theorem el172 : ElT Tryz.prog 172 169 1 4 := ElT.mk' Tryz.underlying172 (i := Tryz.t169) rfl rfl rfl rfl rfl rfl
theorem c_prime (i : Nat) (hi : i < 64) (w : World) :
  Cs Tryz.prog 144 [(vi ((i : Nat) : Int))].toArray w (fun v w1 => v = (vu64 (primeL.getD i 0)) ∧ Chg w w1 []) := by
 refine Cs.of (n := 28) (args := [(vn i)]) Tryz.func144 rfl rfl rfl ?_
 have h_0 := HP.init w
 refine WP.seq (WP.reg ?_)
 refine qA (vu64 0) rfl rfl ?_
 refine WL.nil (thn_n (WP.seq (WP.reg ?_)))
 refine qA (vu64 1) rfl rfl ?_
 refine WL.nil (thn_n (WP.seq (WP.block ?_)))
 refine WP.loopG (G := Nat) [0, 3, 4, 5, 6, 7, 8, 9, 10, 11, 12, 13, 14, 15, 16, 17, 18, 19, 20, 21, 22, 23, 24, 25, 26] (fun q => [(0, (vi ((i : Int) - (cnt q : Int)))), (3, (vu64 (UInt64.ofNat q)))]) (fun q m w1 => HP w w1 [] ∧ (1 ≤ q) ∧ (q ≤ 311) ∧ (cnt q ≤ i + 1) ∧ (cnt q ≤ i ∨ (cnt q = i + 1 ∧ primeL.getD i 0 = UInt64.ofNat q)) ∧ m = 312 - q) ⟨1, _, ⟨by rw [cnt_1]; exact congrArg vi (by omega), rfl, trivial⟩, h_0, (Nat.le_refl 1), (by decide), (by rw [cnt_1]; omega), (.inl (by rw [cnt_1]; omega)), rfl⟩ ?_
 rintro q m_3 J_4 w_1 ⟨h_2, hq1, hq2, hcb, hin, rfl⟩
 have hq3 : (0 : Int) ≤ (i : Int) - (cnt q : Int) → q < 311 := fun h => cnt_lt hi (by omega)
 refine WP.seq (WP.seq (WP.reg ?_))
 refine qM (vi ((i : Int) - (cnt q : Int))) rfl rfl (qV rfl (R.bin rfl rfl (bi_geq (r := decide (((i : Int) - (cnt q : Int) : Int) ≥ 0)) rfl)) ?_)
 refine WL.nil (thn_n ?_)
 refine WP.cond (b := decide (((i : Int) - (cnt q : Int) : Int) ≥ 0)) rfl (fun c_5 => ?_) (fun c_5 => ?_)
 ·have p_6 := of_decide_eq_true c_5
  refine WP.skip (thn_n (WP.block (WP.seq (WP.reg ?_))))
  refine qM (vu64 (UInt64.ofNat q)) rfl rfl (qV rfl (R.bin (v := (vu64 (UInt64.ofNat (q + 1)))) rfl rfl ((b64_add (UInt64.ofNat q) 1).trans (congrArg (fun x : UInt64 => some (vu64 x)) (u64_succ q)))) (qA (vu64 (UInt64.ofNat (q + 1))) rfl rfl ?_))
  refine WL.nil (thn_n (WP.seq (WP.reg ?_)))
  refine qA (.bool true) rfl rfl ?_
  refine WL.nil (thn_n (WP.seq (WP.seq (WP.reg ?_))))
  refine qA (vu64 2) rfl rfl ?_
  refine WL.nil (thn_n (WP.block ?_))
  have hq4 := hq3 (by omega)
  refine WP.loopG (G := Nat) [4, 5, 10, 11, 12, 13, 14, 15, 16, 17, 18, 19, 20, 21, 22, 23] (fun k => [(4, (.bool (isK (q + 1) k))), (5, (vu64 (UInt64.ofNat k)))]) (fun k m w1 => HP w w1 [] ∧ (2 ≤ k) ∧ (k ≤ 18) ∧ (k = 2 ∨ (k - 1) * (k - 1) ≤ q + 1) ∧ m = 20 - k) ⟨2, _, ⟨congrArg Value.bool (isK_2 _).symm, rfl, trivial⟩, h_2, (Nat.le_refl 2), (by decide), (.inl rfl), rfl⟩ ?_
  rintro k m_9 J_10 w_7 ⟨h_8, hk2, hk, hk3, rfl⟩
  refine WP.seq (WP.seq (WP.reg ?_))
  refine qM (vu64 (UInt64.ofNat k)) rfl rfl (qM (vu64 (UInt64.ofNat k)) rfl rfl (qV rfl (R.bin rfl rfl (b64_mul (UInt64.ofNat k) (UInt64.ofNat k))) (qM (vu64 (UInt64.ofNat (q + 1))) rfl rfl (qV rfl (R.bin (v := (.bool (decide (((UInt64.ofNat k) * (UInt64.ofNat k) : UInt64) ≤ (UInt64.ofNat (q + 1)))))) rfl rfl (b64_leq ((UInt64.ofNat k) * (UInt64.ofNat k)) (UInt64.ofNat (q + 1)) (r := decide (((UInt64.ofNat k) * (UInt64.ofNat k) : UInt64) ≤ (UInt64.ofNat (q + 1)))) rfl)) ?_))))
  refine WL.nil (thn_n ?_)
  refine WP.cond (b := decide (((UInt64.ofNat k) * (UInt64.ofNat k) : UInt64) ≤ (UInt64.ofNat (q + 1)))) rfl (fun c_11 => ?_) (fun c_11 => ?_)
  ·have p_12 := of_decide_eq_true c_11
   refine WP.skip (thn_n (WP.seq (WP.block (WP.reg ?_))))
   refine qM (.bool (isK (q + 1) k)) rfl rfl (qM (.bool (isK (q + 1) k)) rfl rfl ?_)
   rcases Bool.eq_false_or_eq_true (isK (q + 1) k) with c_13 | c_13
   ·refine WL.want rfl (congrArg Value.bool c_13) ?_
    refine qM (vu64 (UInt64.ofNat (q + 1))) rfl rfl ?_
    refine WL.want rfl (congrArg Value.bool c_13) ?_
    refine qM (vu64 (UInt64.ofNat k)) rfl rfl ?_
    refine WL.want rfl (congrArg Value.bool c_13) ?_
    refine qV rfl (R.bin (v := (vu64 ((UInt64.ofNat (q + 1)) % (UInt64.ofNat k)))) rfl rfl (b64_rem (UInt64.ofNat (q + 1)) (UInt64.ofNat k) (nz64 hk2 (by omega)))) ?_
    refine WL.want rfl (congrArg Value.bool c_13) ?_
    refine qV rfl (R.bin (v := (.bool (decide (((UInt64.ofNat (q + 1)) % (UInt64.ofNat k) : UInt64) ≠ 0)))) rfl rfl (b64_neq ((UInt64.ofNat (q + 1)) % (UInt64.ofNat k)) 0 (r := decide (((UInt64.ofNat (q + 1)) % (UInt64.ofNat k) : UInt64) ≠ 0)) rfl)) (qV rfl (R.pickT (v := (.bool (decide (((UInt64.ofNat (q + 1)) % (UInt64.ofNat k) : UInt64) ≠ 0)))) (congrArg Value.bool c_13) rfl) (qA (.bool (decide (((UInt64.ofNat (q + 1)) % (UInt64.ofNat k) : UInt64) ≠ 0))) rfl rfl ?_))
    refine WL.nil (inb_n (thn_n (WP.reg ?_)))
    refine qM (vu64 (UInt64.ofNat k)) rfl rfl (qV rfl (R.bin (v := (vu64 (UInt64.ofNat (k + 1)))) rfl rfl ((b64_add (UInt64.ofNat k) 1).trans (congrArg (fun x : UInt64 => some (vu64 x)) (u64_succ k)))) (qA (vu64 (UInt64.ofNat (k + 1))) rfl rfl ?_))
    refine WL.nil (thn_n ?_)
    have hk5 := (sq_le (by omega) (by omega)).1 p_12
    have hk6 := sq_bd hk5 (by omega)
    exact ⟨k + 1, _, (by omega), (U4 rfl rfl rfl rfl (U4 rfl rfl rfl rfl (U4 rfl rfl rfl rfl (U4 rfl rfl rfl rfl (Ag.updL rfl (Ag.mix _ _ _)))))), ⟨congrArg Value.bool (isK_t (by omega) (by omega) hk2 c_13), rfl, trivial⟩, h_8, (by omega), (by omega), (.inr (by rw [Nat.add_sub_cancel]; exact hk5)), rfl⟩
   ·refine WL.skip rfl (congrArg Value.bool c_13) rfl ?_
    refine WL.skip rfl (congrArg Value.bool c_13) rfl ?_
    refine WL.skip rfl (congrArg Value.bool c_13) rfl ?_
    refine WL.skip rfl (congrArg Value.bool c_13) rfl ?_
    refine qV rfl (R.pickF (v := (.bool false)) (congrArg Value.bool c_13) rfl) (qA (.bool false) rfl rfl ?_)
    refine WL.nil (inb_n (thn_n (WP.reg ?_)))
    refine qM (vu64 (UInt64.ofNat k)) rfl rfl (qV rfl (R.bin (v := (vu64 (UInt64.ofNat (k + 1)))) rfl rfl ((b64_add (UInt64.ofNat k) 1).trans (congrArg (fun x : UInt64 => some (vu64 x)) (u64_succ k)))) (qA (vu64 (UInt64.ofNat (k + 1))) rfl rfl ?_))
    refine WL.nil (thn_n ?_)
    have hk5 := (sq_le (by omega) (by omega)).1 p_12
    have hk6 := sq_bd hk5 (by omega)
    exact ⟨k + 1, _, (by omega), (U4 rfl rfl rfl rfl (U4 rfl rfl rfl rfl (U4 rfl rfl rfl rfl (U4 rfl rfl rfl rfl (Ag.updL rfl (Ag.mix _ _ _)))))), ⟨congrArg Value.bool (isK_f hk2 c_13), rfl, trivial⟩, h_8, (by omega), (by omega), (.inr (by rw [Nat.add_sub_cancel]; exact hk5)), rfl⟩
  ·have p_14 := of_decide_eq_false c_11
   refine WP.exit (thn_x (thn_x (inb_hit (thn_n (WP.seq (WP.reg ?_))))))
   refine qM (.bool (isK (q + 1) k)) rfl rfl ?_
   refine WL.nil (thn_n ?_)
   refine WP.cond (b := isK (q + 1) k) rfl (fun c_15 => ?_) (fun c_15 => ?_)
   ·refine WP.reg ?_
    refine qM (vi ((i : Int) - (cnt q : Int))) rfl rfl (qV rfl (R.bin rfl rfl (bi_sub (c := ((i : Int) - (cnt q : Int)) - 1) (by omega) (by omega))) (qA (vi (((i : Int) - (cnt q : Int)) - 1)) rfl rfl ?_))
    refine WL.nil (inb_n (thn_n ?_))
    have hq4 := hq3 (by omega)
    have hk5 := fun h => p_14 ((sq_le (by omega) (by omega)).2 h)
    have he := isK_end (n := q + 1) (by omega) (by omega) hk2 (by omega) hk3 hk5
    rw [he] at c_15
    have hc := cnt_yes hq1 hq4 c_15
    have hin2 : cnt (q + 1) ≤ i ∨ (cnt (q + 1) = i + 1 ∧ primeL.getD i 0 = UInt64.ofNat (q + 1)) := by
     by_cases hci : cnt q < i
     ·exact .inl (by omega)
     ·exact .inr ⟨by omega, by rw [← hc.2, show cnt q = i by omega]⟩
    exact ⟨q + 1, _, (by omega), (Ag.upd rfl (U4 rfl rfl rfl rfl (U4 rfl rfl rfl rfl (Ag.updL rfl (Ag.trans (Ag.sub rfl (Ag.mix _ _ _)) (Ag.upd rfl (Ag.upd rfl (Ag.upd rfl (Ag.upd rfl (Ag.upd rfl (Ag.upd rfl (Ag.upd rfl (Ag.updL rfl (Ag.mix _ _ _)))))))))))))), ⟨congrArg vi (by omega), rfl, trivial⟩, h_8, (by omega), (by omega), (by omega), hin2, rfl⟩
   ·refine WP.skip (inb_n (thn_n ?_))
    have hq4 := hq3 (by omega)
    have hk5 := fun h => p_14 ((sq_le (by omega) (by omega)).2 h)
    have he := isK_end (n := q + 1) (by omega) (by omega) hk2 (by omega) hk3 hk5
    rw [he] at c_15
    have hc := cnt_no hq1 hq4 c_15
    exact ⟨q + 1, _, (by omega), (U2 rfl rfl (U4 rfl rfl rfl rfl (Ag.updL rfl (Ag.trans (Ag.sub rfl (Ag.mix _ _ _)) (Ag.upd rfl (Ag.upd rfl (Ag.upd rfl (Ag.upd rfl (Ag.upd rfl (Ag.upd rfl (Ag.upd rfl (Ag.updL rfl (Ag.mix _ _ _))))))))))))), ⟨congrArg vi (by omega), rfl, trivial⟩, h_8, (by omega), (by omega), (by omega), (.inl (by omega)), rfl⟩
 ·have p_16 := of_decide_eq_false c_5
  refine WP.exit (thn_x (thn_x (inb_hit (thn_n (WP.seq (WP.reg ?_))))))
  refine qM (vu64 (UInt64.ofNat q)) rfl rfl (qA (vu64 (UInt64.ofNat q)) rfl rfl ?_)
  refine WL.nil (thn_n (WP.ret ?_))
  refine ret_of Tryz.results144 (RV.tmp (v := (vu64 (UInt64.ofNat q))) rfl RV.nil) ?_
  have hx : cnt q = i + 1 := by omega
  have hy : primeL.getD i 0 = UInt64.ofNat q := hin.elim (fun h => by omega) (fun h => h.2)
  exact ⟨by rw [hy]; rfl, h_2.chgS⟩

theorem c_power2 (x p : UInt64) (w : World) :
  Cs Tryz.prog 163 [(vu64 x), (vi 2), (vu64 p)].toArray w (fun v w1 => v = (.bool (pow2 x p)) ∧ Chg w w1 []) := by
 refine Cs.of (n := 79) (args := [(vu64 x), (vi 2), (vu64 p)]) Tryz.func163 rfl rfl rfl ?_
 have h_0 := HP.init w
 refine WP.seq (WP.reg ?_)
 refine qA (.bool false) rfl rfl ?_
 refine WL.nil (thn_n (WP.seq (WP.reg ?_)))
 refine qM (vu64 x) rfl rfl (qM (vu64 x) rfl rfl ?_)
 refine WL.call Tryz.call175 rfl rfl (c_Mul64 x x _ ) rfl ?_
 rintro _ w_2 ⟨rfl, hc_1⟩
 have h_3 := h_0.same hc_1
 refine qM (.tuple [(vu64 (mulHi x x)), (vu64 (x * x))].toArray) rfl rfl (qV rfl (R.extract rfl rfl) (qV rfl (R.extract rfl rfl) (qA (vu64 (mulHi x x)) rfl rfl (qA (vu64 (x * x)) rfl rfl ?_))))
 refine WL.nil (thn_n (WP.seq (WP.seq (WP.reg ?_))))
 refine qM (vi 2) rfl rfl (qV rfl (R.bin rfl rfl (bi_eql (r := true) (by decide))) ?_)
 refine WL.nil (thn_n ?_)
 refine WP.condT rfl ?_
 refine WP.seq (WP.reg ?_)
 refine qM (vu64 (mulHi x x)) rfl rfl (qM (vu64 p) rfl rfl (qV rfl (R.bin (v := (.bool (decide ((mulHi x x : UInt64) < p)))) rfl rfl (b64_lss (mulHi x x) p (r := decide ((mulHi x x : UInt64) < p)) rfl)) (qM (.bool (decide ((mulHi x x : UInt64) < p))) rfl rfl ?_)))
 rcases Bool.eq_false_or_eq_true (decide ((mulHi x x : UInt64) < p)) with c_4 | c_4
 ·have p_5 := of_decide_eq_true c_4
  refine WL.skip rfl (congrArg Value.bool c_4) rfl ?_
  refine WL.skip rfl (congrArg Value.bool c_4) rfl ?_
  refine WL.skip rfl (congrArg Value.bool c_4) rfl ?_
  refine WL.skip rfl (congrArg Value.bool c_4) rfl ?_
  refine WL.skipU rfl rfl rfl ?_
  refine WL.skipU rfl rfl rfl ?_
  refine WL.skip rfl (congrArg Value.bool c_4) rfl ?_
  refine qV rfl (R.pickT (v := (.bool true)) (congrArg Value.bool c_4) rfl) (qA (.bool true) rfl rfl ?_)
  refine WL.nil (thn_n (WP.ret (thn_r ?_)))
  refine ret_of Tryz.results163 (RV.tmp (v := (.bool true)) rfl RV.nil) ?_
  exact ⟨congrArg Value.bool (by simp only [pow2, c_4]; rfl), h_3.chgS⟩
 ·have p_6 := of_decide_eq_false c_4
  refine WL.want rfl (congrArg Value.bool c_4) ?_
  refine qM (vu64 (mulHi x x)) rfl rfl ?_
  refine WL.want rfl (congrArg Value.bool c_4) ?_
  refine qM (vu64 p) rfl rfl ?_
  refine WL.want rfl (congrArg Value.bool c_4) ?_
  refine qV rfl (R.bin (v := (.bool (decide ((mulHi x x : UInt64) = p)))) rfl rfl (b64_eql (mulHi x x) p (r := decide ((mulHi x x : UInt64) = p)) rfl)) ?_
  refine WL.want rfl (congrArg Value.bool c_4) ?_
  refine qM (.bool (decide ((mulHi x x : UInt64) = p))) rfl rfl ?_
  rcases Bool.eq_false_or_eq_true (decide ((mulHi x x : UInt64) = p)) with c_7 | c_7
  ·have p_8 := of_decide_eq_true c_7
   refine WL.want rfl (congrArg Value.bool c_7) ?_
   refine qM (vu64 (x * x)) rfl rfl ?_
   refine WL.want rfl (congrArg Value.bool c_7) ?_
   refine qV rfl (R.bin (v := (.bool (decide ((x * x : UInt64) = 0)))) rfl rfl (b64_eql (x * x) 0 (r := decide ((x * x : UInt64) = 0)) rfl)) ?_
   refine WL.want rfl (congrArg Value.bool c_4) ?_
   refine qV rfl (R.pickT (v := (.bool (decide ((x * x : UInt64) = 0)))) (congrArg Value.bool c_7) rfl) (qV rfl (R.pickF (v := (.bool (decide ((x * x : UInt64) = 0)))) (congrArg Value.bool c_4) rfl) (qA (.bool (decide ((x * x : UInt64) = 0))) rfl rfl ?_))
   refine WL.nil (thn_n (WP.ret (thn_r ?_)))
   refine ret_of Tryz.results163 (RV.tmp (v := (.bool (decide ((x * x : UInt64) = 0)))) rfl RV.nil) ?_
   exact ⟨congrArg Value.bool (by simp only [pow2, c_4, c_7]; rfl), h_3.chgS⟩
  ·have p_9 := of_decide_eq_false c_7
   refine WL.skip rfl (congrArg Value.bool c_7) rfl ?_
   refine WL.skip rfl (congrArg Value.bool c_7) rfl ?_
   refine WL.want rfl (congrArg Value.bool c_4) ?_
   refine qV rfl (R.pickF (v := (.bool false)) (congrArg Value.bool c_7) rfl) (qV rfl (R.pickF (v := (.bool false)) (congrArg Value.bool c_4) rfl) (qA (.bool false) rfl rfl ?_))
   refine WL.nil (thn_n (WP.ret (thn_r ?_)))
   refine ret_of Tryz.results163 (RV.tmp (v := (.bool false)) rfl RV.nil) ?_
   exact ⟨congrArg Value.bool (by simp only [pow2, c_4, c_7]; rfl), h_3.chgS⟩

theorem c_power3 (x p : UInt64) (w : World) :
  Cs Tryz.prog 163 [(vu64 x), (vi 3), (vu64 p)].toArray w (fun v w1 => v = (.bool (pow3 x p)) ∧ Chg w w1 []) := by
 refine Cs.of (n := 79) (args := [(vu64 x), (vi 3), (vu64 p)]) Tryz.func163 rfl rfl rfl ?_
 have h_0 := HP.init w
 refine WP.seq (WP.reg ?_)
 refine qA (.bool false) rfl rfl ?_
 refine WL.nil (thn_n (WP.seq (WP.reg ?_)))
 refine qM (vu64 x) rfl rfl (qM (vu64 x) rfl rfl ?_)
 refine WL.call Tryz.call175 rfl rfl (c_Mul64 x x _ ) rfl ?_
 rintro _ w_2 ⟨rfl, hc_1⟩
 have h_3 := h_0.same hc_1
 refine qM (.tuple [(vu64 (mulHi x x)), (vu64 (x * x))].toArray) rfl rfl (qV rfl (R.extract rfl rfl) (qV rfl (R.extract rfl rfl) (qA (vu64 (mulHi x x)) rfl rfl (qA (vu64 (x * x)) rfl rfl ?_))))
 refine WL.nil (thn_n (WP.seq (WP.seq (WP.reg ?_))))
 refine qM (vi 3) rfl rfl (qV rfl (R.bin rfl rfl (bi_eql (r := false) (by decide))) ?_)
 refine WL.nil (thn_n ?_)
 refine WP.condF rfl ?_
 refine WP.skip (thn_n (WP.seq (WP.reg ?_)))
 refine qM (vu64 (x * x)) rfl rfl (qM (vu64 x) rfl rfl ?_)
 refine WL.call Tryz.call175 rfl rfl (c_Mul64 (x * x) x _ ) rfl ?_
 rintro _ w_5 ⟨rfl, hc_4⟩
 have h_6 := h_3.same hc_4
 refine qM (.tuple [(vu64 (mulHi (x * x) x)), (vu64 ((x * x) * x))].toArray) rfl rfl (qV rfl (R.extract rfl rfl) (qV rfl (R.extract rfl rfl) (qA (vu64 (mulHi (x * x) x)) rfl rfl (qA (vu64 ((x * x) * x)) rfl rfl ?_))))
 refine WL.nil (thn_n (WP.seq (WP.reg ?_)))
 refine qM (vu64 (mulHi x x)) rfl rfl (qM (vu64 x) rfl rfl ?_)
 refine WL.call Tryz.call175 rfl rfl (c_Mul64 (mulHi x x) x _ ) rfl ?_
 rintro _ w_8 ⟨rfl, hc_7⟩
 have h_9 := h_6.same hc_7
 refine qM (.tuple [(vu64 (mulHi (mulHi x x) x)), (vu64 ((mulHi x x) * x))].toArray) rfl rfl (qV rfl (R.extract rfl rfl) (qV rfl (R.extract rfl rfl) (qA (vu64 (mulHi (mulHi x x) x)) rfl rfl (qA (vu64 ((mulHi x x) * x)) rfl rfl ?_))))
 refine WL.nil (thn_n (WP.seq (WP.reg ?_)))
 refine qM (vu64 (mulHi (x * x) x)) rfl rfl (qM (vu64 ((mulHi x x) * x)) rfl rfl (qV rfl (R.native (al := [(vu64 (mulHi (x * x) x)), (vu64 ((mulHi x x) * x)), (vu64 0)]) (v := (.tuple [(vu64 ((mulHi (x * x) x) + ((mulHi x x) * x))), (vu64 (cry (mulHi (x * x) x) ((mulHi x x) * x)))].toArray)) rfl rfl (nat_add64 Tryz.func176 (by kernel_rfl) (by kernel_rfl) (by kernel_rfl) (by kernel_rfl) (mulHi (x * x) x) ((mulHi x x) * x))) (qM (.tuple [(vu64 ((mulHi (x * x) x) + ((mulHi x x) * x))), (vu64 (cry (mulHi (x * x) x) ((mulHi x x) * x)))].toArray) rfl rfl (qV rfl (R.extract rfl rfl) (qV rfl (R.extract rfl rfl) (qA (vu64 ((mulHi (x * x) x) + ((mulHi x x) * x))) rfl rfl (qA (vu64 (cry (mulHi (x * x) x) ((mulHi x x) * x))) rfl rfl ?_)))))))
 refine WL.nil (thn_n (WP.seq (WP.reg ?_)))
 refine qM (vu64 (mulHi (mulHi x x) x)) rfl rfl (qM (vu64 (cry (mulHi (x * x) x) ((mulHi x x) * x))) rfl rfl (qV rfl (R.bin rfl rfl (b64_add (mulHi (mulHi x x) x) (cry (mulHi (x * x) x) ((mulHi x x) * x)))) (qA (vu64 ((mulHi (mulHi x x) x) + (cry (mulHi (x * x) x) ((mulHi x x) * x)))) rfl rfl ?_)))
 refine WL.nil (thn_n (WP.seq (WP.seq (WP.reg ?_))))
 refine qM (vu64 ((mulHi (mulHi x x) x) + (cry (mulHi (x * x) x) ((mulHi x x) * x)))) rfl rfl (qM (vu64 p) rfl rfl (qV rfl (R.binR (v := vu64 (shr64 p 32)) rfl rfl (run_shr64 _ _ _ p _ 32)) (qV rfl (R.bin (v := (.bool (decide (((mulHi (mulHi x x) x) + (cry (mulHi (x * x) x) ((mulHi x x) * x)) : UInt64) ≠ (shr64 p 32))))) rfl rfl (b64_neq ((mulHi (mulHi x x) x) + (cry (mulHi (x * x) x) ((mulHi x x) * x))) (shr64 p 32) (r := decide (((mulHi (mulHi x x) x) + (cry (mulHi (x * x) x) ((mulHi x x) * x)) : UInt64) ≠ (shr64 p 32))) rfl)) ?_)))
 refine WL.nil (thn_n ?_)
 refine WP.cond (b := decide (((mulHi (mulHi x x) x) + (cry (mulHi (x * x) x) ((mulHi x x) * x)) : UInt64) ≠ (shr64 p 32))) rfl (fun c_10 => ?_) (fun c_10 => ?_)
 ·have p_11 := of_decide_eq_true c_10
  refine WP.seq (WP.reg ?_)
  refine qM (vu64 ((mulHi (mulHi x x) x) + (cry (mulHi (x * x) x) ((mulHi x x) * x)))) rfl rfl (qM (vu64 p) rfl rfl (qV rfl (R.binR (v := vu64 (shr64 p 32)) rfl rfl (run_shr64 _ _ _ p _ 32)) (qV rfl (R.bin (v := (.bool (decide (((mulHi (mulHi x x) x) + (cry (mulHi (x * x) x) ((mulHi x x) * x)) : UInt64) < (shr64 p 32))))) rfl rfl (b64_lss ((mulHi (mulHi x x) x) + (cry (mulHi (x * x) x) ((mulHi x x) * x))) (shr64 p 32) (r := decide (((mulHi (mulHi x x) x) + (cry (mulHi (x * x) x) ((mulHi x x) * x)) : UInt64) < (shr64 p 32))) rfl)) (qA (.bool (decide (((mulHi (mulHi x x) x) + (cry (mulHi (x * x) x) ((mulHi x x) * x)) : UInt64) < (shr64 p 32)))) rfl rfl ?_))))
  refine WL.nil (thn_n (WP.ret (thn_r ?_)))
  refine ret_of Tryz.results163 (RV.tmp (v := (.bool (decide (((mulHi (mulHi x x) x) + (cry (mulHi (x * x) x) ((mulHi x x) * x)) : UInt64) < (shr64 p 32))))) rfl RV.nil) ?_
  exact ⟨congrArg Value.bool (by unfold pow3 cubM cubN; rw [if_pos p_11]), h_9.chgS⟩
 ·have p_12 := of_decide_eq_false c_10
  refine WP.skip (thn_n (WP.seq (WP.reg ?_)))
  refine qM (vu64 ((mulHi (x * x) x) + ((mulHi x x) * x))) rfl rfl (qM (vu64 p) rfl rfl (qV rfl (R.binR (v := vu64 (shl64 p 32)) rfl rfl (run_shl64 _ _ _ p _ 32)) (qV rfl (R.bin (v := (.bool (decide (((mulHi (x * x) x) + ((mulHi x x) * x) : UInt64) < (shl64 p 32))))) rfl rfl (b64_lss ((mulHi (x * x) x) + ((mulHi x x) * x)) (shl64 p 32) (r := decide (((mulHi (x * x) x) + ((mulHi x x) * x) : UInt64) < (shl64 p 32))) rfl)) (qM (.bool (decide (((mulHi (x * x) x) + ((mulHi x x) * x) : UInt64) < (shl64 p 32)))) rfl rfl ?_))))
  rcases Bool.eq_false_or_eq_true (decide (((mulHi (x * x) x) + ((mulHi x x) * x) : UInt64) < (shl64 p 32))) with c_13 | c_13
  ·have p_14 := of_decide_eq_true c_13
   refine WL.skip rfl (congrArg Value.bool c_13) rfl ?_
   refine WL.skip rfl (congrArg Value.bool c_13) rfl ?_
   refine WL.skip rfl (congrArg Value.bool c_13) rfl ?_
   refine WL.skip rfl (congrArg Value.bool c_13) rfl ?_
   refine WL.skip rfl (congrArg Value.bool c_13) rfl ?_
   refine WL.skipU rfl rfl rfl ?_
   refine WL.skipU rfl rfl rfl ?_
   refine WL.skip rfl (congrArg Value.bool c_13) rfl ?_
   refine qV rfl (R.pickT (v := (.bool true)) (congrArg Value.bool c_13) rfl) (qA (.bool true) rfl rfl ?_)
   refine WL.nil (thn_n (WP.ret ?_))
   refine ret_of Tryz.results163 (RV.tmp (v := (.bool true)) rfl RV.nil) ?_
   exact ⟨congrArg Value.bool (by unfold pow3 cubM cubN; rw [if_neg p_12]; simp only [c_13]; rfl), h_9.chgS⟩
  ·have p_15 := of_decide_eq_false c_13
   refine WL.want rfl (congrArg Value.bool c_13) ?_
   refine qM (vu64 ((mulHi (x * x) x) + ((mulHi x x) * x))) rfl rfl ?_
   refine WL.want rfl (congrArg Value.bool c_13) ?_
   refine qM (vu64 p) rfl rfl ?_
   refine WL.want rfl (congrArg Value.bool c_13) ?_
   refine qV rfl (R.binR (v := vu64 (shl64 p 32)) rfl rfl (run_shl64 _ _ _ p _ 32)) ?_
   refine WL.want rfl (congrArg Value.bool c_13) ?_
   refine qV rfl (R.bin (v := (.bool (decide (((mulHi (x * x) x) + ((mulHi x x) * x) : UInt64) = (shl64 p 32))))) rfl rfl (b64_eql ((mulHi (x * x) x) + ((mulHi x x) * x)) (shl64 p 32) (r := decide (((mulHi (x * x) x) + ((mulHi x x) * x) : UInt64) = (shl64 p 32))) rfl)) ?_
   refine WL.want rfl (congrArg Value.bool c_13) ?_
   refine qM (.bool (decide (((mulHi (x * x) x) + ((mulHi x x) * x) : UInt64) = (shl64 p 32)))) rfl rfl ?_
   rcases Bool.eq_false_or_eq_true (decide (((mulHi (x * x) x) + ((mulHi x x) * x) : UInt64) = (shl64 p 32))) with c_16 | c_16
   ·have p_17 := of_decide_eq_true c_16
    refine WL.want rfl (congrArg Value.bool c_16) ?_
    refine qM (vu64 ((x * x) * x)) rfl rfl ?_
    refine WL.want rfl (congrArg Value.bool c_16) ?_
    refine qV rfl (R.bin (v := (.bool (decide (((x * x) * x : UInt64) = 0)))) rfl rfl (b64_eql ((x * x) * x) 0 (r := decide (((x * x) * x : UInt64) = 0)) rfl)) ?_
    refine WL.want rfl (congrArg Value.bool c_13) ?_
    refine qV rfl (R.pickT (v := (.bool (decide (((x * x) * x : UInt64) = 0)))) (congrArg Value.bool c_16) rfl) (qV rfl (R.pickF (v := (.bool (decide (((x * x) * x : UInt64) = 0)))) (congrArg Value.bool c_13) rfl) (qA (.bool (decide (((x * x) * x : UInt64) = 0))) rfl rfl ?_))
    refine WL.nil (thn_n (WP.ret ?_))
    refine ret_of Tryz.results163 (RV.tmp (v := (.bool (decide (((x * x) * x : UInt64) = 0)))) rfl RV.nil) ?_
    exact ⟨congrArg Value.bool (by unfold pow3 cubM cubN; rw [if_neg p_12]; simp only [c_13, c_16]; rfl), h_9.chgS⟩
   ·have p_18 := of_decide_eq_false c_16
    refine WL.skip rfl (congrArg Value.bool c_16) rfl ?_
    refine WL.skip rfl (congrArg Value.bool c_16) rfl ?_
    refine WL.want rfl (congrArg Value.bool c_13) ?_
    refine qV rfl (R.pickF (v := (.bool false)) (congrArg Value.bool c_16) rfl) (qV rfl (R.pickF (v := (.bool false)) (congrArg Value.bool c_13) rfl) (qA (.bool false) rfl rfl ?_))
    refine WL.nil (thn_n (WP.ret ?_))
    refine ret_of Tryz.results163 (RV.tmp (v := (.bool false)) rfl RV.nil) ?_
    exact ⟨congrArg Value.bool (by unfold pow3 cubM cubN; rw [if_neg p_12]; simp only [c_13, c_16]; rfl), h_9.chgS⟩

theorem c_rootR2 (p : UInt64) (w : World) :
  Cs Tryz.prog 143 [(vu64 p), (vi 2)].toArray w (fun v w1 => v = (vu32 (rootR (fun x => pow2 x p))) ∧ Chg w w1 []) := by
 refine Cs.of (n := 24) (args := [(vu64 p), (vi 2)]) Tryz.func143 rfl rfl rfl ?_
 have h_0 := HP.init w
 refine WP.seq (WP.reg ?_)
 refine qA (vu32 0) rfl rfl ?_
 refine WL.nil (thn_n (WP.seq (WP.reg ?_)))
 refine qA (vu64 0) rfl rfl ?_
 refine WL.nil (thn_n (WP.seq (WP.seq (WP.reg ?_))))
 refine qA (vi 37) rfl rfl ?_
 refine WL.nil (thn_n (WP.block ?_))
 refine WP.loopG (G := Nat) [5, 6, 7, 8, 9, 10, 11, 12, 13, 14, 15, 16, 17, 18, 19, 20, 21] (fun j => [(5, (vu64 (rgF (fun x => pow2 x p) j))), (6, (vi (37 - (j : Int))))]) (fun j m w1 => HP w w1 [] ∧ (j ≤ 38) ∧ m = 38 - j) ⟨0, _, ⟨rfl, rfl, trivial⟩, h_0, (by omega), rfl⟩ ?_
 rintro j m_3 J_4 w_1 ⟨h_2, hj, rfl⟩
 have ek : j < 38 → (UInt64.ofNat (37 - j)).toNat = 37 - j := fun _ => nat64 (by omega)
 refine WP.seq (WP.seq (WP.reg ?_))
 refine qM (vi (37 - (j : Int))) rfl rfl (qV rfl (R.bin rfl rfl (bi_geq (r := decide ((37 - (j : Int) : Int) ≥ 0)) rfl)) ?_)
 refine WL.nil (thn_n ?_)
 refine WP.cond (b := decide ((37 - (j : Int) : Int) ≥ 0)) rfl (fun c_5 => ?_) (fun c_5 => ?_)
 ·have p_6 := of_decide_eq_true c_5
  refine WP.skip (thn_n (WP.seq (WP.block (WP.seq (WP.reg ?_)))))
  refine qM (vu64 (rgF (fun x => pow2 x p) j)) rfl rfl (qV rfl (R.move (v := (vn (37 - j))) (congrArg vi (show (37 : Int) - (j : Int) = ((37 - j : Nat) : Int) by omega))) (qV rfl (R.conv (b := ((UInt64.ofNat (37 - j)) : UInt64).toNat) rfl Tryz.underlying3 Tryz.underlying168 (w64_nat (37 - j))) (qV rfl (R.binR (v := vu64 (shl64 1 ((UInt64.ofNat (37 - j)).toNat))) rfl rfl (run_shl64 _ _ _ 1 _ ((UInt64.ofNat (37 - j)).toNat))) (qV rfl (R.bin rfl rfl (b64_add (rgF (fun x => pow2 x p) j) (shl64 1 ((UInt64.ofNat (37 - j)).toNat)))) (qA (vu64 ((rgF (fun x => pow2 x p) j) + (shl64 1 ((UInt64.ofNat (37 - j)).toNat)))) rfl rfl ?_)))))
  refine WL.nil (thn_n (WP.seq (WP.reg ?_)))
  refine qM (vu64 ((rgF (fun x => pow2 x p) j) + (shl64 1 ((UInt64.ofNat (37 - j)).toNat)))) rfl rfl (qM (vi 2) rfl rfl (qM (vu64 p) rfl rfl ?_))
  refine WL.call Tryz.call163 rfl rfl (c_power2 ((rgF (fun x => pow2 x p) j) + (shl64 1 ((UInt64.ofNat (37 - j)).toNat))) p _ ) rfl ?_
  rintro _ w_8 ⟨rfl, hc_7⟩
  have h_9 := h_2.same hc_7
  refine WL.nil (thn_n ?_)
  refine WP.cond (b := pow2 ((rgF (fun x => pow2 x p) j) + (shl64 1 ((UInt64.ofNat (37 - j)).toNat))) p) rfl (fun c_10 => ?_) (fun c_10 => ?_)
  ·refine WP.reg ?_
   refine qM (vu64 ((rgF (fun x => pow2 x p) j) + (shl64 1 ((UInt64.ofNat (37 - j)).toNat)))) rfl rfl (qA (vu64 ((rgF (fun x => pow2 x p) j) + (shl64 1 ((UInt64.ofNat (37 - j)).toNat)))) rfl rfl ?_)
   refine WL.nil (inb_n (thn_n (WP.reg ?_)))
   refine qM (vi (37 - (j : Int))) rfl rfl (qV rfl (R.bin rfl rfl (bi_sub (c := (37 - (j : Int)) - 1) (by omega) (by omega))) (qA (vi ((37 - (j : Int)) - 1)) rfl rfl ?_))
   refine WL.nil (thn_n ?_)
   rw [ek (by omega)] at c_10
   exact ⟨j + 1, _, (by omega), (Ag.upd rfl (U4 rfl rfl rfl rfl (U4 rfl rfl rfl rfl (U4 rfl rfl rfl rfl (U4 rfl rfl rfl rfl (Ag.updL rfl (Ag.mix _ _ _))))))), ⟨congrArg (fun x : UInt64 => vu64 x) (by rw [ek (by omega)]; exact rg_yes (f := (fun x => pow2 x p)) c_10), congrArg vi (by omega), trivial⟩, h_9, (by omega), rfl⟩
  ·refine WP.skip (inb_n (thn_n (WP.reg ?_)))
   refine qM (vi (37 - (j : Int))) rfl rfl (qV rfl (R.bin rfl rfl (bi_sub (c := (37 - (j : Int)) - 1) (by omega) (by omega))) (qA (vi ((37 - (j : Int)) - 1)) rfl rfl ?_))
   refine WL.nil (thn_n ?_)
   rw [ek (by omega)] at c_10
   exact ⟨j + 1, _, (by omega), (Ag.upd rfl (U2 rfl rfl (U4 rfl rfl rfl rfl (U4 rfl rfl rfl rfl (U4 rfl rfl rfl rfl (Ag.updL rfl (Ag.mix _ _ _))))))), ⟨congrArg (fun x : UInt64 => vu64 x) (rg_no (f := (fun x => pow2 x p)) c_10), congrArg vi (by omega), trivial⟩, h_9, (by omega), rfl⟩
 ·have p_11 := of_decide_eq_false c_5
  refine WP.exit (thn_x (thn_x (inb_hit (thn_n (WP.seq (WP.reg ?_))))))
  refine qM (vu64 (rgF (fun x => pow2 x p) j)) rfl rfl (qV rfl (R.conv (b := ((UInt32.ofNat ((rgF (fun x => pow2 x p) j).toNat)) : UInt32).toNat) rfl Tryz.underlying27 Tryz.underlying169 (w32_nat ((rgF (fun x => pow2 x p) j).toNat))) (qA (vu32 (UInt32.ofNat ((rgF (fun x => pow2 x p) j).toNat))) rfl rfl ?_))
  refine WL.nil (thn_n (WP.ret ?_))
  refine ret_of Tryz.results143 (RV.tmp (v := (vu32 (UInt32.ofNat ((rgF (fun x => pow2 x p) j).toNat)))) rfl RV.nil) ?_
  have hj38 : j = 38 := by omega
  subst hj38
  exact ⟨rfl, h_2.chgS⟩

theorem c_rootR3 (p : UInt64) (w : World) :
  Cs Tryz.prog 143 [(vu64 p), (vi 3)].toArray w (fun v w1 => v = (vu32 (rootR (fun x => pow3 x p))) ∧ Chg w w1 []) := by
 refine Cs.of (n := 24) (args := [(vu64 p), (vi 3)]) Tryz.func143 rfl rfl rfl ?_
 have h_0 := HP.init w
 refine WP.seq (WP.reg ?_)
 refine qA (vu32 0) rfl rfl ?_
 refine WL.nil (thn_n (WP.seq (WP.reg ?_)))
 refine qA (vu64 0) rfl rfl ?_
 refine WL.nil (thn_n (WP.seq (WP.seq (WP.reg ?_))))
 refine qA (vi 37) rfl rfl ?_
 refine WL.nil (thn_n (WP.block ?_))
 refine WP.loopG (G := Nat) [5, 6, 7, 8, 9, 10, 11, 12, 13, 14, 15, 16, 17, 18, 19, 20, 21] (fun j => [(5, (vu64 (rgF (fun x => pow3 x p) j))), (6, (vi (37 - (j : Int))))]) (fun j m w1 => HP w w1 [] ∧ (j ≤ 38) ∧ m = 38 - j) ⟨0, _, ⟨rfl, rfl, trivial⟩, h_0, (by omega), rfl⟩ ?_
 rintro j m_3 J_4 w_1 ⟨h_2, hj, rfl⟩
 have ek : j < 38 → (UInt64.ofNat (37 - j)).toNat = 37 - j := fun _ => nat64 (by omega)
 refine WP.seq (WP.seq (WP.reg ?_))
 refine qM (vi (37 - (j : Int))) rfl rfl (qV rfl (R.bin rfl rfl (bi_geq (r := decide ((37 - (j : Int) : Int) ≥ 0)) rfl)) ?_)
 refine WL.nil (thn_n ?_)
 refine WP.cond (b := decide ((37 - (j : Int) : Int) ≥ 0)) rfl (fun c_5 => ?_) (fun c_5 => ?_)
 ·have p_6 := of_decide_eq_true c_5
  refine WP.skip (thn_n (WP.seq (WP.block (WP.seq (WP.reg ?_)))))
  refine qM (vu64 (rgF (fun x => pow3 x p) j)) rfl rfl (qV rfl (R.move (v := (vn (37 - j))) (congrArg vi (show (37 : Int) - (j : Int) = ((37 - j : Nat) : Int) by omega))) (qV rfl (R.conv (b := ((UInt64.ofNat (37 - j)) : UInt64).toNat) rfl Tryz.underlying3 Tryz.underlying168 (w64_nat (37 - j))) (qV rfl (R.binR (v := vu64 (shl64 1 ((UInt64.ofNat (37 - j)).toNat))) rfl rfl (run_shl64 _ _ _ 1 _ ((UInt64.ofNat (37 - j)).toNat))) (qV rfl (R.bin rfl rfl (b64_add (rgF (fun x => pow3 x p) j) (shl64 1 ((UInt64.ofNat (37 - j)).toNat)))) (qA (vu64 ((rgF (fun x => pow3 x p) j) + (shl64 1 ((UInt64.ofNat (37 - j)).toNat)))) rfl rfl ?_)))))
  refine WL.nil (thn_n (WP.seq (WP.reg ?_)))
  refine qM (vu64 ((rgF (fun x => pow3 x p) j) + (shl64 1 ((UInt64.ofNat (37 - j)).toNat)))) rfl rfl (qM (vi 3) rfl rfl (qM (vu64 p) rfl rfl ?_))
  refine WL.call Tryz.call163 rfl rfl (c_power3 ((rgF (fun x => pow3 x p) j) + (shl64 1 ((UInt64.ofNat (37 - j)).toNat))) p _ ) rfl ?_
  rintro _ w_8 ⟨rfl, hc_7⟩
  have h_9 := h_2.same hc_7
  refine WL.nil (thn_n ?_)
  refine WP.cond (b := pow3 ((rgF (fun x => pow3 x p) j) + (shl64 1 ((UInt64.ofNat (37 - j)).toNat))) p) rfl (fun c_10 => ?_) (fun c_10 => ?_)
  ·refine WP.reg ?_
   refine qM (vu64 ((rgF (fun x => pow3 x p) j) + (shl64 1 ((UInt64.ofNat (37 - j)).toNat)))) rfl rfl (qA (vu64 ((rgF (fun x => pow3 x p) j) + (shl64 1 ((UInt64.ofNat (37 - j)).toNat)))) rfl rfl ?_)
   refine WL.nil (inb_n (thn_n (WP.reg ?_)))
   refine qM (vi (37 - (j : Int))) rfl rfl (qV rfl (R.bin rfl rfl (bi_sub (c := (37 - (j : Int)) - 1) (by omega) (by omega))) (qA (vi ((37 - (j : Int)) - 1)) rfl rfl ?_))
   refine WL.nil (thn_n ?_)
   rw [ek (by omega)] at c_10
   exact ⟨j + 1, _, (by omega), (Ag.upd rfl (U4 rfl rfl rfl rfl (U4 rfl rfl rfl rfl (U4 rfl rfl rfl rfl (U4 rfl rfl rfl rfl (Ag.updL rfl (Ag.mix _ _ _))))))), ⟨congrArg (fun x : UInt64 => vu64 x) (by rw [ek (by omega)]; exact rg_yes (f := (fun x => pow3 x p)) c_10), congrArg vi (by omega), trivial⟩, h_9, (by omega), rfl⟩
  ·refine WP.skip (inb_n (thn_n (WP.reg ?_)))
   refine qM (vi (37 - (j : Int))) rfl rfl (qV rfl (R.bin rfl rfl (bi_sub (c := (37 - (j : Int)) - 1) (by omega) (by omega))) (qA (vi ((37 - (j : Int)) - 1)) rfl rfl ?_))
   refine WL.nil (thn_n ?_)
   rw [ek (by omega)] at c_10
   exact ⟨j + 1, _, (by omega), (Ag.upd rfl (U2 rfl rfl (U4 rfl rfl rfl rfl (U4 rfl rfl rfl rfl (U4 rfl rfl rfl rfl (Ag.updL rfl (Ag.mix _ _ _))))))), ⟨congrArg (fun x : UInt64 => vu64 x) (rg_no (f := (fun x => pow3 x p)) c_10), congrArg vi (by omega), trivial⟩, h_9, (by omega), rfl⟩
 ·have p_11 := of_decide_eq_false c_5
  refine WP.exit (thn_x (thn_x (inb_hit (thn_n (WP.seq (WP.reg ?_))))))
  refine qM (vu64 (rgF (fun x => pow3 x p) j)) rfl rfl (qV rfl (R.conv (b := ((UInt32.ofNat ((rgF (fun x => pow3 x p) j).toNat)) : UInt32).toNat) rfl Tryz.underlying27 Tryz.underlying169 (w32_nat ((rgF (fun x => pow3 x p) j).toNat))) (qA (vu32 (UInt32.ofNat ((rgF (fun x => pow3 x p) j).toNat))) rfl rfl ?_))
  refine WL.nil (thn_n (WP.ret ?_))
  refine ret_of Tryz.results143 (RV.tmp (v := (vu32 (UInt32.ofNat ((rgF (fun x => pow3 x p) j).toNat)))) rfl RV.nil) ?_
  have hj38 : j = 38 := by omega
  subst hj38
  exact ⟨rfl, h_2.chgS⟩

theorem c_ConstantR_lo (i : Int) (h : i < 0) (w : World) :
  Cs Tryz.prog 145 [(vi i)].toArray w (fun v w1 => v = (vu32 0) ∧ Chg w w1 []) := by
 refine Cs.of (n := 12) (args := [(vi i)]) Tryz.func145 rfl rfl rfl ?_
 have h_0 := HP.init w
 refine WP.seq (WP.reg ?_)
 refine qA (vu32 0) rfl rfl ?_
 refine WL.nil (thn_n (WP.seq (WP.seq (WP.reg ?_))))
 refine qM (vi i) rfl rfl (qV rfl (R.bin rfl rfl (bi_lss (r := decide ((i : Int) < 0)) rfl)) (qM (.bool (decide ((i : Int) < 0))) rfl rfl ?_))
 refine WL.skip rfl (congrArg Value.bool (decide_eq_true h)) rfl ?_
 refine WL.skip rfl (congrArg Value.bool (decide_eq_true h)) rfl ?_
 refine qV rfl (R.pickT (v := (.bool true)) (congrArg Value.bool (decide_eq_true h)) rfl) ?_
 refine WL.nil (thn_n ?_)
 refine WP.condT rfl ?_
 refine WP.seq (WP.reg ?_)
 refine qA (vu32 0) rfl rfl ?_
 refine WL.nil (thn_n (WP.ret (thn_r ?_)))
 refine ret_of Tryz.results145 (RV.tmp (v := (vu32 0)) rfl RV.nil) ?_
 exact ⟨rfl, h_0.chgS⟩

theorem c_ConstantR_hi (i : Int) (h : ¬ i < 0) (h2 : 63 < i) (w : World) :
  Cs Tryz.prog 145 [(vi i)].toArray w (fun v w1 => v = (vu32 0) ∧ Chg w w1 []) := by
 refine Cs.of (n := 12) (args := [(vi i)]) Tryz.func145 rfl rfl rfl ?_
 have h_0 := HP.init w
 refine WP.seq (WP.reg ?_)
 refine qA (vu32 0) rfl rfl ?_
 refine WL.nil (thn_n (WP.seq (WP.seq (WP.reg ?_))))
 refine qM (vi i) rfl rfl (qV rfl (R.bin rfl rfl (bi_lss (r := decide ((i : Int) < 0)) rfl)) (qM (.bool (decide ((i : Int) < 0))) rfl rfl ?_))
 refine WL.want rfl (congrArg Value.bool (decide_eq_false h)) ?_
 refine qM (vi i) rfl rfl ?_
 refine WL.want rfl (congrArg Value.bool (decide_eq_false h)) ?_
 refine qV rfl (R.bin rfl rfl (bi_gtr (r := decide ((i : Int) > 63)) rfl)) (qV rfl (R.pickF (v := (.bool (decide ((i : Int) > 63)))) (congrArg Value.bool (decide_eq_false h)) rfl) ?_)
 refine WL.nil (thn_n ?_)
 refine WP.condT (congrArg Value.bool (decide_eq_true h2)) ?_
 refine WP.seq (WP.reg ?_)
 refine qA (vu32 0) rfl rfl ?_
 refine WL.nil (thn_n (WP.ret (thn_r ?_)))
 refine ret_of Tryz.results145 (RV.tmp (v := (vu32 0)) rfl RV.nil) ?_
 exact ⟨rfl, h_0.chgS⟩

theorem c_ConstantR_n (i : Nat) (h : i < 64) (w : World) :
  Cs Tryz.prog 145 [(vi ((i : Nat) : Int))].toArray w (fun v w1 => v = (vu32 (kL.getD i 0)) ∧ Chg w w1 []) := by
 refine Cs.of (n := 12) (args := [(vn i)]) Tryz.func145 rfl rfl rfl ?_
 have h_0 := HP.init w
 refine WP.seq (WP.reg ?_)
 refine qA (vu32 0) rfl rfl ?_
 refine WL.nil (thn_n (WP.seq (WP.seq (WP.reg ?_))))
 refine qM (vn i) rfl rfl (qV rfl (R.bin rfl rfl (bi_lss (r := decide ((((i : Nat) : Int) : Int) < 0)) rfl)) (qM (.bool (decide ((((i : Nat) : Int) : Int) < 0))) rfl rfl ?_))
 refine WL.want rfl (congrArg Value.bool (decide_eq_false (by omega))) ?_
 refine qM (vn i) rfl rfl ?_
 refine WL.want rfl (congrArg Value.bool (decide_eq_false (by omega))) ?_
 refine qV rfl (R.bin rfl rfl (bi_gtr (r := decide ((((i : Nat) : Int) : Int) > 63)) rfl)) (qV rfl (R.pickF (v := (.bool (decide ((((i : Nat) : Int) : Int) > 63)))) (congrArg Value.bool (decide_eq_false (by omega))) rfl) ?_)
 refine WL.nil (thn_n ?_)
 refine WP.condF (congrArg Value.bool (decide_eq_false (by omega))) ?_
 refine WP.skip (thn_n (WP.seq (WP.reg ?_)))
 refine qM (vn i) rfl rfl ?_
 refine WL.call Tryz.call144 rfl rfl (c_prime i (by omega) _ ) rfl ?_
 rintro _ w_2 ⟨rfl, hc_1⟩
 have h_3 := h_0.same hc_1
 refine WL.call Tryz.call143 rfl rfl (c_rootR3 (primeL.getD i 0) _ ) rfl ?_
 rintro _ w_5 ⟨rfl, hc_4⟩
 have h_6 := h_3.same hc_4
 refine qA (vu32 (rootR (fun x => pow3 x (primeL.getD i 0)))) rfl rfl ?_
 refine WL.nil (thn_n (WP.ret ?_))
 refine ret_of Tryz.results145 (RV.tmp (v := (vu32 (rootR (fun x => pow3 x (primeL.getD i 0))))) rfl RV.nil) ?_
 exact ⟨congrArg (fun x : UInt32 => vu32 x) (tabKR i h), h_6.chgS⟩

theorem c_ConstantR (i : Int) (w : World) : Cs Tryz.prog 145 [vi i].toArray w (fun v w1 => v = vu32 (kAt i) ∧ Chg w w1 []) := by
 by_cases h : i < 0
 ·rw [kAt_no (.inl h)]; exact c_ConstantR_lo i h w
 by_cases h2 : 63 < i
 ·rw [kAt_no (.inr h2)]; exact c_ConstantR_hi i h h2 w
 obtain ⟨q, rfl⟩ : ∃ q : Nat, i = (q : Int) := ⟨i.toNat, by omega⟩
 rw [kAt_nat (by omega)]; exact c_ConstantR_n q (by omega) w

theorem c_StartR_lo (i : Int) (h : i < 0) (w : World) :
  Cs Tryz.prog 122 [(vi i)].toArray w (fun v w1 => v = (vu32 0) ∧ Chg w w1 []) := by
 refine Cs.of (n := 12) (args := [(vi i)]) Tryz.func122 rfl rfl rfl ?_
 have h_0 := HP.init w
 refine WP.seq (WP.reg ?_)
 refine qA (vu32 0) rfl rfl ?_
 refine WL.nil (thn_n (WP.seq (WP.seq (WP.reg ?_))))
 refine qM (vi i) rfl rfl (qV rfl (R.bin rfl rfl (bi_lss (r := decide ((i : Int) < 0)) rfl)) (qM (.bool (decide ((i : Int) < 0))) rfl rfl ?_))
 refine WL.skip rfl (congrArg Value.bool (decide_eq_true h)) rfl ?_
 refine WL.skip rfl (congrArg Value.bool (decide_eq_true h)) rfl ?_
 refine qV rfl (R.pickT (v := (.bool true)) (congrArg Value.bool (decide_eq_true h)) rfl) ?_
 refine WL.nil (thn_n ?_)
 refine WP.condT rfl ?_
 refine WP.seq (WP.reg ?_)
 refine qA (vu32 0) rfl rfl ?_
 refine WL.nil (thn_n (WP.ret (thn_r ?_)))
 refine ret_of Tryz.results122 (RV.tmp (v := (vu32 0)) rfl RV.nil) ?_
 exact ⟨rfl, h_0.chgS⟩

theorem c_StartR_hi (i : Int) (h : ¬ i < 0) (h2 : 7 < i) (w : World) :
  Cs Tryz.prog 122 [(vi i)].toArray w (fun v w1 => v = (vu32 0) ∧ Chg w w1 []) := by
 refine Cs.of (n := 12) (args := [(vi i)]) Tryz.func122 rfl rfl rfl ?_
 have h_0 := HP.init w
 refine WP.seq (WP.reg ?_)
 refine qA (vu32 0) rfl rfl ?_
 refine WL.nil (thn_n (WP.seq (WP.seq (WP.reg ?_))))
 refine qM (vi i) rfl rfl (qV rfl (R.bin rfl rfl (bi_lss (r := decide ((i : Int) < 0)) rfl)) (qM (.bool (decide ((i : Int) < 0))) rfl rfl ?_))
 refine WL.want rfl (congrArg Value.bool (decide_eq_false h)) ?_
 refine qM (vi i) rfl rfl ?_
 refine WL.want rfl (congrArg Value.bool (decide_eq_false h)) ?_
 refine qV rfl (R.bin rfl rfl (bi_gtr (r := decide ((i : Int) > 7)) rfl)) (qV rfl (R.pickF (v := (.bool (decide ((i : Int) > 7)))) (congrArg Value.bool (decide_eq_false h)) rfl) ?_)
 refine WL.nil (thn_n ?_)
 refine WP.condT (congrArg Value.bool (decide_eq_true h2)) ?_
 refine WP.seq (WP.reg ?_)
 refine qA (vu32 0) rfl rfl ?_
 refine WL.nil (thn_n (WP.ret (thn_r ?_)))
 refine ret_of Tryz.results122 (RV.tmp (v := (vu32 0)) rfl RV.nil) ?_
 exact ⟨rfl, h_0.chgS⟩

theorem c_StartR_n (i : Nat) (h : i < 8) (w : World) :
  Cs Tryz.prog 122 [(vi ((i : Nat) : Int))].toArray w (fun v w1 => v = (vu32 (hL.getD i 0)) ∧ Chg w w1 []) := by
 refine Cs.of (n := 12) (args := [(vn i)]) Tryz.func122 rfl rfl rfl ?_
 have h_0 := HP.init w
 refine WP.seq (WP.reg ?_)
 refine qA (vu32 0) rfl rfl ?_
 refine WL.nil (thn_n (WP.seq (WP.seq (WP.reg ?_))))
 refine qM (vn i) rfl rfl (qV rfl (R.bin rfl rfl (bi_lss (r := decide ((((i : Nat) : Int) : Int) < 0)) rfl)) (qM (.bool (decide ((((i : Nat) : Int) : Int) < 0))) rfl rfl ?_))
 refine WL.want rfl (congrArg Value.bool (decide_eq_false (by omega))) ?_
 refine qM (vn i) rfl rfl ?_
 refine WL.want rfl (congrArg Value.bool (decide_eq_false (by omega))) ?_
 refine qV rfl (R.bin rfl rfl (bi_gtr (r := decide ((((i : Nat) : Int) : Int) > 7)) rfl)) (qV rfl (R.pickF (v := (.bool (decide ((((i : Nat) : Int) : Int) > 7)))) (congrArg Value.bool (decide_eq_false (by omega))) rfl) ?_)
 refine WL.nil (thn_n ?_)
 refine WP.condF (congrArg Value.bool (decide_eq_false (by omega))) ?_
 refine WP.skip (thn_n (WP.seq (WP.reg ?_)))
 refine qM (vn i) rfl rfl ?_
 refine WL.call Tryz.call144 rfl rfl (c_prime i (by omega) _ ) rfl ?_
 rintro _ w_2 ⟨rfl, hc_1⟩
 have h_3 := h_0.same hc_1
 refine WL.call Tryz.call143 rfl rfl (c_rootR2 (primeL.getD i 0) _ ) rfl ?_
 rintro _ w_5 ⟨rfl, hc_4⟩
 have h_6 := h_3.same hc_4
 refine qA (vu32 (rootR (fun x => pow2 x (primeL.getD i 0)))) rfl rfl ?_
 refine WL.nil (thn_n (WP.ret ?_))
 refine ret_of Tryz.results122 (RV.tmp (v := (vu32 (rootR (fun x => pow2 x (primeL.getD i 0))))) rfl RV.nil) ?_
 exact ⟨congrArg (fun x : UInt32 => vu32 x) (tabHR i h), h_6.chgS⟩

theorem c_StartR (i : Int) (w : World) : Cs Tryz.prog 122 [vi i].toArray w (fun v w1 => v = vu32 (hAt i) ∧ Chg w w1 []) := by
 by_cases h : i < 0
 ·rw [hAt_no (.inl h)]; exact c_StartR_lo i h w
 by_cases h2 : 7 < i
 ·rw [hAt_no (.inr h2)]; exact c_StartR_hi i h h2 w
 obtain ⟨q, rfl⟩ : ∃ q : Nat, i = (q : Int) := ⟨i.toNat, by omega⟩
 rw [hAt_nat (by omega)]; exact c_StartR_n q (by omega) w

theorem c_ConstantsR  (w : World) :
  Cs Tryz.prog 123 [].toArray w (fun v w1 => ∃ a cap, v = .slice a 64 cap ∧ Chg w w1 [] ∧ Own w.heap.size w1 169 1 a 64 cap ((kL).map vu32)) := by
 refine Cs.of (n := 13) (args := []) Tryz.func123 rfl rfl rfl ?_
 have h_0 := HP.init w
 refine WP.seq (WP.reg ?_)
 refine qA (.slice none 0 0) rfl rfl ?_
 refine WL.nil (thn_n (WP.seq (WP.reg ?_)))
 refine qA (.slice none 0 0) rfl rfl ?_
 refine WL.nil (thn_n (WP.seq (WP.seq (WP.reg ?_))))
 refine qA (vi 0) rfl rfl ?_
 refine WL.nil (thn_n (WP.block ?_))
 have h_1 := h_0.rowNil 169 1
 refine WP.loopG (G := Nat × Option Addr × Nat) [1, 2, 3, 4, 5, 6, 7, 8, 9, 10, 11] (fun (k, ra, rc) => [(1, (.slice ra k rc)), (2, (vn k))]) (fun (k, ra, rc) m w1 => HP w w1 [.row ra k rc 169 1 ((kL.take k).map vu32)] ∧ (k ≤ 64) ∧ m = 64 - k) ⟨(0, none, 0), _, ⟨rfl, rfl, trivial⟩, h_1, Nat.zero_le _, rfl⟩ ?_
 rintro ⟨k, ra, rc⟩ m_4 J_5 w_2 ⟨h_3, hk, rfl⟩
 refine WP.seq (WP.seq (WP.reg ?_))
 refine qM (vn k) rfl rfl (qV rfl (R.bin rfl rfl (bi_lss (r := decide ((((k : Nat) : Int) : Int) < 64)) rfl)) ?_)
 refine WL.nil (thn_n ?_)
 refine WP.cond (b := decide ((((k : Nat) : Int) : Int) < 64)) rfl (fun c_6 => ?_) (fun c_6 => ?_)
 ·have p_7 := of_decide_eq_true c_6
  refine WP.skip (thn_n (WP.seq (WP.block (WP.reg ?_))))
  refine qM (.slice ra k rc) rfl rfl (qM (vn k) rfl rfl ?_)
  refine WL.call Tryz.call145 rfl rfl (c_ConstantR ((k : Nat) : Int) _ ) rfl ?_
  rintro _ w_9 ⟨rfl, hc_8⟩
  have h_10 := h_3.same hc_8
  refine WL.buildSl (vs := [(0, (vu32 (kAt ((k : Nat) : Int))))]) (cs := ([kAt ((k : Nat) : Int)] : List UInt32).map vu32) h_10 Tryz.underlying172 Tryz.sizeOf169 (zv Tryz.typeInfo169 rfl) rfl rfl (by kernel_rfl) rfl (one_u32 _) rfl rfl (fun b_11 w_12 h_13 => ?_)
  refine WL.append (km := k + 1) (xs := (kL.take k).map vu32) (ys := ([kAt ((k : Nat) : Int)] : List UInt32).map vu32) (zs := ((kL.take k) ++ ([kAt ((k : Nat) : Int)] : List UInt32)).map vu32) h_13 rfl rfl el172 (viewB (h_13.ok _ M0) Sg.h) ((len_map (rfl : List.length ([kAt ((k : Nat) : Int)] : List UInt32) = 1)).trans (Nat.mul_one _).symm) (one_u32 _) (by simp only [List.map_append, List.map_nil]) (by omega) (by omega) (by omega) (fun _ _ => Y1) rfl (fun a_14 c_15 w_16 h_17 => ?_)
  refine qA (.slice a_14 (k + 1) c_15) rfl rfl ?_
  refine WL.nil (inb_n (thn_n (WP.reg ?_)))
  refine qM (vn k) rfl rfl (qV rfl (R.bin rfl rfl (bi_add (c := ((k + 1 : Nat) : Int)) (by omega) (by omega))) (qA (vn (k + 1)) rfl rfl ?_))
  refine WL.nil (thn_n ?_)
  have h_18 := h_17.drop rfl
  rw [k_snoc (by omega)] at h_18
  exact ⟨(k + 1, a_14, c_15), _, (by omega), (Ag.upd rfl (U2 rfl rfl (U4 rfl rfl rfl rfl (U4 rfl rfl rfl rfl (Ag.updL rfl (Ag.mix _ _ _)))))), ⟨rfl, rfl, trivial⟩, h_18, (by omega), rfl⟩
 ·have p_19 := of_decide_eq_false c_6
  refine WP.exit (thn_x (thn_x (inb_hit (thn_n (WP.seq (WP.reg ?_))))))
  refine qM (.slice ra k rc) rfl rfl (qA (.slice ra k rc) rfl rfl ?_)
  refine WL.nil (thn_n (WP.ret ?_))
  refine ret_of Tryz.results123 (RV.tmp (v := (.slice ra k rc)) rfl RV.nil) ?_
  have hk64 : k = 64 := by omega
  subst hk64
  exact ⟨_, _, rfl, h_3.chgS, h_3.own M0⟩
end Go.Proofs.YteclkcpdclimnaaGreat
