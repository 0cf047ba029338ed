/- Rules for walks and contracts of the functions that the law reaches, one behind the other. Conditions: none beyond what each theorem states. -/
import Derived.Test.YtnhppjimimhlkaaZ3AttestSplits
set_option linter.unusedVariables false
set_option linter.unusedSimpArgs false
set_option linter.unusedSectionVars false
namespace Go.Proofs.Ytnhppjimimhlkaa
open Go.Vc Go.Orc Go.Sh Go.RowKit
set_option maxRecDepth 20000
theorem ce5 : Try.prog.cellsOf 5 = 1 := by kernel_rfl
theorem ce9 : Try.prog.cellsOf 9 = 1 := by kernel_rfl
theorem ce23 : Try.prog.cellsOf 23 = 32 := by kernel_rfl
theorem ce56 : Try.prog.cellsOf 56 = 1 := by kernel_rfl
theorem ce101 : Try.prog.cellsOf 101 = 1 := by kernel_rfl
theorem ce157 : Try.prog.cellsOf 157 = 35 := by kernel_rfl
theorem el48 : ElT Try.prog 48 111 67 104 := ElT.mk' Try.underlying48 (i := Try.t111) rfl rfl rfl rfl rfl rfl
theorem kt157 : Try.prog.keyTypeAt 3 157 = true := by kernel_rfl
theorem ag157 : aggB Try.prog 157 = true := by unfold aggB; rw [Try.underlying157]
theorem pl111 : ∀ fs, Try.prog.underlying 111 = some (.struct fs) → Places Try.prog fs [(0, 35), (35, 32)] := by
  intro fs h w; rw [Try.underlying111] at h; cases h; simp
theorem pl157 : ∀ fs, Try.prog.underlying 157 = some (.struct fs) → Places Try.prog fs [(0, 1), (1, 32), (33, 1), (34, 1)] := by
  intro fs h w; rw [Try.underlying157] at h; cases h; simp
theorem typQ (q : Qn) (h : okQ q) : Typ Try.prog 3 157 (kC q) := by
  obtain ⟨h0, h1, h2, h3⟩ := h
  have h : okQ q := ⟨h0, h1, h2, h3⟩
  exact (Typ.struct (h := 2) (r := [(1, [(vi q.1)]), (32, q.2.1.map vu8), (1, [(vi q.2.2.1)]), (1, [(.string (bstr q.2.2.2))])]) (cs := flat [(1, [(vi q.1)]), (32, q.2.1.map vu8), (1, [(vi q.2.2.1)]), (1, [(.string (bstr q.2.2.2))])]) Try.underlying157 (TypF.cons (k := 1) rfl rfl (by decide) rfl (Typ.int Try.underlying101 ce101 (WalkArith.wf_i64 (by omega))) (TypF.cons (k := 32) rfl rfl (by decide) (len_map h.1) (Typ.u8s Try.underlying23 ce23 Try.underlying5 ce5 h.1) (TypF.cons (k := 1) rfl rfl (by decide) rfl (Typ.int Try.underlying56 ce56 (WalkArith.wf_i64 (by omega))) (TypF.cons (k := 1) rfl rfl (by decide) rfl (Typ.str Try.underlying9 ce9 (by rw [bstr_size]; simp only [maxLen]; omega)) TypF.nil)))) rfl (((SsOk.cons (SOk.v rfl) (SsOk.cons (SOk.u8 h.1) (SsOk.cons (SOk.v rfl) (SsOk.cons (SOk.v rfl) SsOk.nil))))).len.trans ce157.symm))

theorem c_oText (kd dm : Int) (key data : List UInt8) (qa : Option Addr) (qn qc : Nat) (hq : okQ (kd, key, dm, data)) (hdl : data.length = qn) (w : World) (hv : View w qa (data.map vu8)) :
    Cs Try.prog 82 [(.agg ⟨flat [(1, [(vi kd)]), (32, key.map vu8), (1, [(vi dm)]), (1, [(.slice qa qn qc)])]⟩)].toArray w (fun v w1 => ∃ a cap, v = .slice a (34 + qn) cap ∧ Chg w w1 [] ∧ Own w.heap.size w1 5 1 a (34 + qn) cap ((cT (kd, key, dm, data)).map vu8)) := by
  have hk1 : 1 ≤ kd ∧ kd ≤ 4 := hq.2.1
  have hd1 : 1 ≤ dm ∧ dm ≤ 16 := hq.2.2.1
  have hqn : data.length ≤ 1000000000 := hq.2.2.2
  refine Cs.of (n := 20) (args := [(.agg ⟨flat [(1, [(vi kd)]), (32, key.map vu8), (1, [(vi dm)]), (1, [(.slice qa qn qc)])]⟩)]) Try.func82 rfl rfl rfl ?_
  have h_0 := HP.init w
  have h_00 := h_0.old (View.arg hv) (fun f hf => by cases hf)
  refine WP.seq ?_
  refine WP.reg ?_
  refine WL.box (v := (.agg ⟨flat [(1, [(vi kd)]), (32, key.map vu8), (1, [(vi dm)]), (1, [(.slice qa qn qc)])]⟩)) (segs := [(1, [(vi kd)]), (32, key.map vu8), (1, [(vi dm)]), (1, [(.slice qa qn qc)])]) h_00 rfl rfl (SsOk.cons (SOk.v rfl) (SsOk.cons (SOk.u8 hq.1) (SsOk.cons (SOk.v rfl) (SsOk.cons (SOk.v rfl) SsOk.nil)))) rfl (fun b_1 w_2 h_3 => ?_)
  refine WL.q (Wn.no rfl) rfl rfl (R.assign (v := (.slice none 0 0)) rfl) ?_
  refine WL.nil ?_
  refine thn_n ?_
  refine WP.seq ?_
  refine WP.drawT (SL w.heap.size [.blk b_1 .nw 103 [(1, [(vi kd)]), (32, key.map vu8), (1, [(vi dm)]), (1, [(.slice qa qn qc)])], .view qa (data.map vu8)]) (.q 0 (.q 1 (.q 2 (.q 4 (.q 5 (.s 3 (.s 6 (.q 7 .nil)))))))) (by kernel_rfl) (by kernel_rfl) rfl (by kernel_rfl) (fun w_4 hc_6 => (SL.cons ((h_3.same hc_6).ok _ (.head _)) (SL.cons ((h_3.same hc_6).ok _ (.tail _ (.head _))) (SL.nil _ _)))) (fun w_4 hc_6 => ?_)
  have h_5 := h_3.same hc_6
  refine WT.q rfl (Wn.no rfl) rfl rfl (fun wq hS => R.fieldAddr (b := b_1) (off := 0) (off' := 0) rfl Try.underlying103 rfl Try.sizeOf101 rfl rfl) ?_
  refine WT.q rfl (Wn.no rfl) rfl rfl (fun wq hS => R.load1 (b := b_1) (off := 0) (v := (vi kd)) rfl Try.isAgg101 (hS _ (.head _)) Sg.h) ?_
  refine WT.q rfl (Wn.no rfl) rfl rfl (fun wq hS => R.conv (b := ((i2u8 kd) : UInt8).toNat) rfl Try.underlying101 Try.underlying5 (i2u8_w (by omega))) ?_
  refine WT.q rfl (Wn.no rfl) rfl rfl (fun wq hS => R.fieldAddr (b := b_1) (off := 0) (off' := 1) rfl Try.underlying103 rfl Try.sizeOf23 rfl rfl) ?_
  refine WT.q rfl (Wn.no rfl) rfl rfl (fun wq hS => R.sliceA (b := b_1) (off := 1) (off' := 1) (l := 0) (h := 32) rfl EvB.dflt EvB.dflt (by decide) (by decide) Try.underlying23 Try.sizeOf5 rfl) ?_
  refine WT.s ?_
  refine Op1.one rfl (Wn.no rfl) ?_
  refine WL.buildSl (vs := [(0, (vu8 (i2u8 kd)))]) (cs := ([i2u8 kd] : List UInt8).map vu8) h_5 Try.underlying37 Try.sizeOf5 (zv Try.typeInfo5 rfl) rfl rfl (by kernel_rfl) rfl (one_u8 _) rfl rfl (fun b_7 w_8 h_9 => ?_)
  refine WL.nil ?_
  refine ⟨(SL.cons (h_9.ok _ (.tail _ (.head _))) (SL.cons (h_9.ok _ (.tail _ (.tail _ (.head _)))) (SL.nil _ _))), ?_⟩
  refine WT.s ?_
  refine Op1.one rfl (Wn.no rfl) ?_
  have h_10 := HP.blkRow (m := 1) (s := 1) h_9 At.h rfl (by simp only [maxLen]; decide)
  refine WL.append (km := 33) (xs := ([i2u8 kd] : List UInt8).map vu8) (ys := key.map vu8) (zs := (([i2u8 kd] : List UInt8) ++ key).map vu8) h_10 rfl rfl el37 (viewB (h_10.ok _ (.tail _ (.head _))) (Sg.t rfl Sg.h)) ((len_map hq.1).trans (Nat.mul_one _).symm) (one_u8 _) (by simp only [List.map_append, List.map_nil]) rfl (by omega) (by omega) (fun _ _ => At.h) rfl (fun a_11 c_12 w_13 h_14 => ?_)
  refine WL.nil ?_
  refine ⟨(SL.cons (h_14.ok _ (.tail _ (.head _))) (SL.cons (h_14.ok _ (.tail _ (.tail _ (.head _)))) (SL.nil _ _))), ?_⟩
  refine WT.q rfl (Wn.no rfl) rfl rfl (fun wq hS => R.assign (v := (.slice a_11 33 c_12)) rfl) ?_
  refine WT.nil ?_
  refine thn_n ?_
  refine WP.seq ?_
  refine WP.drawT (SL w.heap.size [.blk b_1 .nw 103 [(1, [(vi kd)]), (32, key.map vu8), (1, [(vi dm)]), (1, [(.slice qa qn qc)])], .view qa (data.map vu8)]) (.q 0 (.q 1 (.q 2 (.q 3 (.q 6 (.q 7 (.s 4 (.s 5 (.s 8 (.q 9 .nil)))))))))) (by kernel_rfl) (by kernel_rfl) rfl (by kernel_rfl) (fun w_15 hc_17 => (SL.cons ((h_14.same hc_17).ok _ (.tail _ (.head _))) (SL.cons ((h_14.same hc_17).ok _ (.tail _ (.tail _ (.head _)))) (SL.nil _ _)))) (fun w_15 hc_17 => ?_)
  have h_16 := h_14.same hc_17
  refine WT.q rfl (Wn.no rfl) rfl rfl (fun wq hS => R.move (v := (.slice a_11 33 c_12)) rfl) ?_
  refine WT.q rfl (Wn.no rfl) rfl rfl (fun wq hS => R.fieldAddr (b := b_1) (off := 0) (off' := 33) rfl Try.underlying103 rfl Try.sizeOf56 rfl rfl) ?_
  refine WT.q rfl (Wn.no rfl) rfl rfl (fun wq hS => R.load1 (b := b_1) (off := 33) (v := (vi dm)) rfl Try.isAgg56 (hS _ (.head _)) (Sg.t rfl (Sg.t rfl Sg.h))) ?_
  refine WT.q rfl (Wn.no rfl) rfl rfl (fun wq hS => R.conv (b := ((i2u8 dm) : UInt8).toNat) rfl Try.underlying56 Try.underlying5 (i2u8_w (by omega))) ?_
  refine WT.q rfl (Wn.no rfl) rfl rfl (fun wq hS => R.fieldAddr (b := b_1) (off := 0) (off' := 34) rfl Try.underlying103 rfl Try.sizeOf37 rfl rfl) ?_
  refine WT.q rfl (Wn.no rfl) rfl rfl (fun wq hS => R.load1 (b := b_1) (off := 34) (v := (.slice qa qn qc)) rfl Try.isAgg37 (hS _ (.head _)) (Sg.t rfl (Sg.t rfl (Sg.t rfl Sg.h)))) ?_
  refine WT.s ?_
  refine Op1.one rfl (Wn.no rfl) ?_
  refine WL.buildSl (vs := [(0, (vu8 (i2u8 dm)))]) (cs := ([i2u8 dm] : List UInt8).map vu8) h_16 Try.underlying37 Try.sizeOf5 (zv Try.typeInfo5 rfl) rfl rfl (by kernel_rfl) rfl (one_u8 _) rfl rfl (fun b_18 w_19 h_20 => ?_)
  refine WL.nil ?_
  refine ⟨(SL.cons (h_20.ok _ (.tail _ (.tail _ (.head _)))) (SL.cons (h_20.ok _ (.tail _ (.tail _ (.tail _ (.head _))))) (SL.nil _ _))), ?_⟩
  refine WT.s ?_
  refine Op1.one rfl (Wn.no rfl) ?_
  refine WL.append (km := 34) (xs := (([i2u8 kd] : List UInt8) ++ key).map vu8) (ys := ([i2u8 dm] : List UInt8).map vu8) (zs := ((([i2u8 kd] : List UInt8) ++ key) ++ ([i2u8 dm] : List UInt8)).map vu8) h_20 rfl rfl el37 (viewB (h_20.ok _ (.head _)) Sg.h) ((len_map (rfl : List.length ([i2u8 dm] : List UInt8) = 1)).trans (Nat.mul_one _).symm) (one_u8 _) (by simp only [List.map_append, List.map_nil]) rfl (by omega) (by omega) (fun _ _ => (At.t At.h)) rfl (fun a_21 c_22 w_23 h_24 => ?_)
  refine WL.nil ?_
  refine ⟨(SL.cons (h_24.ok _ (.tail _ (.tail _ (.head _)))) (SL.cons (h_24.ok _ (.tail _ (.tail _ (.tail _ (.head _))))) (SL.nil _ _))), ?_⟩
  refine WT.s ?_
  refine Op1.one rfl (Wn.no rfl) ?_
  refine WL.append (km := 34 + qn) (xs := ((([i2u8 kd] : List UInt8) ++ key) ++ ([i2u8 dm] : List UInt8)).map vu8) (ys := data.map vu8) (zs := (((([i2u8 kd] : List UInt8) ++ key) ++ ([i2u8 dm] : List UInt8)) ++ data).map vu8) h_24 rfl rfl el37 (viewV (h_24.ok _ (.tail _ (.tail _ (.tail _ (.head _)))))) ((len_map hdl).trans (Nat.mul_one _).symm) (one_u8 _) (by simp only [List.map_append, List.map_nil]) (by omega) (by omega) (by omega) (fun _ _ => (At.t At.h)) rfl (fun a_25 c_26 w_27 h_28 => ?_)
  refine WL.nil ?_
  refine ⟨(SL.cons (h_28.ok _ (.tail _ (.tail _ (.head _)))) (SL.cons (h_28.ok _ (.tail _ (.tail _ (.tail _ (.head _))))) (SL.nil _ _))), ?_⟩
  refine WT.q rfl (Wn.no rfl) rfl rfl (fun wq hS => R.assign (v := (.slice a_25 (34 + qn) c_26)) rfl) ?_
  refine WT.nil ?_
  refine thn_n ?_
  refine WP.ret ?_
  refine ret_of Try.results82 (RV.tmp (v := (.slice a_25 (34 + qn) c_26)) rfl RV.nil) ?_
  exact ⟨_, _, by first | rfl | exact congrArg (fun n => Value.slice _ n _) (by omega), h_28.chgS, by first | exact h_28.ok _ (.tail _ (.head _)) | (have hx := h_28.own (.tail _ (.head _)); rwa [show 34 + qn = 34 + qn by omega] at hx)⟩

theorem c_oCl (kd dm : Int) (key data : List UInt8) (qa : Option Addr) (qn qc : Nat) (hq : okQ (kd, key, dm, data)) (hdl : data.length = qn) (bq : Nat) (w : World) (hv : View w qa (data.map vu8)) (hcb : (Ent.blk bq .ro 103 [(1, [(vi kd)]), (32, key.map vu8), (1, [(vi dm)]), (1, [(.slice qa qn qc)])]).ok w.heap.size w) :
    Cs Try.prog 80 [(.pointer (some ⟨bq, 0, none⟩))].toArray w (fun v w1 => v = (.agg ⟨(cF (kd, key, dm, data)).map vu8⟩) ∧ Chg w w1 []) := by
  have hk1 : 1 ≤ kd ∧ kd ≤ 4 := hq.2.1
  have hd1 : 1 ≤ dm ∧ dm ≤ 16 := hq.2.2.1
  have hqn : data.length ≤ 1000000000 := hq.2.2.2
  refine Cs.of (n := 13) (args := [(.pointer (some ⟨bq, 0, none⟩))]) Try.func80 rfl rfl rfl ?_
  have h_0 := HP.init w
  have h_01 := h_0.oldV (View.arg hv) rfl (by simp [Ent.mut])
  have h_00 := h_01.oldV hcb rfl (by simp [Ent.mut])
  refine WP.seq ?_
  refine WP.reg ?_
  refine WL.alloc (segs := [(32, (List.replicate 32 (0 : UInt8)).map vu8)]) h_00 (zv Try.typeInfo23 rfl) rfl (SsOk.cons (SOk.u8 (List.length_replicate ..)) SsOk.nil) rfl (fun b_1 w_2 h_3 => ?_)
  refine WL.nil ?_
  refine thn_n ?_
  refine WP.seq ?_
  refine WP.seq ?_
  refine WP.reg ?_
  refine WL.q (Wn.no rfl) rfl rfl (R.fieldAddr (b := bq) (off := 0) (off' := 0) rfl Try.underlying103 rfl Try.sizeOf101 rfl rfl) ?_
  refine WL.q (Wn.no rfl) rfl rfl (R.load1 (b := bq) (off := 0) (v := (vi kd)) rfl Try.isAgg101 (h_3.ok _ (.tail _ (.head _))) Sg.h) ?_
  refine WL.q (Wn.no rfl) rfl rfl (R.bin (v := (.bool (decide ((kd : Int) = 1)))) rfl rfl (bi_eql (r := decide ((kd : Int) = 1)) rfl)) ?_
  refine WL.nil ?_
  refine thn_n ?_
  refine WP.cond (b := decide ((kd : Int) = 1)) rfl (fun c_4 => ?_) (fun c_4 => ?_)
  · have p_5 := of_decide_eq_true c_4
    refine WP.seq ?_
    refine WP.reg ?_
    refine WL.q (Wn.no rfl) rfl rfl (R.loadA (b := bq) (off := 0) [] [(1, [(vi kd)]), (32, key.map vu8), (1, [(vi dm)]), (1, [(.slice qa qn qc)])] [] (cs := flat [(1, [(vi kd)]), (32, key.map vu8), (1, [(vi dm)]), (1, [(.slice qa qn qc)])]) rfl Try.isAgg103 Try.sizeOf103 (h_3.ok _ (.tail _ (.head _))) rfl rfl rfl rfl) ?_
    refine WL.call (al := [(.agg ⟨flat [(1, [(vi kd)]), (32, key.map vu8), (1, [(vi dm)]), (1, [(.slice qa qn qc)])]⟩)]) Try.call82 rfl rfl (c_oText kd dm key data qa qn qc hq hdl _ (viewV (h_3.ok _ (.tail _ (.tail _ (.head _)))))) rfl ?_
    rintro _ w_8 ⟨a_6, cap_7, rfl, hc_9, ho_10⟩
    have h_11 := h_3.gotRow hc_9 ho_10
    refine WL.call (al := [(.slice a_6 (34 + qn) cap_7)]) Try.call81 rfl rfl (c_Sum a_6 (34 + qn) cap_7 (cT (kd, key, dm, data)) (cT_len hq hdl) (by omega) (h_11.own (.head _)).2.2.1 _ (ownView (h_11.ok _ (.head _)))) rfl ?_
    rintro _ w_13 ⟨rfl, hc_12⟩
    have h_14 := h_11.same hc_12
    refine WL.storeA (b := b_1) (off := 0) [] [(32, (List.replicate 32 (0 : UInt8)).map vu8)] [(32, (sumL (cT (kd, key, dm, data))).map vu8)] [] (ys := (sumL (cT (kd, key, dm, data))).map vu8) h_14 rfl rfl Try.sizeOf23 (At.t At.h) (by decide) rfl rfl rfl rfl rfl rfl (SsOk.cons (SOk.u8 (sumL_len _)) SsOk.nil) (fun w_15 h_16 => ?_)
    refine WL.nil ?_
    refine thn_n ?_
    refine WP.ret ?_
    refine thn_r ?_
    refine ret_of Try.results80 (RV.cell rfl (h_16.loadA (cs := (sumL (cT (kd, key, dm, data))).map vu8) Try.isAgg23 Try.sizeOf23 (.tail _ (.head _)) rfl rfl) RV.nil) ?_
    exact ⟨by rw [cF, if_pos p_5]; rfl, h_16.chgS⟩
  · have p_17 := of_decide_eq_false c_4
    refine WP.skip ?_
    refine thn_n ?_
    refine WP.seq ?_
    refine WP.drawZ 5 (SL w.heap.size [.blk b_1 .nw 23 [(32, (List.replicate 32 (0 : UInt8)).map vu8)], .blk bq .ro 103 [(1, [(vi kd)]), (32, key.map vu8), (1, [(vi dm)]), (1, [(.slice qa qn qc)])], .view qa (data.map vu8)]) (.q 0 (.q 1 (.q 2 (.s 3 (.s 4 (.s 5 .nil)))))) (by kernel_rfl) (by kernel_rfl) rfl (by kernel_rfl) (fun w_18 hc_20 => (SL.cons ((h_3.same hc_20).ok _ (.head _)) (SL.cons ((h_3.same hc_20).ok _ (.tail _ (.head _))) (SL.cons ((h_3.same hc_20).ok _ (.tail _ (.tail _ (.head _)))) (SL.nil _ _))))) (fun w_18 hc_20 => ?_)
    have h_19 := h_3.same hc_20
    refine ZT.q rfl (Wn.no rfl) rfl rfl (fun wq hS => R.fieldAddr (b := bq) (off := 0) (off' := 1) rfl Try.underlying103 rfl Try.sizeOf23 rfl rfl) ?_
    refine ZT.q rfl (Wn.no rfl) rfl rfl (fun wq hS => R.sliceA (b := bq) (off := 1) (off' := 1) (l := 0) (h := 32) rfl EvB.dflt EvB.dflt (by decide) (by decide) Try.underlying23 Try.sizeOf5 rfl) ?_
    refine ZT.q rfl (Wn.no rfl) rfl rfl (fun wq hS => R.loadA (b := bq) (off := 0) [] [(1, [(vi kd)]), (32, key.map vu8), (1, [(vi dm)]), (1, [(.slice qa qn qc)])] [] (cs := flat [(1, [(vi kd)]), (32, key.map vu8), (1, [(vi dm)]), (1, [(.slice qa qn qc)])]) rfl Try.isAgg103 Try.sizeOf103 (hS _ (.tail _ (.head _))) rfl rfl rfl rfl) ?_
    refine ZT.s ?_
    refine OpZ.one rfl (Wn.no rfl) ?_
    refine WL.call (al := [(.agg ⟨flat [(1, [(vi kd)]), (32, key.map vu8), (1, [(vi dm)]), (1, [(.slice qa qn qc)])]⟩)]) Try.call82 rfl rfl (c_oText kd dm key data qa qn qc hq hdl _ (viewV (h_19.ok _ (.tail _ (.tail _ (.head _)))))) rfl ?_
    rintro _ w_23 ⟨a_21, cap_22, rfl, hc_24, ho_25⟩
    have h_26 := h_19.gotRow hc_24 ho_25
    refine WL.nil ?_
    refine ⟨(SL.cons (h_26.ok _ (.tail _ (.head _))) (SL.cons (h_26.ok _ (.tail _ (.tail _ (.head _)))) (SL.cons (h_26.ok _ (.tail _ (.tail _ (.tail _ (.head _))))) (SL.nil _ _)))), ?_⟩
    refine ZT.s ?_
    refine OpZ.one rfl (Wn.no rfl) ?_
    refine WL.call (al := [(.slice (some ⟨bq, 1, none⟩) 32 32), (.slice a_21 (34 + qn) cap_22)]) Try.call83 rfl rfl (c_Tag (some ⟨bq, 1, none⟩) 32 32 key hq.1 (by decide) (by decide) a_21 (34 + qn) cap_22 (cT (kd, key, dm, data)) (cT_len hq hdl) (h_26.own (.head _)).2.2.1 (by omega) _ (viewB (h_26.ok _ (.tail _ (.tail _ (.head _)))) (Sg.t rfl Sg.h)) (ownView (h_26.ok _ (.head _)))) rfl ?_
    rintro _ w_28 ⟨rfl, hc_27⟩
    have h_29 := h_26.same hc_27
    refine WL.nil ?_
    refine ⟨(SL.cons (h_29.ok _ (.tail _ (.head _))) (SL.cons (h_29.ok _ (.tail _ (.tail _ (.head _)))) (SL.cons (h_29.ok _ (.tail _ (.tail _ (.tail _ (.head _))))) (SL.nil _ _)))), ?_⟩
    refine ZT.s ?_
    refine OpZ.last rfl (Wn.no rfl) ?_
    refine WL.storeA (b := b_1) (off := 0) [] [(32, (List.replicate 32 (0 : UInt8)).map vu8)] [(32, (tagL key (cT (kd, key, dm, data))).map vu8)] [] (ys := (tagL key (cT (kd, key, dm, data))).map vu8) h_29 rfl rfl Try.sizeOf23 (At.t At.h) (by decide) rfl rfl rfl rfl rfl rfl (SsOk.cons (SOk.u8 (tagL_len _ _)) SsOk.nil) (fun w_30 h_31 => ?_)
    refine WL.nil ?_
    refine ZT.nil ?_
    refine thn_n ?_
    refine WP.ret ?_
    refine ret_of Try.results80 (RV.cell rfl (h_31.loadA (cs := (tagL key (cT (kd, key, dm, data))).map vu8) Try.isAgg23 Try.sizeOf23 (.tail _ (.head _)) rfl rfl) RV.nil) ?_
    exact ⟨by rw [cF, if_neg p_17]; rfl, h_31.chgS⟩

theorem c_ans_hit {w00 : World} {L : List Ent} (id : Bool) (ob mp : Nat) (ms df : List UInt8) (hms : ms.length = 32) (da : Option Addr) (dn dc u : Nat) (hdf : df.length = 32 * dn) (la : Option Addr) (lc : Nat) (lx : List Value) (lg : Lg) (hu : u ≤ 1000000) (hlg : lg.length ≤ 1000000) (kd dm : Int) (key data : List UInt8) (qa : Option Addr) (qn qc : Nat) (hq : okQ (kd, key, dm, data)) (hdl : data.length = qn) (cv : Value) (i : Nat) (hfd : fdq (kd, key, dm, data) lg 0 = some i) (w : World) (h_0 : HP w00 w (Ent.blk ob .nw 50 [(1, [(.bool id)]), (32, ms.map vu8), (1, [(.slice da dn dc)]), (1, [(vi ((u : Nat) : Int))]), (1, [(.map (some mp))]), (1, [(.slice la lg.length lc)])] :: Ent.row la lg.length lc 111 67 lx :: Ent.obj mp .nw (.map (mArr lg) lg.length) :: Ent.pin (sblks lx) (fun w => Lgs w lx lg) :: Ent.view da (df.map vu8) :: Ent.view qa (data.map vu8) :: L)) :
    Cs Try.prog 79 [(.pointer (some ⟨ob, 0, none⟩)), (.agg ⟨flat [(1, [(vi kd)]), (32, key.map vu8), (1, [(vi dm)]), (1, [(.slice qa qn qc)])]⟩), cv].toArray w (fun v w1 => ∃ la' lc' lx', v = (.agg ⟨(anD id df dn u lg (kd, key, dm, data)).map vu8⟩) ∧ HP w00 w1 (Ent.blk ob .nw 50 [(1, [(.bool id)]), (32, ms.map vu8), (1, [(.slice da dn dc)]), (1, [(vi (((anU id u lg (kd, key, dm, data)) : Nat) : Int))]), (1, [(.map (some mp))]), (1, [(.slice la' ((anL id df dn u lg (kd, key, dm, data)).length) lc')])] :: Ent.row la' ((anL id df dn u lg (kd, key, dm, data)).length) lc' 111 67 lx' :: Ent.obj mp .nw (.map (mArr (anL id df dn u lg (kd, key, dm, data))) ((anL id df dn u lg (kd, key, dm, data)).length)) :: Ent.pin (sblks lx') (fun w => Lgs w lx' (anL id df dn u lg (kd, key, dm, data))) :: Ent.view da (df.map vu8) :: Ent.view qa (data.map vu8) :: L)) := by
  have hlgs : Lgs w lx lg := (h_0.ok _ (.tail _ (.tail _ (.tail _ (.head _))))).1
  have hlo := hlgs.ok
  have hqn : data.length ≤ 1000000000 := hq.2.2.2
  have hil : i < lg.length := by have := fdq_lt hfd; omega
  refine Cs.of (n := 74) (args := [(.pointer (some ⟨ob, 0, none⟩)), (.agg ⟨flat [(1, [(vi kd)]), (32, key.map vu8), (1, [(vi dm)]), (1, [(.slice qa qn qc)])]⟩), cv]) Try.func79 rfl rfl rfl ?_
  refine WP.seq ?_
  refine WP.reg ?_
  refine WL.box (v := (.agg ⟨flat [(1, [(vi kd)]), (32, key.map vu8), (1, [(vi dm)]), (1, [(.slice qa qn qc)])]⟩)) (segs := [(1, [(vi kd)]), (32, key.map vu8), (1, [(vi dm)]), (1, [(.slice qa qn qc)])]) h_0 rfl rfl (SsOk.cons (SOk.v rfl) (SsOk.cons (SOk.u8 hq.1) (SsOk.cons (SOk.v rfl) (SsOk.cons (SOk.v rfl) SsOk.nil)))) rfl (fun b_1 w_2 h_3 => ?_)
  refine WL.alloc (segs := [(32, (List.replicate 32 (0 : UInt8)).map vu8)]) h_3 (zv Try.typeInfo23 rfl) rfl (SsOk.cons (SOk.u8 (List.length_replicate ..)) SsOk.nil) rfl (fun b_4 w_5 h_6 => ?_)
  refine WL.nil ?_
  refine thn_n ?_
  refine WP.seq ?_
  refine WP.reg ?_
  refine WL.q (Wn.no rfl) rfl rfl (R.fieldAddr (b := b_1) (off := 0) (off' := 0) rfl Try.underlying103 rfl Try.sizeOf101 rfl rfl) ?_
  refine WL.q (Wn.no rfl) rfl rfl (R.load1 (b := b_1) (off := 0) (v := (vi kd)) rfl Try.isAgg101 (h_6.ok _ (.tail _ (.head _))) Sg.h) ?_
  refine WL.q (Wn.no rfl) rfl rfl (R.fieldAddr (b := b_1) (off := 0) (off' := 1) rfl Try.underlying103 rfl Try.sizeOf23 rfl rfl) ?_
  refine WL.q (Wn.no rfl) rfl rfl (R.loadA (b := b_1) (off := 1) [(1, [(vi kd)])] [(32, key.map vu8)] [(1, [(vi dm)]), (1, [(.slice qa qn qc)])] (cs := key.map vu8) rfl Try.isAgg23 Try.sizeOf23 (h_6.ok _ (.tail _ (.head _))) rfl rfl rfl rfl) ?_
  refine WL.q (Wn.no rfl) rfl rfl (R.fieldAddr (b := b_1) (off := 0) (off' := 33) rfl Try.underlying103 rfl Try.sizeOf56 rfl rfl) ?_
  refine WL.q (Wn.no rfl) rfl rfl (R.load1 (b := b_1) (off := 33) (v := (vi dm)) rfl Try.isAgg56 (h_6.ok _ (.tail _ (.head _))) (Sg.t rfl (Sg.t rfl Sg.h))) ?_
  refine WL.q (Wn.no rfl) rfl rfl (R.fieldAddr (b := b_1) (off := 0) (off' := 34) rfl Try.underlying103 rfl Try.sizeOf37 rfl rfl) ?_
  refine WL.q (Wn.no rfl) rfl rfl (R.load1 (b := b_1) (off := 34) (v := (.slice qa qn qc)) rfl Try.isAgg37 (h_6.ok _ (.tail _ (.head _))) (Sg.t rfl (Sg.t rfl (Sg.t rfl Sg.h)))) ?_
  refine WL.q (Wn.no rfl) rfl rfl (R.toStr (bs := data) rfl Try.underlying37 Try.underlying5 Try.underlying9 (viewV (h_6.ok _ (.tail _ (.tail _ (.tail _ (.tail _ (.tail _ (.tail _ (.tail _ (.head _)))))))))) hdl) ?_
  refine WL.q (Wn.no rfl) rfl rfl (R.buildS (pl := [(0, 1), (1, 32), (33, 1), (34, 1)]) (zs := [(1, [(vi 0)]), (32, (List.replicate 32 (0 : UInt8)).map vu8), (1, [(vi 0)]), (1, [(.string (bstr ([] : List UInt8)))])]) (vs := [(0, (vi kd)), (1, (.agg ⟨key.map vu8⟩)), (2, (vi dm)), (3, (.string (bstr data)))]) (out := [(1, [(vi kd)]), (32, key.map vu8), (1, [(vi dm)]), (1, [(.string (bstr data))])]) (cs := flat [(1, [(vi kd)]), (32, key.map vu8), (1, [(vi dm)]), (1, [(.string (bstr data))])]) Try.underlying157 (zv Try.typeInfo157 rfl) rfl (SsOk.cons (SOk.v rfl) (SsOk.cons (SOk.u8 (List.length_replicate ..)) (SsOk.cons (SOk.v rfl) (SsOk.cons (SOk.v rfl) SsOk.nil)))) (pl157 _ Try.underlying157) rfl (FillR.cons [] [(1, [(vi 0)])] [(1, [(vi kd)])] [(32, (List.replicate 32 (0 : UInt8)).map vu8), (1, [(vi 0)]), (1, [(.string (bstr ([] : List UInt8)))])] rfl rfl rfl rfl (SsOk.cons (SOk.v rfl) SsOk.nil) rfl rfl rfl (FillR.cons [(1, [(vi kd)])] [(32, (List.replicate 32 (0 : UInt8)).map vu8)] [(32, key.map vu8)] [(1, [(vi 0)]), (1, [(.string (bstr ([] : List UInt8)))])] rfl rfl rfl rfl (SsOk.cons (SOk.u8 hq.1) SsOk.nil) rfl rfl rfl (FillR.cons [(1, [(vi kd)]), (32, key.map vu8)] [(1, [(vi 0)])] [(1, [(vi dm)])] [(1, [(.string (bstr ([] : List UInt8)))])] rfl rfl rfl rfl (SsOk.cons (SOk.v rfl) SsOk.nil) rfl rfl rfl (FillR.cons [(1, [(vi kd)]), (32, key.map vu8), (1, [(vi dm)])] [(1, [(.string (bstr ([] : List UInt8)))])] [(1, [(.string (bstr data))])] [] rfl rfl rfl rfl (SsOk.cons (SOk.v rfl) SsOk.nil) rfl rfl rfl FillR.nil)))) rfl) ?_
  refine WL.alloc (segs := [(1, [(vi 0)]), (32, (List.replicate 32 (0 : UInt8)).map vu8), (1, [(vi 0)]), (1, [(.string (bstr ([] : List UInt8)))])]) h_6 (zv Try.typeInfo157 rfl) rfl (SsOk.cons (SOk.v rfl) (SsOk.cons (SOk.u8 (List.length_replicate ..)) (SsOk.cons (SOk.v rfl) (SsOk.cons (SOk.v rfl) SsOk.nil)))) rfl (fun b_8 w_9 h_10 => ?_)
  refine WL.storeA (b := b_8) (off := 0) [] [(1, [(vi 0)]), (32, (List.replicate 32 (0 : UInt8)).map vu8), (1, [(vi 0)]), (1, [(.string (bstr ([] : List UInt8)))])] [(1, [(vi kd)]), (32, key.map vu8), (1, [(vi dm)]), (1, [(.string (bstr data))])] [] (ys := flat [(1, [(vi kd)]), (32, key.map vu8), (1, [(vi dm)]), (1, [(.string (bstr data))])]) h_10 rfl rfl Try.sizeOf157 At.h (by decide) rfl rfl rfl rfl rfl rfl (SsOk.cons (SOk.v rfl) (SsOk.cons (SOk.u8 hq.1) (SsOk.cons (SOk.v rfl) (SsOk.cons (SOk.v rfl) SsOk.nil)))) (fun w_11 h_12 => ?_)
  refine WL.nil ?_
  refine thn_n ?_
  refine WP.seq ?_
  refine WP.seq ?_
  refine WP.drawT (SL w00.heap.size [.blk b_8 .nw 157 [(1, [(vi kd)]), (32, key.map vu8), (1, [(vi dm)]), (1, [(.string (bstr data))])], .blk b_4 .nw 23 [(32, (List.replicate 32 (0 : UInt8)).map vu8)], .blk b_1 .nw 103 [(1, [(vi kd)]), (32, key.map vu8), (1, [(vi dm)]), (1, [(.slice qa qn qc)])], .blk ob .nw 50 [(1, [(.bool id)]), (32, ms.map vu8), (1, [(.slice da dn dc)]), (1, [(vi ((u : Nat) : Int))]), (1, [(.map (some mp))]), (1, [(.slice la lg.length lc)])], .row la lg.length lc 111 67 lx, .obj mp .nw (.map (mArr lg) lg.length), .pin (sblks lx) (fun w => Lgs w lx lg), .view da (df.map vu8), .view qa (data.map vu8)]) (.q 0 (.q 1 (.q 2 (.q 3 (.q 4 (.s 5 (.q 6 (.q 7 (.q 8 (.q 9 (.q 10 .nil))))))))))) (by kernel_rfl) (by kernel_rfl) rfl (by kernel_rfl) (fun w_13 hc_15 => (SL.cons ((h_12.same hc_15).ok _ (.head _)) (SL.cons ((h_12.same hc_15).ok _ (.tail _ (.head _))) (SL.cons ((h_12.same hc_15).ok _ (.tail _ (.tail _ (.head _)))) (SL.cons ((h_12.same hc_15).ok _ (.tail _ (.tail _ (.tail _ (.head _))))) (SL.cons ((h_12.same hc_15).ok _ (.tail _ (.tail _ (.tail _ (.tail _ (.head _)))))) (SL.cons ((h_12.same hc_15).ok _ (.tail _ (.tail _ (.tail _ (.tail _ (.tail _ (.head _))))))) (SL.cons ((h_12.same hc_15).ok _ (.tail _ (.tail _ (.tail _ (.tail _ (.tail _ (.tail _ (.head _)))))))) (SL.cons ((h_12.same hc_15).ok _ (.tail _ (.tail _ (.tail _ (.tail _ (.tail _ (.tail _ (.tail _ (.head _))))))))) (SL.cons ((h_12.same hc_15).ok _ (.tail _ (.tail _ (.tail _ (.tail _ (.tail _ (.tail _ (.tail _ (.tail _ (.head _)))))))))) (SL.nil _ _))))))))))) (fun w_13 hc_15 => ?_)
  have h_14 := h_12.same hc_15
  refine WT.q rfl (Wn.no rfl) rfl rfl (fun wq hS => R.move (v := (.pointer (some ⟨ob, 0, none⟩))) rfl) ?_
  refine WT.q rfl (Wn.no rfl) rfl rfl (fun wq hS => R.nilCheck rfl) ?_
  refine WT.q rfl (Wn.no rfl) rfl rfl (fun wq hS => R.fieldAddr (b := ob) (off := 0) (off' := 35) rfl Try.underlying50 rfl Try.sizeOf47 rfl rfl) ?_
  refine WT.q rfl (Wn.no rfl) rfl rfl (fun wq hS => R.load1 (b := ob) (off := 35) (v := (.map (some mp))) rfl Try.isAgg47 (hS _ (.tail _ (.tail _ (.tail _ (.head _))))) (Sg.t rfl (Sg.t rfl (Sg.t rfl (Sg.t rfl Sg.h))))) ?_
  refine WT.q rfl (Wn.no rfl) rfl rfl (fun wq hS => R.loadA (b := b_8) (off := 0) [] [(1, [(vi kd)]), (32, key.map vu8), (1, [(vi dm)]), (1, [(.string (bstr data))])] [] (cs := flat [(1, [(vi kd)]), (32, key.map vu8), (1, [(vi dm)]), (1, [(.string (bstr data))])]) rfl Try.isAgg157 Try.sizeOf157 (hS _ (.head _)) rfl rfl rfl rfl) ?_
  refine WT.s ?_
  refine Op1.one rfl (Wn.no rfl) ?_
  refine WL.q (Wn.no rfl) rfl rfl (R.lookup (r := some (i, vi (i : Int))) (z := (vi 0)) (v := (vi ((i : Nat) : Int))) (ok := true) rfl rfl Try.underlying47 (h_14.ok _ (.tail _ (.tail _ (.tail _ (.tail _ (.tail _ (.head _))))))) (Ck.agg kt157 (by decide) ag157 (typQ (kd, key, dm, data) hq)) (log_hit kt157 (by decide) ag157 typQ hq hlo hfd) (zv Try.typeInfo3 rfl) rfl rfl) ?_
  refine WL.nil ?_
  refine ⟨(SL.cons (h_14.ok _ (.head _)) (SL.cons (h_14.ok _ (.tail _ (.head _))) (SL.cons (h_14.ok _ (.tail _ (.tail _ (.head _)))) (SL.cons (h_14.ok _ (.tail _ (.tail _ (.tail _ (.head _))))) (SL.cons (h_14.ok _ (.tail _ (.tail _ (.tail _ (.tail _ (.head _)))))) (SL.cons (h_14.ok _ (.tail _ (.tail _ (.tail _ (.tail _ (.tail _ (.head _))))))) (SL.cons (h_14.ok _ (.tail _ (.tail _ (.tail _ (.tail _ (.tail _ (.tail _ (.head _)))))))) (SL.cons (h_14.ok _ (.tail _ (.tail _ (.tail _ (.tail _ (.tail _ (.tail _ (.tail _ (.head _))))))))) (SL.cons (h_14.ok _ (.tail _ (.tail _ (.tail _ (.tail _ (.tail _ (.tail _ (.tail _ (.tail _ (.head _)))))))))) (SL.nil _ _)))))))))), ?_⟩
  refine WT.q rfl (Wn.no rfl) rfl rfl (fun wq hS => R.move (v := (.tuple [(vi ((i : Nat) : Int)), (.bool true)].toArray)) rfl) ?_
  refine WT.q rfl (Wn.no rfl) rfl rfl (fun wq hS => R.extract (l := [(vi ((i : Nat) : Int)), (.bool true)]) (v := (vi ((i : Nat) : Int))) rfl rfl) ?_
  refine WT.q rfl (Wn.no rfl) rfl rfl (fun wq hS => R.extract (l := [(vi ((i : Nat) : Int)), (.bool true)]) (v := (.bool true)) rfl rfl) ?_
  refine WT.q rfl (Wn.no rfl) rfl rfl (fun wq hS => R.assign (v := (vi ((i : Nat) : Int))) rfl) ?_
  refine WT.q rfl (Wn.no rfl) rfl rfl (fun wq hS => R.assign (v := (.bool true)) rfl) ?_
  refine WT.nil ?_
  refine thn_n ?_
  refine WP.seq ?_
  refine WP.reg ?_
  refine WL.q (Wn.no rfl) rfl rfl (R.move (v := (.bool true)) rfl) ?_
  refine WL.nil ?_
  refine thn_n ?_
  refine WP.condT rfl ?_
  refine WP.seq ?_
  refine WP.reg ?_
  refine WL.q (Wn.no rfl) rfl rfl (R.move (v := (.pointer (some ⟨ob, 0, none⟩))) rfl) ?_
  refine WL.q (Wn.no rfl) rfl rfl (R.nilCheck rfl) ?_
  refine WL.q (Wn.no rfl) rfl rfl (R.fieldAddr (b := ob) (off := 0) (off' := 36) rfl Try.underlying50 rfl Try.sizeOf48 rfl rfl) ?_
  refine WL.q (Wn.no rfl) rfl rfl (R.load1 (b := ob) (off := 36) (v := (.slice la lg.length lc)) rfl Try.isAgg48 (h_14.ok _ (.tail _ (.tail _ (.tail _ (.head _))))) (Sg.t rfl (Sg.t rfl (Sg.t rfl (Sg.t rfl (Sg.t rfl Sg.h)))))) ?_
  refine WL.q (Wn.no rfl) rfl rfl (R.move (v := (vi ((i : Nat) : Int))) rfl) ?_
  refine WL.q (Wn.no rfl) rfl rfl (R.indexS (a := la) (i := i) (off := i * 67) (xs := lx) rfl rfl rfl (by omega) (ownView (h_14.ok _ (.tail _ (.tail _ (.tail _ (.tail _ (.head _))))))) (by rw [Lgs.len hlgs]; omega) Try.underlying48 Try.sizeOf111 rfl) ?_
  refine WL.q (Wn.no rfl) rfl rfl (R.fieldG (a := la) (i := i * 67) (off' := i * 67 + 35) rfl Try.underlying111 rfl Try.sizeOf23 rfl rfl) ?_
  refine WL.q (Wn.no rfl) rfl rfl (R.loadGA (a := la) (i := i * 67 + 35) (xs := lx) (cs := ((lg.getD i ((kd, key, dm, data), [])).2).map vu8) rfl (ownView (h_14.ok _ (.tail _ (.tail _ (.tail _ (.tail _ (.head _))))))) Try.isAgg23 Try.sizeOf23 (Lgs.ans (z := ((kd, key, dm, data), [])) hlgs (i := i) hil).1 (len_map (Lgs.ans (z := ((kd, key, dm, data), [])) hlgs (i := i) hil).2) (by decide)) ?_
  refine WL.storeA (b := b_4) (off := 0) [] [(32, (List.replicate 32 (0 : UInt8)).map vu8)] [(32, ((lg.getD i ((kd, key, dm, data), [])).2).map vu8)] [] (ys := ((lg.getD i ((kd, key, dm, data), [])).2).map vu8) h_14 rfl rfl Try.sizeOf23 (At.t At.h) (by decide) rfl rfl rfl rfl rfl rfl (SsOk.cons (SOk.u8 ((Lgs.ans (z := ((kd, key, dm, data), [])) hlgs (i := i) hil).2)) SsOk.nil) (fun w_16 h_17 => ?_)
  refine WL.nil ?_
  refine thn_n ?_
  refine WP.ret ?_
  refine thn_r ?_
  refine ret_of Try.results79 (RV.cell rfl (h_17.loadA (cs := ((lg.getD i ((kd, key, dm, data), [])).2).map vu8) Try.isAgg23 Try.sizeOf23 (.tail _ (.head _)) rfl rfl) RV.nil) ?_
  have h_18 := h_17.drop rfl
  have h_19 := h_18.drop rfl
  have h_20 := h_19.drop rfl
  have h_21 := h_20.up (Pick.t (Pick.t (Pick.t (Pick.t (Pick.t Pick.h)))))
  have h_22 := h_21.up (Pick.t (Pick.t (Pick.t (Pick.t (Pick.t Pick.h)))))
  have h_23 := h_22.up (Pick.t (Pick.t (Pick.t (Pick.t (Pick.t Pick.h)))))
  have h_24 := h_23.up (Pick.t (Pick.t (Pick.t (Pick.t (Pick.t Pick.h)))))
  have h_25 := h_24.up (Pick.t (Pick.t (Pick.t (Pick.t (Pick.t Pick.h)))))
  have h_26 := h_25.up (Pick.t (Pick.t (Pick.t (Pick.t (Pick.t Pick.h)))))
  exact ⟨la, lc, lx, by rw [anD_hit hfd]; rfl, by rw [anU_hit hfd, anL_hit hfd]; exact h_26⟩

theorem c_ans_missT {w00 : World} {L : List Ent} (ob mp : Nat) (ms df : List UInt8) (hms : ms.length = 32) (da : Option Addr) (dn dc u : Nat) (hdf : df.length = 32 * dn) (la : Option Addr) (lc : Nat) (lx : List Value) (lg : Lg) (hu : u ≤ 1000000) (hlg : lg.length ≤ 1000000) (kd dm : Int) (key data : List UInt8) (qa : Option Addr) (qn qc : Nat) (hq : okQ (kd, key, dm, data)) (hdl : data.length = qn) (cv : Value) (hfd : fdq (kd, key, dm, data) lg 0 = none) (w : World) (h_0 : HP w00 w (Ent.blk ob .nw 50 [(1, [(.bool true)]), (32, ms.map vu8), (1, [(.slice da dn dc)]), (1, [(vi ((u : Nat) : Int))]), (1, [(.map (some mp))]), (1, [(.slice la lg.length lc)])] :: Ent.row la lg.length lc 111 67 lx :: Ent.obj mp .nw (.map (mArr lg) lg.length) :: Ent.pin (sblks lx) (fun w => Lgs w lx lg) :: Ent.view da (df.map vu8) :: Ent.view qa (data.map vu8) :: L)) :
    Cs Try.prog 79 [(.pointer (some ⟨ob, 0, none⟩)), (.agg ⟨flat [(1, [(vi kd)]), (32, key.map vu8), (1, [(vi dm)]), (1, [(.slice qa qn qc)])]⟩), cv].toArray w (fun v w1 => ∃ la' lc' lx', v = (.agg ⟨(anD true df dn u lg (kd, key, dm, data)).map vu8⟩) ∧ HP w00 w1 (Ent.blk ob .nw 50 [(1, [(.bool true)]), (32, ms.map vu8), (1, [(.slice da dn dc)]), (1, [(vi (((anU true u lg (kd, key, dm, data)) : Nat) : Int))]), (1, [(.map (some mp))]), (1, [(.slice la' ((anL true df dn u lg (kd, key, dm, data)).length) lc')])] :: Ent.row la' ((anL true df dn u lg (kd, key, dm, data)).length) lc' 111 67 lx' :: Ent.obj mp .nw (.map (mArr (anL true df dn u lg (kd, key, dm, data))) ((anL true df dn u lg (kd, key, dm, data)).length)) :: Ent.pin (sblks lx') (fun w => Lgs w lx' (anL true df dn u lg (kd, key, dm, data))) :: Ent.view da (df.map vu8) :: Ent.view qa (data.map vu8) :: L)) := by
  have hlgs : Lgs w lx lg := (h_0.ok _ (.tail _ (.tail _ (.tail _ (.head _))))).1
  have hlo := hlgs.ok
  have hqn : data.length ≤ 1000000000 := hq.2.2.2
  refine Cs.of (n := 74) (args := [(.pointer (some ⟨ob, 0, none⟩)), (.agg ⟨flat [(1, [(vi kd)]), (32, key.map vu8), (1, [(vi dm)]), (1, [(.slice qa qn qc)])]⟩), cv]) Try.func79 rfl rfl rfl ?_
  refine WP.seq ?_
  refine WP.reg ?_
  refine WL.box (v := (.agg ⟨flat [(1, [(vi kd)]), (32, key.map vu8), (1, [(vi dm)]), (1, [(.slice qa qn qc)])]⟩)) (segs := [(1, [(vi kd)]), (32, key.map vu8), (1, [(vi dm)]), (1, [(.slice qa qn qc)])]) h_0 rfl rfl (SsOk.cons (SOk.v rfl) (SsOk.cons (SOk.u8 hq.1) (SsOk.cons (SOk.v rfl) (SsOk.cons (SOk.v rfl) SsOk.nil)))) rfl (fun b_1 w_2 h_3 => ?_)
  refine WL.alloc (segs := [(32, (List.replicate 32 (0 : UInt8)).map vu8)]) h_3 (zv Try.typeInfo23 rfl) rfl (SsOk.cons (SOk.u8 (List.length_replicate ..)) SsOk.nil) rfl (fun b_4 w_5 h_6 => ?_)
  refine WL.nil ?_
  refine thn_n ?_
  refine WP.seq ?_
  refine WP.reg ?_
  refine WL.q (Wn.no rfl) rfl rfl (R.fieldAddr (b := b_1) (off := 0) (off' := 0) rfl Try.underlying103 rfl Try.sizeOf101 rfl rfl) ?_
  refine WL.q (Wn.no rfl) rfl rfl (R.load1 (b := b_1) (off := 0) (v := (vi kd)) rfl Try.isAgg101 (h_6.ok _ (.tail _ (.head _))) Sg.h) ?_
  refine WL.q (Wn.no rfl) rfl rfl (R.fieldAddr (b := b_1) (off := 0) (off' := 1) rfl Try.underlying103 rfl Try.sizeOf23 rfl rfl) ?_
  refine WL.q (Wn.no rfl) rfl rfl (R.loadA (b := b_1) (off := 1) [(1, [(vi kd)])] [(32, key.map vu8)] [(1, [(vi dm)]), (1, [(.slice qa qn qc)])] (cs := key.map vu8) rfl Try.isAgg23 Try.sizeOf23 (h_6.ok _ (.tail _ (.head _))) rfl rfl rfl rfl) ?_
  refine WL.q (Wn.no rfl) rfl rfl (R.fieldAddr (b := b_1) (off := 0) (off' := 33) rfl Try.underlying103 rfl Try.sizeOf56 rfl rfl) ?_
  refine WL.q (Wn.no rfl) rfl rfl (R.load1 (b := b_1) (off := 33) (v := (vi dm)) rfl Try.isAgg56 (h_6.ok _ (.tail _ (.head _))) (Sg.t rfl (Sg.t rfl Sg.h))) ?_
  refine WL.q (Wn.no rfl) rfl rfl (R.fieldAddr (b := b_1) (off := 0) (off' := 34) rfl Try.underlying103 rfl Try.sizeOf37 rfl rfl) ?_
  refine WL.q (Wn.no rfl) rfl rfl (R.load1 (b := b_1) (off := 34) (v := (.slice qa qn qc)) rfl Try.isAgg37 (h_6.ok _ (.tail _ (.head _))) (Sg.t rfl (Sg.t rfl (Sg.t rfl Sg.h)))) ?_
  refine WL.q (Wn.no rfl) rfl rfl (R.toStr (bs := data) rfl Try.underlying37 Try.underlying5 Try.underlying9 (viewV (h_6.ok _ (.tail _ (.tail _ (.tail _ (.tail _ (.tail _ (.tail _ (.tail _ (.head _)))))))))) hdl) ?_
  refine WL.q (Wn.no rfl) rfl rfl (R.buildS (pl := [(0, 1), (1, 32), (33, 1), (34, 1)]) (zs := [(1, [(vi 0)]), (32, (List.replicate 32 (0 : UInt8)).map vu8), (1, [(vi 0)]), (1, [(.string (bstr ([] : List UInt8)))])]) (vs := [(0, (vi kd)), (1, (.agg ⟨key.map vu8⟩)), (2, (vi dm)), (3, (.string (bstr data)))]) (out := [(1, [(vi kd)]), (32, key.map vu8), (1, [(vi dm)]), (1, [(.string (bstr data))])]) (cs := flat [(1, [(vi kd)]), (32, key.map vu8), (1, [(vi dm)]), (1, [(.string (bstr data))])]) Try.underlying157 (zv Try.typeInfo157 rfl) rfl (SsOk.cons (SOk.v rfl) (SsOk.cons (SOk.u8 (List.length_replicate ..)) (SsOk.cons (SOk.v rfl) (SsOk.cons (SOk.v rfl) SsOk.nil)))) (pl157 _ Try.underlying157) rfl (FillR.cons [] [(1, [(vi 0)])] [(1, [(vi kd)])] [(32, (List.replicate 32 (0 : UInt8)).map vu8), (1, [(vi 0)]), (1, [(.string (bstr ([] : List UInt8)))])] rfl rfl rfl rfl (SsOk.cons (SOk.v rfl) SsOk.nil) rfl rfl rfl (FillR.cons [(1, [(vi kd)])] [(32, (List.replicate 32 (0 : UInt8)).map vu8)] [(32, key.map vu8)] [(1, [(vi 0)]), (1, [(.string (bstr ([] : List UInt8)))])] rfl rfl rfl rfl (SsOk.cons (SOk.u8 hq.1) SsOk.nil) rfl rfl rfl (FillR.cons [(1, [(vi kd)]), (32, key.map vu8)] [(1, [(vi 0)])] [(1, [(vi dm)])] [(1, [(.string (bstr ([] : List UInt8)))])] rfl rfl rfl rfl (SsOk.cons (SOk.v rfl) SsOk.nil) rfl rfl rfl (FillR.cons [(1, [(vi kd)]), (32, key.map vu8), (1, [(vi dm)])] [(1, [(.string (bstr ([] : List UInt8)))])] [(1, [(.string (bstr data))])] [] rfl rfl rfl rfl (SsOk.cons (SOk.v rfl) SsOk.nil) rfl rfl rfl FillR.nil)))) rfl) ?_
  refine WL.alloc (segs := [(1, [(vi 0)]), (32, (List.replicate 32 (0 : UInt8)).map vu8), (1, [(vi 0)]), (1, [(.string (bstr ([] : List UInt8)))])]) h_6 (zv Try.typeInfo157 rfl) rfl (SsOk.cons (SOk.v rfl) (SsOk.cons (SOk.u8 (List.length_replicate ..)) (SsOk.cons (SOk.v rfl) (SsOk.cons (SOk.v rfl) SsOk.nil)))) rfl (fun b_8 w_9 h_10 => ?_)
  refine WL.storeA (b := b_8) (off := 0) [] [(1, [(vi 0)]), (32, (List.replicate 32 (0 : UInt8)).map vu8), (1, [(vi 0)]), (1, [(.string (bstr ([] : List UInt8)))])] [(1, [(vi kd)]), (32, key.map vu8), (1, [(vi dm)]), (1, [(.string (bstr data))])] [] (ys := flat [(1, [(vi kd)]), (32, key.map vu8), (1, [(vi dm)]), (1, [(.string (bstr data))])]) h_10 rfl rfl Try.sizeOf157 At.h (by decide) rfl rfl rfl rfl rfl rfl (SsOk.cons (SOk.v rfl) (SsOk.cons (SOk.u8 hq.1) (SsOk.cons (SOk.v rfl) (SsOk.cons (SOk.v rfl) SsOk.nil)))) (fun w_11 h_12 => ?_)
  refine WL.nil ?_
  refine thn_n ?_
  refine WP.seq ?_
  refine WP.seq ?_
  refine WP.drawT (SL w00.heap.size [.blk b_8 .nw 157 [(1, [(vi kd)]), (32, key.map vu8), (1, [(vi dm)]), (1, [(.string (bstr data))])], .blk b_4 .nw 23 [(32, (List.replicate 32 (0 : UInt8)).map vu8)], .blk b_1 .nw 103 [(1, [(vi kd)]), (32, key.map vu8), (1, [(vi dm)]), (1, [(.slice qa qn qc)])], .blk ob .nw 50 [(1, [(.bool true)]), (32, ms.map vu8), (1, [(.slice da dn dc)]), (1, [(vi ((u : Nat) : Int))]), (1, [(.map (some mp))]), (1, [(.slice la lg.length lc)])], .row la lg.length lc 111 67 lx, .obj mp .nw (.map (mArr lg) lg.length), .pin (sblks lx) (fun w => Lgs w lx lg), .view da (df.map vu8), .view qa (data.map vu8)]) (.q 0 (.q 1 (.q 2 (.q 3 (.q 4 (.s 5 (.q 6 (.q 7 (.q 8 (.q 9 (.q 10 .nil))))))))))) (by kernel_rfl) (by kernel_rfl) rfl (by kernel_rfl) (fun w_13 hc_15 => (SL.cons ((h_12.same hc_15).ok _ (.head _)) (SL.cons ((h_12.same hc_15).ok _ (.tail _ (.head _))) (SL.cons ((h_12.same hc_15).ok _ (.tail _ (.tail _ (.head _)))) (SL.cons ((h_12.same hc_15).ok _ (.tail _ (.tail _ (.tail _ (.head _))))) (SL.cons ((h_12.same hc_15).ok _ (.tail _ (.tail _ (.tail _ (.tail _ (.head _)))))) (SL.cons ((h_12.same hc_15).ok _ (.tail _ (.tail _ (.tail _ (.tail _ (.tail _ (.head _))))))) (SL.cons ((h_12.same hc_15).ok _ (.tail _ (.tail _ (.tail _ (.tail _ (.tail _ (.tail _ (.head _)))))))) (SL.cons ((h_12.same hc_15).ok _ (.tail _ (.tail _ (.tail _ (.tail _ (.tail _ (.tail _ (.tail _ (.head _))))))))) (SL.cons ((h_12.same hc_15).ok _ (.tail _ (.tail _ (.tail _ (.tail _ (.tail _ (.tail _ (.tail _ (.tail _ (.head _)))))))))) (SL.nil _ _))))))))))) (fun w_13 hc_15 => ?_)
  have h_14 := h_12.same hc_15
  refine WT.q rfl (Wn.no rfl) rfl rfl (fun wq hS => R.move (v := (.pointer (some ⟨ob, 0, none⟩))) rfl) ?_
  refine WT.q rfl (Wn.no rfl) rfl rfl (fun wq hS => R.nilCheck rfl) ?_
  refine WT.q rfl (Wn.no rfl) rfl rfl (fun wq hS => R.fieldAddr (b := ob) (off := 0) (off' := 35) rfl Try.underlying50 rfl Try.sizeOf47 rfl rfl) ?_
  refine WT.q rfl (Wn.no rfl) rfl rfl (fun wq hS => R.load1 (b := ob) (off := 35) (v := (.map (some mp))) rfl Try.isAgg47 (hS _ (.tail _ (.tail _ (.tail _ (.head _))))) (Sg.t rfl (Sg.t rfl (Sg.t rfl (Sg.t rfl Sg.h))))) ?_
  refine WT.q rfl (Wn.no rfl) rfl rfl (fun wq hS => R.loadA (b := b_8) (off := 0) [] [(1, [(vi kd)]), (32, key.map vu8), (1, [(vi dm)]), (1, [(.string (bstr data))])] [] (cs := flat [(1, [(vi kd)]), (32, key.map vu8), (1, [(vi dm)]), (1, [(.string (bstr data))])]) rfl Try.isAgg157 Try.sizeOf157 (hS _ (.head _)) rfl rfl rfl rfl) ?_
  refine WT.s ?_
  refine Op1.one rfl (Wn.no rfl) ?_
  refine WL.q (Wn.no rfl) rfl rfl (R.lookup (r := none) (z := (vi 0)) (v := (vi 0)) (ok := false) rfl rfl Try.underlying47 (h_14.ok _ (.tail _ (.tail _ (.tail _ (.tail _ (.tail _ (.head _))))))) (Ck.agg kt157 (by decide) ag157 (typQ (kd, key, dm, data) hq)) (log_miss kt157 (by decide) ag157 typQ hq hlo hfd) (zv Try.typeInfo3 rfl) rfl rfl) ?_
  refine WL.nil ?_
  refine ⟨(SL.cons (h_14.ok _ (.head _)) (SL.cons (h_14.ok _ (.tail _ (.head _))) (SL.cons (h_14.ok _ (.tail _ (.tail _ (.head _)))) (SL.cons (h_14.ok _ (.tail _ (.tail _ (.tail _ (.head _))))) (SL.cons (h_14.ok _ (.tail _ (.tail _ (.tail _ (.tail _ (.head _)))))) (SL.cons (h_14.ok _ (.tail _ (.tail _ (.tail _ (.tail _ (.tail _ (.head _))))))) (SL.cons (h_14.ok _ (.tail _ (.tail _ (.tail _ (.tail _ (.tail _ (.tail _ (.head _)))))))) (SL.cons (h_14.ok _ (.tail _ (.tail _ (.tail _ (.tail _ (.tail _ (.tail _ (.tail _ (.head _))))))))) (SL.cons (h_14.ok _ (.tail _ (.tail _ (.tail _ (.tail _ (.tail _ (.tail _ (.tail _ (.tail _ (.head _)))))))))) (SL.nil _ _)))))))))), ?_⟩
  refine WT.q rfl (Wn.no rfl) rfl rfl (fun wq hS => R.move (v := (.tuple [(vi 0), (.bool false)].toArray)) rfl) ?_
  refine WT.q rfl (Wn.no rfl) rfl rfl (fun wq hS => R.extract (l := [(vi 0), (.bool false)]) (v := (vi 0)) rfl rfl) ?_
  refine WT.q rfl (Wn.no rfl) rfl rfl (fun wq hS => R.extract (l := [(vi 0), (.bool false)]) (v := (.bool false)) rfl rfl) ?_
  refine WT.q rfl (Wn.no rfl) rfl rfl (fun wq hS => R.assign (v := (vi 0)) rfl) ?_
  refine WT.q rfl (Wn.no rfl) rfl rfl (fun wq hS => R.assign (v := (.bool false)) rfl) ?_
  refine WT.nil ?_
  refine thn_n ?_
  refine WP.seq ?_
  refine WP.reg ?_
  refine WL.q (Wn.no rfl) rfl rfl (R.move (v := (.bool false)) rfl) ?_
  refine WL.nil ?_
  refine thn_n ?_
  refine WP.condF rfl ?_
  refine WP.skip ?_
  refine thn_n ?_
  refine WP.seq ?_
  refine WP.reg ?_
  refine WL.alloc (segs := [(32, (List.replicate 32 (0 : UInt8)).map vu8)]) h_14 (zv Try.typeInfo23 rfl) rfl (SsOk.cons (SOk.u8 (List.length_replicate ..)) SsOk.nil) rfl (fun b_16 w_17 h_18 => ?_)
  refine WL.nil ?_
  refine thn_n ?_
  refine WP.seq ?_
  refine WP.seq ?_
  refine WP.reg ?_
  refine WL.q (Wn.no rfl) rfl rfl (R.move (v := (.pointer (some ⟨ob, 0, none⟩))) rfl) ?_
  refine WL.q (Wn.no rfl) rfl rfl (R.nilCheck rfl) ?_
  refine WL.q (Wn.no rfl) rfl rfl (R.fieldAddr (b := ob) (off := 0) (off' := 0) rfl Try.underlying50 rfl Try.sizeOf4 rfl rfl) ?_
  refine WL.q (Wn.no rfl) rfl rfl (R.load1 (b := ob) (off := 0) (v := (.bool true)) rfl Try.isAgg4 (h_18.ok _ (.tail _ (.tail _ (.tail _ (.tail _ (.head _)))))) Sg.h) ?_
  refine WL.nil ?_
  refine thn_n ?_
  refine WP.condT rfl ?_
  refine WP.reg ?_
  refine WL.q (Wn.no rfl) rfl rfl (R.move (v := (.pointer (some ⟨ob, 0, none⟩))) rfl) ?_
  have h_19 := h_18.up (Pick.t (Pick.t (Pick.t (Pick.t (Pick.t (Pick.t (Pick.t (Pick.t Pick.h))))))))
  have h_20 := h_19.up (Pick.t (Pick.t (Pick.t (Pick.t (Pick.t Pick.h)))))
  refine WL.call (al := [(.pointer (some ⟨ob, 0, none⟩))]) Try.call96 rfl rfl (c_draw true ob mp ms df hms da dn dc u hdf la lc lx lg (by omega) (by omega) _ h_20) rfl ?_
  rintro _ w_21 ⟨rfl, h_22⟩
  refine WL.storeA (b := b_16) (off := 0) [] [(32, (List.replicate 32 (0 : UInt8)).map vu8)] [(32, (drawF df dn u).map vu8)] [] (ys := (drawF df dn u).map vu8) h_22 rfl rfl Try.sizeOf23 (At.t (At.t At.h)) (by decide) rfl rfl rfl rfl rfl rfl (SsOk.cons (SOk.u8 (drawF_len hdf)) SsOk.nil) (fun w_23 h_24 => ?_)
  refine WL.nil ?_
  refine thn_n ?_
  refine WP.seq ?_
  refine WP.reg ?_
  refine WL.q (Wn.no rfl) rfl rfl (R.fieldAddr (b := b_1) (off := 0) (off' := 34) rfl Try.underlying103 rfl Try.sizeOf37 rfl rfl) ?_
  refine WL.q (Wn.no rfl) rfl rfl (R.load1 (b := b_1) (off := 34) (v := (.slice qa qn qc)) rfl Try.isAgg37 (h_24.ok _ (.tail _ (.tail _ (.tail _ (.tail _ (.tail _ (.head _))))))) (Sg.t rfl (Sg.t rfl (Sg.t rfl Sg.h)))) ?_
  refine WL.call (al := [(.slice qa qn qc)]) Try.call58 rfl rfl (c_Clone qa qn qc data hdl (by omega) _ (viewV (h_24.ok _ (.tail _ (.tail _ (.tail _ (.tail _ (.tail _ (.tail _ (.tail _ (.tail _ (.tail _ (.head _))))))))))))) rfl ?_
  rintro _ w_27 ⟨a_25, cap_26, rfl, hc_28, ho_29⟩
  have h_30 := h_24.gotRow hc_28 ho_29
  refine WL.q (Wn.no rfl) rfl rfl (R.fieldAddr (b := b_1) (off := 0) (off' := 34) rfl Try.underlying103 rfl Try.sizeOf37 rfl rfl) ?_
  refine WL.store1 (b := b_1) (off := 34) (v := (.slice a_25 qn cap_26)) h_30 rfl rfl Try.sizeOf37 rfl (At.t (At.t (At.t (At.t (At.t (At.t At.h)))))) (by decide) (Sg.t rfl (Sg.t rfl (Sg.t rfl Sg.h))) (fun w_31 h_32 => ?_)
  refine WL.nil ?_
  refine thn_n ?_
  refine WP.seq ?_
  refine WP.drawT (SL w00.heap.size [.row a_25 qn cap_26 5 1 (data.map vu8), .blk ob .nw 50 [(1, [(.bool true)]), (32, ms.map vu8), (1, [(.slice da dn dc)]), (1, [(vi (((u + 1) : Nat) : Int))]), (1, [(.map (some mp))]), (1, [(.slice la lg.length lc)])], .view da (df.map vu8), .blk b_16 .nw 23 [(32, (drawF df dn u).map vu8)], .blk b_8 .nw 157 [(1, [(vi kd)]), (32, key.map vu8), (1, [(vi dm)]), (1, [(.string (bstr data))])], .blk b_4 .nw 23 [(32, (List.replicate 32 (0 : UInt8)).map vu8)], .blk b_1 .nw 103 [(1, [(vi kd)]), (32, key.map vu8), (1, [(vi dm)]), (1, [(.slice a_25 qn cap_26)])], .row la lg.length lc 111 67 lx, .pin (sblks lx) (fun w => Lgs w lx lg), .view qa (data.map vu8)]) (.q 0 (.q 1 (.q 2 (.q 3 (.q 4 (.q 5 (.q 6 (.q 7 (.q 8 (.q 9 (.s 10 .nil))))))))))) (by kernel_rfl) (by kernel_rfl) rfl (by kernel_rfl) (fun w_33 hc_35 => (SL.cons ((h_32.same hc_35).ok _ (.head _)) (SL.cons ((h_32.same hc_35).ok _ (.tail _ (.head _))) (SL.cons ((h_32.same hc_35).ok _ (.tail _ (.tail _ (.head _)))) (SL.cons ((h_32.same hc_35).ok _ (.tail _ (.tail _ (.tail _ (.head _))))) (SL.cons ((h_32.same hc_35).ok _ (.tail _ (.tail _ (.tail _ (.tail _ (.head _)))))) (SL.cons ((h_32.same hc_35).ok _ (.tail _ (.tail _ (.tail _ (.tail _ (.tail _ (.head _))))))) (SL.cons ((h_32.same hc_35).ok _ (.tail _ (.tail _ (.tail _ (.tail _ (.tail _ (.tail _ (.head _)))))))) (SL.cons ((h_32.same hc_35).ok _ (.tail _ (.tail _ (.tail _ (.tail _ (.tail _ (.tail _ (.tail _ (.head _))))))))) (SL.cons ((h_32.same hc_35).ok _ (.tail _ (.tail _ (.tail _ (.tail _ (.tail _ (.tail _ (.tail _ (.tail _ (.tail _ (.head _))))))))))) (SL.cons ((h_32.same hc_35).ok _ (.tail _ (.tail _ (.tail _ (.tail _ (.tail _ (.tail _ (.tail _ (.tail _ (.tail _ (.tail _ (.head _)))))))))))) (SL.nil _ _)))))))))))) (fun w_33 hc_35 => ?_)
  have h_34 := h_32.same hc_35
  refine WT.q rfl (Wn.no rfl) rfl rfl (fun wq hS => R.move (v := (.pointer (some ⟨ob, 0, none⟩))) rfl) ?_
  refine WT.q rfl (Wn.no rfl) rfl rfl (fun wq hS => R.nilCheck rfl) ?_
  refine WT.q rfl (Wn.no rfl) rfl rfl (fun wq hS => R.fieldAddr (b := ob) (off := 0) (off' := 35) rfl Try.underlying50 rfl Try.sizeOf47 rfl rfl) ?_
  refine WT.q rfl (Wn.no rfl) rfl rfl (fun wq hS => R.load1 (b := ob) (off := 35) (v := (.map (some mp))) rfl Try.isAgg47 (hS _ (.tail _ (.head _))) (Sg.t rfl (Sg.t rfl (Sg.t rfl (Sg.t rfl Sg.h))))) ?_
  refine WT.q rfl (Wn.no rfl) rfl rfl (fun wq hS => R.loadA (b := b_8) (off := 0) [] [(1, [(vi kd)]), (32, key.map vu8), (1, [(vi dm)]), (1, [(.string (bstr data))])] [] (cs := flat [(1, [(vi kd)]), (32, key.map vu8), (1, [(vi dm)]), (1, [(.string (bstr data))])]) rfl Try.isAgg157 Try.sizeOf157 (hS _ (.tail _ (.tail _ (.tail _ (.tail _ (.head _)))))) rfl rfl rfl rfl) ?_
  refine WT.q rfl (Wn.no rfl) rfl rfl (fun wq hS => R.move (v := (.pointer (some ⟨ob, 0, none⟩))) rfl) ?_
  refine WT.q rfl (Wn.no rfl) rfl rfl (fun wq hS => R.nilCheck rfl) ?_
  refine WT.q rfl (Wn.no rfl) rfl rfl (fun wq hS => R.fieldAddr (b := ob) (off := 0) (off' := 36) rfl Try.underlying50 rfl Try.sizeOf48 rfl rfl) ?_
  refine WT.q rfl (Wn.no rfl) rfl rfl (fun wq hS => R.load1 (b := ob) (off := 36) (v := (.slice la lg.length lc)) rfl Try.isAgg48 (hS _ (.tail _ (.head _))) (Sg.t rfl (Sg.t rfl (Sg.t rfl (Sg.t rfl (Sg.t rfl Sg.h)))))) ?_
  refine WT.q rfl (Wn.no rfl) rfl rfl (fun wq hS => R.lenS (a := la) (m := lg.length) rfl rfl Try.underlying48) ?_
  refine WT.s ?_
  refine Op1.one rfl (Wn.no rfl) ?_
  refine WL.mapUpdate (k := (.agg ⟨flat [(1, [(vi kd)]), (32, key.map vu8), (1, [(vi dm)]), (1, [(.string (bstr data))])]⟩)) (v := (vi ((lg.length : Nat) : Int))) h_34 rfl rfl rfl Try.underlying47 (At.t (At.t (At.t (At.t (At.t (At.t (At.t (At.t At.h)))))))) (by decide) (Ck.agg kt157 (by decide) ag157 (typQ (kd, key, dm, data) hq)) (log_miss kt157 (by decide) ag157 typQ hq hlo hfd) (fun w_36 h_37 => ?_)
  refine WL.nil ?_
  refine ⟨(SL.cons (h_37.ok _ (.head _)) (SL.cons (h_37.ok _ (.tail _ (.head _))) (SL.cons (h_37.ok _ (.tail _ (.tail _ (.head _)))) (SL.cons (h_37.ok _ (.tail _ (.tail _ (.tail _ (.head _))))) (SL.cons (h_37.ok _ (.tail _ (.tail _ (.tail _ (.tail _ (.head _)))))) (SL.cons (h_37.ok _ (.tail _ (.tail _ (.tail _ (.tail _ (.tail _ (.head _))))))) (SL.cons (h_37.ok _ (.tail _ (.tail _ (.tail _ (.tail _ (.tail _ (.tail _ (.head _)))))))) (SL.cons (h_37.ok _ (.tail _ (.tail _ (.tail _ (.tail _ (.tail _ (.tail _ (.tail _ (.head _))))))))) (SL.cons (h_37.ok _ (.tail _ (.tail _ (.tail _ (.tail _ (.tail _ (.tail _ (.tail _ (.tail _ (.tail _ (.head _))))))))))) (SL.cons (h_37.ok _ (.tail _ (.tail _ (.tail _ (.tail _ (.tail _ (.tail _ (.tail _ (.tail _ (.tail _ (.tail _ (.head _)))))))))))) (SL.nil _ _))))))))))), ?_⟩
  refine WT.nil ?_
  refine thn_n ?_
  refine WP.seq ?_
  refine WP.cutG (G := Nat × Option Addr × Nat) [61, 62, 63, 64, 65, 66, 67, 68, 69, 70, 71, 72] (fun (bY11Y8Y0Y0, aY11Y9Y0Y0, cY11Y9Y0Y0) => [(61, (.pointer (some ⟨ob, 0, none⟩))), (62, (.pointer (some ⟨ob, 0, none⟩))), (63, (.pointer (some ⟨ob, 0, none⟩))), (64, (.pointer (some ⟨ob, 36, none⟩))), (66, (.agg ⟨flat [(1, [(vi kd)]), (32, key.map vu8), (1, [(vi dm)]), (1, [(.slice a_25 qn cap_26)])]⟩)), (67, (.agg ⟨(drawF df dn u).map vu8⟩)), (68, (.agg ⟨flat [(1, [(vi kd)]), (32, key.map vu8), (1, [(vi dm)]), (1, [(.slice a_25 qn cap_26)]), (32, (drawF df dn u).map vu8)]⟩)), (65, (.slice la lg.length lc)), (69, (.slice (some ⟨bY11Y8Y0Y0, 0, none⟩) 1 1)), (70, (.slice aY11Y9Y0Y0 (lg.length + 1) cY11Y9Y0Y0)), (71, (.pointer (some ⟨ob, 0, none⟩))), (72, (.pointer (some ⟨ob, 36, none⟩)))]) (fun (bY11Y8Y0Y0, aY11Y9Y0Y0, cY11Y9Y0Y0) w1 => HP w00 w1 (Ent.blk bY11Y8Y0Y0 .nw 111 [(67, aC (kd, key, dm, data) (.slice a_25 qn cap_26) (drawF df dn u))] :: Ent.row a_25 qn cap_26 5 1 (data.map vu8) :: Ent.blk ob .nw 50 [(1, [(.bool true)]), (32, ms.map vu8), (1, [(.slice da dn dc)]), (1, [(vi (((u + 1) : Nat) : Int))]), (1, [(.map (some mp))]), (1, [(.slice aY11Y9Y0Y0 (lg.length + 1) cY11Y9Y0Y0)])] :: Ent.view da (df.map vu8) :: Ent.blk b_16 .nw 23 [(32, (drawF df dn u).map vu8)] :: Ent.blk b_8 .nw 157 [(1, [(vi kd)]), (32, key.map vu8), (1, [(vi dm)]), (1, [(.string (bstr data))])] :: Ent.blk b_4 .nw 23 [(32, (List.replicate 32 (0 : UInt8)).map vu8)] :: Ent.blk b_1 .nw 103 [(1, [(vi kd)]), (32, key.map vu8), (1, [(vi dm)]), (1, [(.slice a_25 qn cap_26)])] :: Ent.row aY11Y9Y0Y0 (lg.length + 1) cY11Y9Y0Y0 111 67 (lx ++ aC (kd, key, dm, data) (.slice a_25 qn cap_26) (drawF df dn u)) :: Ent.obj mp .nw (.map ((mArr lg).push { key := (.agg ⟨flat [(1, [(vi kd)]), (32, key.map vu8), (1, [(vi dm)]), (1, [(.string (bstr data))])]⟩), val := (vi ((lg.length : Nat) : Int)), born := lg.length }) (lg.length + 1)) :: Ent.pin (sblks lx) (fun w => Lgs w lx lg) :: Ent.view qa (data.map vu8) :: L)) ?_ ?_
  · refine WP.drawT (SL w00.heap.size [.row a_25 qn cap_26 5 1 (data.map vu8), .view da (df.map vu8), .blk b_16 .nw 23 [(32, (drawF df dn u).map vu8)], .blk b_8 .nw 157 [(1, [(vi kd)]), (32, key.map vu8), (1, [(vi dm)]), (1, [(.string (bstr data))])], .blk b_4 .nw 23 [(32, (List.replicate 32 (0 : UInt8)).map vu8)], .blk b_1 .nw 103 [(1, [(vi kd)]), (32, key.map vu8), (1, [(vi dm)]), (1, [(.slice a_25 qn cap_26)])], .obj mp .nw (.map ((mArr lg).push { key := (.agg ⟨flat [(1, [(vi kd)]), (32, key.map vu8), (1, [(vi dm)]), (1, [(.string (bstr data))])]⟩), val := (vi ((lg.length : Nat) : Int)), born := lg.length }) (lg.length + 1)), .pin (sblks lx) (fun w => Lgs w lx lg), .view qa (data.map vu8)]) (.q 0 (.q 1 (.q 2 (.q 3 (.q 5 (.q 6 (.q 7 (.s2 4 8 (.s 8 (.s 9 (.q 10 (.q 11 (.s 12 .nil))))) (.s 4 (.s 9 (.q 10 (.q 11 (.s 12 .nil))))))))))))) (by kernel_rfl) (by kernel_rfl) rfl (by kernel_rfl) (fun w_38 hc_40 => (SL.cons ((h_37.same hc_40).ok _ (.head _)) (SL.cons ((h_37.same hc_40).ok _ (.tail _ (.tail _ (.head _)))) (SL.cons ((h_37.same hc_40).ok _ (.tail _ (.tail _ (.tail _ (.head _))))) (SL.cons ((h_37.same hc_40).ok _ (.tail _ (.tail _ (.tail _ (.tail _ (.head _)))))) (SL.cons ((h_37.same hc_40).ok _ (.tail _ (.tail _ (.tail _ (.tail _ (.tail _ (.head _))))))) (SL.cons ((h_37.same hc_40).ok _ (.tail _ (.tail _ (.tail _ (.tail _ (.tail _ (.tail _ (.head _)))))))) (SL.cons ((h_37.same hc_40).ok _ (.tail _ (.tail _ (.tail _ (.tail _ (.tail _ (.tail _ (.tail _ (.tail _ (.head _)))))))))) (SL.cons ((h_37.same hc_40).ok _ (.tail _ (.tail _ (.tail _ (.tail _ (.tail _ (.tail _ (.tail _ (.tail _ (.tail _ (.head _))))))))))) (SL.cons ((h_37.same hc_40).ok _ (.tail _ (.tail _ (.tail _ (.tail _ (.tail _ (.tail _ (.tail _ (.tail _ (.tail _ (.tail _ (.head _)))))))))))) (SL.nil _ _))))))))))) (fun w_38 hc_40 => ?_)
    have h_39 := h_37.same hc_40
    refine WT.q rfl (Wn.no rfl) rfl rfl (fun wq hS => R.move (v := (.pointer (some ⟨ob, 0, none⟩))) rfl) ?_
    refine WT.q rfl (Wn.no rfl) rfl rfl (fun wq hS => R.move (v := (.pointer (some ⟨ob, 0, none⟩))) rfl) ?_
    refine WT.q rfl (Wn.no rfl) rfl rfl (fun wq hS => R.nilCheck rfl) ?_
    refine WT.q rfl (Wn.no rfl) rfl rfl (fun wq hS => R.fieldAddr (b := ob) (off := 0) (off' := 36) rfl Try.underlying50 rfl Try.sizeOf48 rfl rfl) ?_
    refine WT.q rfl (Wn.no rfl) rfl rfl (fun wq hS => R.loadA (b := b_1) (off := 0) [] [(1, [(vi kd)]), (32, key.map vu8), (1, [(vi dm)]), (1, [(.slice a_25 qn cap_26)])] [] (cs := flat [(1, [(vi kd)]), (32, key.map vu8), (1, [(vi dm)]), (1, [(.slice a_25 qn cap_26)])]) rfl Try.isAgg103 Try.sizeOf103 (hS _ (.tail _ (.tail _ (.tail _ (.tail _ (.tail _ (.head _))))))) rfl rfl rfl rfl) ?_
    refine WT.q rfl (Wn.no rfl) rfl rfl (fun wq hS => R.loadA (b := b_16) (off := 0) [] [(32, (drawF df dn u).map vu8)] [] (cs := (drawF df dn u).map vu8) rfl Try.isAgg23 Try.sizeOf23 (hS _ (.tail _ (.tail _ (.head _)))) rfl rfl rfl rfl) ?_
    refine WT.q rfl (Wn.no rfl) rfl rfl (fun wq hS => R.buildS (pl := [(0, 35), (35, 32)]) (zs := [(1, [(vi 0)]), (32, (List.replicate 32 (0 : UInt8)).map vu8), (1, [(vi 0)]), (1, [(.slice none 0 0)]), (32, (List.replicate 32 (0 : UInt8)).map vu8)]) (vs := [(0, (.agg ⟨flat [(1, [(vi kd)]), (32, key.map vu8), (1, [(vi dm)]), (1, [(.slice a_25 qn cap_26)])]⟩)), (1, (.agg ⟨(drawF df dn u).map vu8⟩))]) (out := [(1, [(vi kd)]), (32, key.map vu8), (1, [(vi dm)]), (1, [(.slice a_25 qn cap_26)]), (32, (drawF df dn u).map vu8)]) (cs := flat [(1, [(vi kd)]), (32, key.map vu8), (1, [(vi dm)]), (1, [(.slice a_25 qn cap_26)]), (32, (drawF df dn u).map vu8)]) Try.underlying111 (zv Try.typeInfo111 rfl) rfl (SsOk.cons (SOk.v rfl) (SsOk.cons (SOk.u8 (List.length_replicate ..)) (SsOk.cons (SOk.v rfl) (SsOk.cons (SOk.v rfl) (SsOk.cons (SOk.u8 (List.length_replicate ..)) SsOk.nil))))) (pl111 _ Try.underlying111) rfl (FillR.cons [] [(1, [(vi 0)]), (32, (List.replicate 32 (0 : UInt8)).map vu8), (1, [(vi 0)]), (1, [(.slice none 0 0)])] [(1, [(vi kd)]), (32, key.map vu8), (1, [(vi dm)]), (1, [(.slice a_25 qn cap_26)])] [(32, (List.replicate 32 (0 : UInt8)).map vu8)] rfl rfl rfl rfl (SsOk.cons (SOk.v rfl) (SsOk.cons (SOk.u8 hq.1) (SsOk.cons (SOk.v rfl) (SsOk.cons (SOk.v rfl) SsOk.nil)))) rfl rfl rfl (FillR.cons [(1, [(vi kd)]), (32, key.map vu8), (1, [(vi dm)]), (1, [(.slice a_25 qn cap_26)])] [(32, (List.replicate 32 (0 : UInt8)).map vu8)] [(32, (drawF df dn u).map vu8)] [] rfl rfl rfl rfl (SsOk.cons (SOk.u8 (drawF_len hdf)) SsOk.nil) rfl rfl rfl FillR.nil)) rfl) ?_
    refine WT.s2 ?_ ?_
    · refine Op1.one rfl (Wn.no rfl) ?_
      refine WL.q (Wn.no rfl) rfl rfl (R.load1 (b := ob) (off := 36) (v := (.slice la lg.length lc)) rfl Try.isAgg48 (h_39.ok _ (.tail _ (.head _))) (Sg.t rfl (Sg.t rfl (Sg.t rfl (Sg.t rfl (Sg.t rfl Sg.h)))))) ?_
      refine WL.nil ?_
      refine ⟨(SL.cons (h_39.ok _ (.head _)) (SL.cons (h_39.ok _ (.tail _ (.tail _ (.head _)))) (SL.cons (h_39.ok _ (.tail _ (.tail _ (.tail _ (.head _))))) (SL.cons (h_39.ok _ (.tail _ (.tail _ (.tail _ (.tail _ (.head _)))))) (SL.cons (h_39.ok _ (.tail _ (.tail _ (.tail _ (.tail _ (.tail _ (.head _))))))) (SL.cons (h_39.ok _ (.tail _ (.tail _ (.tail _ (.tail _ (.tail _ (.tail _ (.head _)))))))) (SL.cons (h_39.ok _ (.tail _ (.tail _ (.tail _ (.tail _ (.tail _ (.tail _ (.tail _ (.tail _ (.head _)))))))))) (SL.cons (h_39.ok _ (.tail _ (.tail _ (.tail _ (.tail _ (.tail _ (.tail _ (.tail _ (.tail _ (.tail _ (.head _))))))))))) (SL.cons (h_39.ok _ (.tail _ (.tail _ (.tail _ (.tail _ (.tail _ (.tail _ (.tail _ (.tail _ (.tail _ (.tail _ (.head _)))))))))))) (SL.nil _ _)))))))))), ?_⟩
      refine WT.s ?_
      refine Op1.one rfl (Wn.no rfl) ?_
      refine WL.buildSl (vs := [(0, (.agg ⟨flat [(1, [(vi kd)]), (32, key.map vu8), (1, [(vi dm)]), (1, [(.slice a_25 qn cap_26)]), (32, (drawF df dn u).map vu8)]⟩))]) (cs := aC (kd, key, dm, data) (.slice a_25 qn cap_26) (drawF df dn u)) h_39 Try.underlying48 Try.sizeOf111 (zv Try.typeInfo111 rfl) rfl rfl (fill_1 (zc := flat [(1, [vi 0]), (32, List.replicate 32 (vu8 0)), (1, [vi 0]), (1, [.slice none 0 0]), (32, List.replicate 32 (vu8 0))]) (by kernel_rfl) (SsOk.cons (s := (67, flat [(1, [vi 0]), (32, List.replicate 32 (vu8 0)), (1, [vi 0]), (1, [.slice none 0 0]), (32, List.replicate 32 (vu8 0))])) ⟨by decide, SsOk.one (SsOk.cons (SOk.v rfl) (SsOk.cons (SOk.rep rfl) (SsOk.cons (SOk.v rfl) (SsOk.cons (SOk.v rfl) (SsOk.cons (SOk.rep rfl) SsOk.nil)))))⟩ SsOk.nil) (aC_ok (q := (kd, key, dm, data)) (s := (.slice a_25 qn cap_26)) (d := drawF df dn u) hq.1 (drawF_len hdf) rfl)) ((aC_ok (q := (kd, key, dm, data)) (s := (.slice a_25 qn cap_26)) (d := drawF df dn u) hq.1 (drawF_len hdf) rfl)).head.len ((aC_ok (q := (kd, key, dm, data)) (s := (.slice a_25 qn cap_26)) (d := drawF df dn u) hq.1 (drawF_len hdf) rfl)).head.one rfl rfl (fun b_42 w_43 h_44 => ?_)
      refine WL.nil ?_
      refine ⟨(SL.cons (h_44.ok _ (.tail _ (.head _))) (SL.cons (h_44.ok _ (.tail _ (.tail _ (.tail _ (.head _))))) (SL.cons (h_44.ok _ (.tail _ (.tail _ (.tail _ (.tail _ (.head _)))))) (SL.cons (h_44.ok _ (.tail _ (.tail _ (.tail _ (.tail _ (.tail _ (.head _))))))) (SL.cons (h_44.ok _ (.tail _ (.tail _ (.tail _ (.tail _ (.tail _ (.tail _ (.head _)))))))) (SL.cons (h_44.ok _ (.tail _ (.tail _ (.tail _ (.tail _ (.tail _ (.tail _ (.tail _ (.head _))))))))) (SL.cons (h_44.ok _ (.tail _ (.tail _ (.tail _ (.tail _ (.tail _ (.tail _ (.tail _ (.tail _ (.tail _ (.head _))))))))))) (SL.cons (h_44.ok _ (.tail _ (.tail _ (.tail _ (.tail _ (.tail _ (.tail _ (.tail _ (.tail _ (.tail _ (.tail _ (.head _)))))))))))) (SL.cons (h_44.ok _ (.tail _ (.tail _ (.tail _ (.tail _ (.tail _ (.tail _ (.tail _ (.tail _ (.tail _ (.tail _ (.tail _ (.head _))))))))))))) (SL.nil _ _)))))))))), ?_⟩
      refine WT.s ?_
      refine Op1.one rfl (Wn.no rfl) ?_
      refine WL.append (km := lg.length + 1) (xs := lx) (ys := aC (kd, key, dm, data) (.slice a_25 qn cap_26) (drawF df dn u)) (zs := lx ++ aC (kd, key, dm, data) (.slice a_25 qn cap_26) (drawF df dn u)) h_44 rfl rfl el48 (viewB (h_44.ok _ (.head _)) Sg.h) ((aC_ok (q := (kd, key, dm, data)) (s := (.slice a_25 qn cap_26)) (d := drawF df dn u) hq.1 (drawF_len hdf) rfl)).head.len ((aC_ok (q := (kd, key, dm, data)) (s := (.slice a_25 qn cap_26)) (d := drawF df dn u) hq.1 (drawF_len hdf) rfl)).head.one rfl (by omega) (by omega) (by omega) (fun _ _ => (At.t (At.t (At.t (At.t (At.t (At.t (At.t (At.t At.h))))))))) rfl (fun a_45 c_46 w_47 h_48 => ?_)
      refine WL.nil ?_
      refine ⟨(SL.cons (h_48.ok _ (.tail _ (.head _))) (SL.cons (h_48.ok _ (.tail _ (.tail _ (.tail _ (.head _))))) (SL.cons (h_48.ok _ (.tail _ (.tail _ (.tail _ (.tail _ (.head _)))))) (SL.cons (h_48.ok _ (.tail _ (.tail _ (.tail _ (.tail _ (.tail _ (.head _))))))) (SL.cons (h_48.ok _ (.tail _ (.tail _ (.tail _ (.tail _ (.tail _ (.tail _ (.head _)))))))) (SL.cons (h_48.ok _ (.tail _ (.tail _ (.tail _ (.tail _ (.tail _ (.tail _ (.tail _ (.head _))))))))) (SL.cons (h_48.ok _ (.tail _ (.tail _ (.tail _ (.tail _ (.tail _ (.tail _ (.tail _ (.tail _ (.tail _ (.head _))))))))))) (SL.cons (h_48.ok _ (.tail _ (.tail _ (.tail _ (.tail _ (.tail _ (.tail _ (.tail _ (.tail _ (.tail _ (.tail _ (.head _)))))))))))) (SL.cons (h_48.ok _ (.tail _ (.tail _ (.tail _ (.tail _ (.tail _ (.tail _ (.tail _ (.tail _ (.tail _ (.tail _ (.tail _ (.head _))))))))))))) (SL.nil _ _)))))))))), ?_⟩
      refine WT.q rfl (Wn.no rfl) rfl rfl (fun wq hS => R.nilCheck rfl) ?_
      refine WT.q rfl (Wn.no rfl) rfl rfl (fun wq hS => R.fieldAddr (b := ob) (off := 0) (off' := 36) rfl Try.underlying50 rfl Try.sizeOf48 rfl rfl) ?_
      refine WT.s ?_
      refine Op1.one rfl (Wn.no rfl) ?_
      refine WL.store1 (b := ob) (off := 36) (v := (.slice a_45 (lg.length + 1) c_46)) h_48 rfl rfl Try.sizeOf48 rfl (At.t (At.t At.h)) (by decide) (Sg.t rfl (Sg.t rfl (Sg.t rfl (Sg.t rfl (Sg.t rfl Sg.h))))) (fun w_49 h_50 => ?_)
      refine WL.nil ?_
      refine ⟨(SL.cons (h_50.ok _ (.tail _ (.head _))) (SL.cons (h_50.ok _ (.tail _ (.tail _ (.tail _ (.head _))))) (SL.cons (h_50.ok _ (.tail _ (.tail _ (.tail _ (.tail _ (.head _)))))) (SL.cons (h_50.ok _ (.tail _ (.tail _ (.tail _ (.tail _ (.tail _ (.head _))))))) (SL.cons (h_50.ok _ (.tail _ (.tail _ (.tail _ (.tail _ (.tail _ (.tail _ (.head _)))))))) (SL.cons (h_50.ok _ (.tail _ (.tail _ (.tail _ (.tail _ (.tail _ (.tail _ (.tail _ (.head _))))))))) (SL.cons (h_50.ok _ (.tail _ (.tail _ (.tail _ (.tail _ (.tail _ (.tail _ (.tail _ (.tail _ (.tail _ (.head _))))))))))) (SL.cons (h_50.ok _ (.tail _ (.tail _ (.tail _ (.tail _ (.tail _ (.tail _ (.tail _ (.tail _ (.tail _ (.tail _ (.head _)))))))))))) (SL.cons (h_50.ok _ (.tail _ (.tail _ (.tail _ (.tail _ (.tail _ (.tail _ (.tail _ (.tail _ (.tail _ (.tail _ (.tail _ (.head _))))))))))))) (SL.nil _ _)))))))))), ?_⟩
      refine WT.nil ?_
      refine thn_n ?_
      exact ⟨(b_42, a_45, c_46), (Ag.upd rfl (Ag.upd rfl (Ag.upd rfl (Ag.upd rfl (Ag.upd rfl (Ag.upd rfl (Ag.upd rfl (Ag.upd rfl (Ag.upd rfl (Ag.upd rfl (Ag.upd rfl (Ag.upd rfl (Ag.refl _ _))))))))))))), ⟨rfl, rfl, rfl, rfl, rfl, rfl, rfl, rfl, rfl, rfl, rfl, rfl, trivial⟩, h_50⟩
    · refine Op1.one rfl (Wn.no rfl) ?_
      refine WL.buildSl (vs := [(0, (.agg ⟨flat [(1, [(vi kd)]), (32, key.map vu8), (1, [(vi dm)]), (1, [(.slice a_25 qn cap_26)]), (32, (drawF df dn u).map vu8)]⟩))]) (cs := aC (kd, key, dm, data) (.slice a_25 qn cap_26) (drawF df dn u)) h_39 Try.underlying48 Try.sizeOf111 (zv Try.typeInfo111 rfl) rfl rfl (fill_1 (zc := flat [(1, [vi 0]), (32, List.replicate 32 (vu8 0)), (1, [vi 0]), (1, [.slice none 0 0]), (32, List.replicate 32 (vu8 0))]) (by kernel_rfl) (SsOk.cons (s := (67, flat [(1, [vi 0]), (32, List.replicate 32 (vu8 0)), (1, [vi 0]), (1, [.slice none 0 0]), (32, List.replicate 32 (vu8 0))])) ⟨by decide, SsOk.one (SsOk.cons (SOk.v rfl) (SsOk.cons (SOk.rep rfl) (SsOk.cons (SOk.v rfl) (SsOk.cons (SOk.v rfl) (SsOk.cons (SOk.rep rfl) SsOk.nil)))))⟩ SsOk.nil) (aC_ok (q := (kd, key, dm, data)) (s := (.slice a_25 qn cap_26)) (d := drawF df dn u) hq.1 (drawF_len hdf) rfl)) ((aC_ok (q := (kd, key, dm, data)) (s := (.slice a_25 qn cap_26)) (d := drawF df dn u) hq.1 (drawF_len hdf) rfl)).head.len ((aC_ok (q := (kd, key, dm, data)) (s := (.slice a_25 qn cap_26)) (d := drawF df dn u) hq.1 (drawF_len hdf) rfl)).head.one rfl rfl (fun b_51 w_52 h_53 => ?_)
      refine WL.nil ?_
      refine ⟨(SL.cons (h_53.ok _ (.tail _ (.head _))) (SL.cons (h_53.ok _ (.tail _ (.tail _ (.tail _ (.head _))))) (SL.cons (h_53.ok _ (.tail _ (.tail _ (.tail _ (.tail _ (.head _)))))) (SL.cons (h_53.ok _ (.tail _ (.tail _ (.tail _ (.tail _ (.tail _ (.head _))))))) (SL.cons (h_53.ok _ (.tail _ (.tail _ (.tail _ (.tail _ (.tail _ (.tail _ (.head _)))))))) (SL.cons (h_53.ok _ (.tail _ (.tail _ (.tail _ (.tail _ (.tail _ (.tail _ (.tail _ (.head _))))))))) (SL.cons (h_53.ok _ (.tail _ (.tail _ (.tail _ (.tail _ (.tail _ (.tail _ (.tail _ (.tail _ (.tail _ (.head _))))))))))) (SL.cons (h_53.ok _ (.tail _ (.tail _ (.tail _ (.tail _ (.tail _ (.tail _ (.tail _ (.tail _ (.tail _ (.tail _ (.head _)))))))))))) (SL.cons (h_53.ok _ (.tail _ (.tail _ (.tail _ (.tail _ (.tail _ (.tail _ (.tail _ (.tail _ (.tail _ (.tail _ (.tail _ (.head _))))))))))))) (SL.nil _ _)))))))))), ?_⟩
      refine WT.s ?_
      refine Op1.one rfl (Wn.no rfl) ?_
      refine WL.q (Wn.no rfl) rfl rfl (R.load1 (b := ob) (off := 36) (v := (.slice la lg.length lc)) rfl Try.isAgg48 (h_53.ok _ (.tail _ (.tail _ (.head _)))) (Sg.t rfl (Sg.t rfl (Sg.t rfl (Sg.t rfl (Sg.t rfl Sg.h)))))) ?_
      refine WL.nil ?_
      refine ⟨(SL.cons (h_53.ok _ (.tail _ (.head _))) (SL.cons (h_53.ok _ (.tail _ (.tail _ (.tail _ (.head _))))) (SL.cons (h_53.ok _ (.tail _ (.tail _ (.tail _ (.tail _ (.head _)))))) (SL.cons (h_53.ok _ (.tail _ (.tail _ (.tail _ (.tail _ (.tail _ (.head _))))))) (SL.cons (h_53.ok _ (.tail _ (.tail _ (.tail _ (.tail _ (.tail _ (.tail _ (.head _)))))))) (SL.cons (h_53.ok _ (.tail _ (.tail _ (.tail _ (.tail _ (.tail _ (.tail _ (.tail _ (.head _))))))))) (SL.cons (h_53.ok _ (.tail _ (.tail _ (.tail _ (.tail _ (.tail _ (.tail _ (.tail _ (.tail _ (.tail _ (.head _))))))))))) (SL.cons (h_53.ok _ (.tail _ (.tail _ (.tail _ (.tail _ (.tail _ (.tail _ (.tail _ (.tail _ (.tail _ (.tail _ (.head _)))))))))))) (SL.cons (h_53.ok _ (.tail _ (.tail _ (.tail _ (.tail _ (.tail _ (.tail _ (.tail _ (.tail _ (.tail _ (.tail _ (.tail _ (.head _))))))))))))) (SL.nil _ _)))))))))), ?_⟩
      refine WT.s ?_
      refine Op1.one rfl (Wn.no rfl) ?_
      refine WL.append (km := lg.length + 1) (xs := lx) (ys := aC (kd, key, dm, data) (.slice a_25 qn cap_26) (drawF df dn u)) (zs := lx ++ aC (kd, key, dm, data) (.slice a_25 qn cap_26) (drawF df dn u)) h_53 rfl rfl el48 (viewB (h_53.ok _ (.head _)) Sg.h) ((aC_ok (q := (kd, key, dm, data)) (s := (.slice a_25 qn cap_26)) (d := drawF df dn u) hq.1 (drawF_len hdf) rfl)).head.len ((aC_ok (q := (kd, key, dm, data)) (s := (.slice a_25 qn cap_26)) (d := drawF df dn u) hq.1 (drawF_len hdf) rfl)).head.one rfl (by omega) (by omega) (by omega) (fun _ _ => (At.t (At.t (At.t (At.t (At.t (At.t (At.t (At.t At.h))))))))) rfl (fun a_54 c_55 w_56 h_57 => ?_)
      refine WL.nil ?_
      refine ⟨(SL.cons (h_57.ok _ (.tail _ (.head _))) (SL.cons (h_57.ok _ (.tail _ (.tail _ (.tail _ (.head _))))) (SL.cons (h_57.ok _ (.tail _ (.tail _ (.tail _ (.tail _ (.head _)))))) (SL.cons (h_57.ok _ (.tail _ (.tail _ (.tail _ (.tail _ (.tail _ (.head _))))))) (SL.cons (h_57.ok _ (.tail _ (.tail _ (.tail _ (.tail _ (.tail _ (.tail _ (.head _)))))))) (SL.cons (h_57.ok _ (.tail _ (.tail _ (.tail _ (.tail _ (.tail _ (.tail _ (.tail _ (.head _))))))))) (SL.cons (h_57.ok _ (.tail _ (.tail _ (.tail _ (.tail _ (.tail _ (.tail _ (.tail _ (.tail _ (.tail _ (.head _))))))))))) (SL.cons (h_57.ok _ (.tail _ (.tail _ (.tail _ (.tail _ (.tail _ (.tail _ (.tail _ (.tail _ (.tail _ (.tail _ (.head _)))))))))))) (SL.cons (h_57.ok _ (.tail _ (.tail _ (.tail _ (.tail _ (.tail _ (.tail _ (.tail _ (.tail _ (.tail _ (.tail _ (.tail _ (.head _))))))))))))) (SL.nil _ _)))))))))), ?_⟩
      refine WT.q rfl (Wn.no rfl) rfl rfl (fun wq hS => R.nilCheck rfl) ?_
      refine WT.q rfl (Wn.no rfl) rfl rfl (fun wq hS => R.fieldAddr (b := ob) (off := 0) (off' := 36) rfl Try.underlying50 rfl Try.sizeOf48 rfl rfl) ?_
      refine WT.s ?_
      refine Op1.one rfl (Wn.no rfl) ?_
      refine WL.store1 (b := ob) (off := 36) (v := (.slice a_54 (lg.length + 1) c_55)) h_57 rfl rfl Try.sizeOf48 rfl (At.t (At.t At.h)) (by decide) (Sg.t rfl (Sg.t rfl (Sg.t rfl (Sg.t rfl (Sg.t rfl Sg.h))))) (fun w_58 h_59 => ?_)
      refine WL.nil ?_
      refine ⟨(SL.cons (h_59.ok _ (.tail _ (.head _))) (SL.cons (h_59.ok _ (.tail _ (.tail _ (.tail _ (.head _))))) (SL.cons (h_59.ok _ (.tail _ (.tail _ (.tail _ (.tail _ (.head _)))))) (SL.cons (h_59.ok _ (.tail _ (.tail _ (.tail _ (.tail _ (.tail _ (.head _))))))) (SL.cons (h_59.ok _ (.tail _ (.tail _ (.tail _ (.tail _ (.tail _ (.tail _ (.head _)))))))) (SL.cons (h_59.ok _ (.tail _ (.tail _ (.tail _ (.tail _ (.tail _ (.tail _ (.tail _ (.head _))))))))) (SL.cons (h_59.ok _ (.tail _ (.tail _ (.tail _ (.tail _ (.tail _ (.tail _ (.tail _ (.tail _ (.tail _ (.head _))))))))))) (SL.cons (h_59.ok _ (.tail _ (.tail _ (.tail _ (.tail _ (.tail _ (.tail _ (.tail _ (.tail _ (.tail _ (.tail _ (.head _)))))))))))) (SL.cons (h_59.ok _ (.tail _ (.tail _ (.tail _ (.tail _ (.tail _ (.tail _ (.tail _ (.tail _ (.tail _ (.tail _ (.tail _ (.head _))))))))))))) (SL.nil _ _)))))))))), ?_⟩
      refine WT.nil ?_
      refine thn_n ?_
      exact ⟨(b_51, a_54, c_55), (Ag.upd rfl (Ag.upd rfl (Ag.upd rfl (Ag.upd rfl (Ag.upd rfl (Ag.upd rfl (Ag.upd rfl (Ag.upd rfl (Ag.upd rfl (Ag.upd rfl (Ag.upd rfl (Ag.upd rfl (Ag.refl _ _))))))))))))), ⟨rfl, rfl, rfl, rfl, rfl, rfl, rfl, rfl, rfl, rfl, rfl, rfl, trivial⟩, h_59⟩
  · rintro ⟨b_63, a_64, c_65⟩ J_60 w_61 h_62
    refine thn_n ?_
    refine WP.seq ?_
    refine WP.reg ?_
    refine WL.q (Wn.no rfl) rfl rfl (R.loadA (b := b_16) (off := 0) [] [(32, (drawF df dn u).map vu8)] [] (cs := (drawF df dn u).map vu8) rfl Try.isAgg23 Try.sizeOf23 (h_62.ok _ (.tail _ (.tail _ (.tail _ (.tail _ (.head _)))))) rfl rfl rfl rfl) ?_
    refine WL.storeA (b := b_4) (off := 0) [] [(32, (List.replicate 32 (0 : UInt8)).map vu8)] [(32, (drawF df dn u).map vu8)] [] (ys := (drawF df dn u).map vu8) h_62 rfl rfl Try.sizeOf23 (At.t (At.t (At.t (At.t (At.t (At.t At.h)))))) (by decide) rfl rfl rfl rfl rfl rfl (SsOk.cons (SOk.u8 (drawF_len hdf)) SsOk.nil) (fun w_66 h_67 => ?_)
    refine WL.nil ?_
    refine thn_n ?_
    refine WP.ret ?_
    refine ret_of Try.results79 (RV.cell rfl (h_67.loadA (cs := (drawF df dn u).map vu8) Try.isAgg23 Try.sizeOf23 (.tail _ (.tail _ (.tail _ (.tail _ (.tail _ (.tail _ (.head _))))))) rfl rfl) RV.nil) ?_
    have h_68 := h_67.drop rfl
    have h_69 := h_68.up (Pick.t (Pick.t (Pick.t Pick.h)))
    have h_70 := h_69.drop rfl
    have h_71 := h_70.up (Pick.t (Pick.t (Pick.t Pick.h)))
    have h_72 := h_71.drop rfl
    have h_73 := h_72.up (Pick.t (Pick.t (Pick.t Pick.h)))
    have h_74 := h_73.drop rfl
    have h_75 := h_74.up (Pick.t (Pick.t (Pick.t Pick.h)))
    have h_76 := h_75.drop rfl
    have h_77 := h_76.up (Pick.t (Pick.t (Pick.t (Pick.t (Pick.t (Pick.t Pick.h))))))
    have h_78 := h_77.up (Pick.t (Pick.t (Pick.t Pick.h)))
    have h_79 := h_78.up (Pick.t (Pick.t (Pick.t (Pick.t (Pick.t Pick.h)))))
    have h_80 := h_79.up (Pick.t (Pick.t (Pick.t (Pick.t (Pick.t Pick.h)))))
    have h_81 := h_80.up (Pick.t (Pick.t (Pick.t (Pick.t (Pick.t Pick.h)))))
    have h_82 := h_81.up (Pick.t (Pick.t (Pick.t (Pick.t (Pick.t (Pick.t Pick.h))))))
    have h_83 := h_82.up (Pick.t (Pick.t (Pick.t (Pick.t (Pick.t (Pick.t Pick.h))))))
    have h_84 := HP_logPush (q := (kd, key, dm, data)) (d := drawF df dn u) h_83 hq (drawF_len hdf) hdl
    have h_86 := h_84.up (Pick.t Pick.h)
    have h_87 := h_86.drop rfl
    have h_88 := h_87.up (Pick.t Pick.h)
    have h_89 := h_88.drop rfl
    have h_90 := h_89.up (Pick.t (Pick.t (Pick.t (Pick.t (Pick.t Pick.h)))))
    have h_91 := h_90.up (Pick.t (Pick.t (Pick.t (Pick.t (Pick.t Pick.h)))))
    have h_92 := h_91.up (Pick.t (Pick.t Pick.h))
    have h_93 := h_92.up (Pick.t (Pick.t (Pick.t (Pick.t (Pick.t Pick.h)))))
    have h_94 := h_93.up (Pick.t (Pick.t (Pick.t (Pick.t (Pick.t Pick.h)))))
    have h_95 := h_94.up (Pick.t (Pick.t (Pick.t (Pick.t (Pick.t Pick.h)))))
    have hse : lg.length + 1 = (lg ++ [((kd, key, dm, data), drawF df dn u)]).length := snoc_len.symm
    have hme := mArr_push lg (kd, key, dm, data) (drawF df dn u)
    have h_85 := h_95
    rw [hse] at h_85
    exact ⟨_, _, _, by rw [anD_miss hfd]; rfl, by rw [anU_miss hfd, anL_miss hfd]; show HP _ _ (_ :: _ :: .obj _ _ (.map (mArr (lg ++ [((kd, key, dm, data), drawF df dn u)])) _) :: _); rw [hme]; exact h_85⟩

theorem c_ans_missF {w00 : World} {L : List Ent} (ob mp : Nat) (ms df : List UInt8) (hms : ms.length = 32) (da : Option Addr) (dn dc u : Nat) (hdf : df.length = 32 * dn) (la : Option Addr) (lc : Nat) (lx : List Value) (lg : Lg) (hu : u ≤ 1000000) (hlg : lg.length ≤ 1000000) (kd dm : Int) (key data : List UInt8) (qa : Option Addr) (qn qc : Nat) (hq : okQ (kd, key, dm, data)) (hdl : data.length = qn) (bq : Nat) (hfd : fdq (kd, key, dm, data) lg 0 = none) (w : World) (h_0 : HP w00 w (Ent.blk ob .nw 50 [(1, [(.bool false)]), (32, ms.map vu8), (1, [(.slice da dn dc)]), (1, [(vi ((u : Nat) : Int))]), (1, [(.map (some mp))]), (1, [(.slice la lg.length lc)])] :: Ent.row la lg.length lc 111 67 lx :: Ent.obj mp .nw (.map (mArr lg) lg.length) :: Ent.pin (sblks lx) (fun w => Lgs w lx lg) :: Ent.view da (df.map vu8) :: Ent.view qa (data.map vu8) :: Ent.blk bq .nw 103 [(1, [(vi kd)]), (32, key.map vu8), (1, [(vi dm)]), (1, [(.slice qa qn qc)])] :: L)) :
    Cs Try.prog 79 [(.pointer (some ⟨ob, 0, none⟩)), (.agg ⟨flat [(1, [(vi kd)]), (32, key.map vu8), (1, [(vi dm)]), (1, [(.slice qa qn qc)])]⟩), (Value.func (Fn.func 80) [].toArray [(Value.pointer (some ⟨bq, 0, none⟩))].toArray)].toArray w (fun v w1 => ∃ la' lc' lx', v = (.agg ⟨(anD false df dn u lg (kd, key, dm, data)).map vu8⟩) ∧ HP w00 w1 (Ent.blk ob .nw 50 [(1, [(.bool false)]), (32, ms.map vu8), (1, [(.slice da dn dc)]), (1, [(vi (((anU false u lg (kd, key, dm, data)) : Nat) : Int))]), (1, [(.map (some mp))]), (1, [(.slice la' ((anL false df dn u lg (kd, key, dm, data)).length) lc')])] :: Ent.row la' ((anL false df dn u lg (kd, key, dm, data)).length) lc' 111 67 lx' :: Ent.obj mp .nw (.map (mArr (anL false df dn u lg (kd, key, dm, data))) ((anL false df dn u lg (kd, key, dm, data)).length)) :: Ent.pin (sblks lx') (fun w => Lgs w lx' (anL false df dn u lg (kd, key, dm, data))) :: Ent.view da (df.map vu8) :: Ent.view qa (data.map vu8) :: Ent.blk bq .nw 103 [(1, [(vi kd)]), (32, key.map vu8), (1, [(vi dm)]), (1, [(.slice qa qn qc)])] :: L)) := by
  have hlgs : Lgs w lx lg := (h_0.ok _ (.tail _ (.tail _ (.tail _ (.head _))))).1
  have hlo := hlgs.ok
  have hqn : data.length ≤ 1000000000 := hq.2.2.2
  refine Cs.of (n := 74) (args := [(.pointer (some ⟨ob, 0, none⟩)), (.agg ⟨flat [(1, [(vi kd)]), (32, key.map vu8), (1, [(vi dm)]), (1, [(.slice qa qn qc)])]⟩), (Value.func (Fn.func 80) [].toArray [(Value.pointer (some ⟨bq, 0, none⟩))].toArray)]) Try.func79 rfl rfl rfl ?_
  refine WP.seq ?_
  refine WP.reg ?_
  refine WL.box (v := (.agg ⟨flat [(1, [(vi kd)]), (32, key.map vu8), (1, [(vi dm)]), (1, [(.slice qa qn qc)])]⟩)) (segs := [(1, [(vi kd)]), (32, key.map vu8), (1, [(vi dm)]), (1, [(.slice qa qn qc)])]) h_0 rfl rfl (SsOk.cons (SOk.v rfl) (SsOk.cons (SOk.u8 hq.1) (SsOk.cons (SOk.v rfl) (SsOk.cons (SOk.v rfl) SsOk.nil)))) rfl (fun b_1 w_2 h_3 => ?_)
  refine WL.alloc (segs := [(32, (List.replicate 32 (0 : UInt8)).map vu8)]) h_3 (zv Try.typeInfo23 rfl) rfl (SsOk.cons (SOk.u8 (List.length_replicate ..)) SsOk.nil) rfl (fun b_4 w_5 h_6 => ?_)
  refine WL.nil ?_
  refine thn_n ?_
  refine WP.seq ?_
  refine WP.reg ?_
  refine WL.q (Wn.no rfl) rfl rfl (R.fieldAddr (b := b_1) (off := 0) (off' := 0) rfl Try.underlying103 rfl Try.sizeOf101 rfl rfl) ?_
  refine WL.q (Wn.no rfl) rfl rfl (R.load1 (b := b_1) (off := 0) (v := (vi kd)) rfl Try.isAgg101 (h_6.ok _ (.tail _ (.head _))) Sg.h) ?_
  refine WL.q (Wn.no rfl) rfl rfl (R.fieldAddr (b := b_1) (off := 0) (off' := 1) rfl Try.underlying103 rfl Try.sizeOf23 rfl rfl) ?_
  refine WL.q (Wn.no rfl) rfl rfl (R.loadA (b := b_1) (off := 1) [(1, [(vi kd)])] [(32, key.map vu8)] [(1, [(vi dm)]), (1, [(.slice qa qn qc)])] (cs := key.map vu8) rfl Try.isAgg23 Try.sizeOf23 (h_6.ok _ (.tail _ (.head _))) rfl rfl rfl rfl) ?_
  refine WL.q (Wn.no rfl) rfl rfl (R.fieldAddr (b := b_1) (off := 0) (off' := 33) rfl Try.underlying103 rfl Try.sizeOf56 rfl rfl) ?_
  refine WL.q (Wn.no rfl) rfl rfl (R.load1 (b := b_1) (off := 33) (v := (vi dm)) rfl Try.isAgg56 (h_6.ok _ (.tail _ (.head _))) (Sg.t rfl (Sg.t rfl Sg.h))) ?_
  refine WL.q (Wn.no rfl) rfl rfl (R.fieldAddr (b := b_1) (off := 0) (off' := 34) rfl Try.underlying103 rfl Try.sizeOf37 rfl rfl) ?_
  refine WL.q (Wn.no rfl) rfl rfl (R.load1 (b := b_1) (off := 34) (v := (.slice qa qn qc)) rfl Try.isAgg37 (h_6.ok _ (.tail _ (.head _))) (Sg.t rfl (Sg.t rfl (Sg.t rfl Sg.h)))) ?_
  refine WL.q (Wn.no rfl) rfl rfl (R.toStr (bs := data) rfl Try.underlying37 Try.underlying5 Try.underlying9 (viewV (h_6.ok _ (.tail _ (.tail _ (.tail _ (.tail _ (.tail _ (.tail _ (.tail _ (.head _)))))))))) hdl) ?_
  refine WL.q (Wn.no rfl) rfl rfl (R.buildS (pl := [(0, 1), (1, 32), (33, 1), (34, 1)]) (zs := [(1, [(vi 0)]), (32, (List.replicate 32 (0 : UInt8)).map vu8), (1, [(vi 0)]), (1, [(.string (bstr ([] : List UInt8)))])]) (vs := [(0, (vi kd)), (1, (.agg ⟨key.map vu8⟩)), (2, (vi dm)), (3, (.string (bstr data)))]) (out := [(1, [(vi kd)]), (32, key.map vu8), (1, [(vi dm)]), (1, [(.string (bstr data))])]) (cs := flat [(1, [(vi kd)]), (32, key.map vu8), (1, [(vi dm)]), (1, [(.string (bstr data))])]) Try.underlying157 (zv Try.typeInfo157 rfl) rfl (SsOk.cons (SOk.v rfl) (SsOk.cons (SOk.u8 (List.length_replicate ..)) (SsOk.cons (SOk.v rfl) (SsOk.cons (SOk.v rfl) SsOk.nil)))) (pl157 _ Try.underlying157) rfl (FillR.cons [] [(1, [(vi 0)])] [(1, [(vi kd)])] [(32, (List.replicate 32 (0 : UInt8)).map vu8), (1, [(vi 0)]), (1, [(.string (bstr ([] : List UInt8)))])] rfl rfl rfl rfl (SsOk.cons (SOk.v rfl) SsOk.nil) rfl rfl rfl (FillR.cons [(1, [(vi kd)])] [(32, (List.replicate 32 (0 : UInt8)).map vu8)] [(32, key.map vu8)] [(1, [(vi 0)]), (1, [(.string (bstr ([] : List UInt8)))])] rfl rfl rfl rfl (SsOk.cons (SOk.u8 hq.1) SsOk.nil) rfl rfl rfl (FillR.cons [(1, [(vi kd)]), (32, key.map vu8)] [(1, [(vi 0)])] [(1, [(vi dm)])] [(1, [(.string (bstr ([] : List UInt8)))])] rfl rfl rfl rfl (SsOk.cons (SOk.v rfl) SsOk.nil) rfl rfl rfl (FillR.cons [(1, [(vi kd)]), (32, key.map vu8), (1, [(vi dm)])] [(1, [(.string (bstr ([] : List UInt8)))])] [(1, [(.string (bstr data))])] [] rfl rfl rfl rfl (SsOk.cons (SOk.v rfl) SsOk.nil) rfl rfl rfl FillR.nil)))) rfl) ?_
  refine WL.alloc (segs := [(1, [(vi 0)]), (32, (List.replicate 32 (0 : UInt8)).map vu8), (1, [(vi 0)]), (1, [(.string (bstr ([] : List UInt8)))])]) h_6 (zv Try.typeInfo157 rfl) rfl (SsOk.cons (SOk.v rfl) (SsOk.cons (SOk.u8 (List.length_replicate ..)) (SsOk.cons (SOk.v rfl) (SsOk.cons (SOk.v rfl) SsOk.nil)))) rfl (fun b_8 w_9 h_10 => ?_)
  refine WL.storeA (b := b_8) (off := 0) [] [(1, [(vi 0)]), (32, (List.replicate 32 (0 : UInt8)).map vu8), (1, [(vi 0)]), (1, [(.string (bstr ([] : List UInt8)))])] [(1, [(vi kd)]), (32, key.map vu8), (1, [(vi dm)]), (1, [(.string (bstr data))])] [] (ys := flat [(1, [(vi kd)]), (32, key.map vu8), (1, [(vi dm)]), (1, [(.string (bstr data))])]) h_10 rfl rfl Try.sizeOf157 At.h (by decide) rfl rfl rfl rfl rfl rfl (SsOk.cons (SOk.v rfl) (SsOk.cons (SOk.u8 hq.1) (SsOk.cons (SOk.v rfl) (SsOk.cons (SOk.v rfl) SsOk.nil)))) (fun w_11 h_12 => ?_)
  refine WL.nil ?_
  refine thn_n ?_
  refine WP.seq ?_
  refine WP.seq ?_
  refine WP.drawT (SL w00.heap.size [.blk b_8 .nw 157 [(1, [(vi kd)]), (32, key.map vu8), (1, [(vi dm)]), (1, [(.string (bstr data))])], .blk b_4 .nw 23 [(32, (List.replicate 32 (0 : UInt8)).map vu8)], .blk b_1 .nw 103 [(1, [(vi kd)]), (32, key.map vu8), (1, [(vi dm)]), (1, [(.slice qa qn qc)])], .blk ob .nw 50 [(1, [(.bool false)]), (32, ms.map vu8), (1, [(.slice da dn dc)]), (1, [(vi ((u : Nat) : Int))]), (1, [(.map (some mp))]), (1, [(.slice la lg.length lc)])], .row la lg.length lc 111 67 lx, .obj mp .nw (.map (mArr lg) lg.length), .pin (sblks lx) (fun w => Lgs w lx lg), .view da (df.map vu8), .view qa (data.map vu8), .blk bq .nw 103 [(1, [(vi kd)]), (32, key.map vu8), (1, [(vi dm)]), (1, [(.slice qa qn qc)])]]) (.q 0 (.q 1 (.q 2 (.q 3 (.q 4 (.s 5 (.q 6 (.q 7 (.q 8 (.q 9 (.q 10 .nil))))))))))) (by kernel_rfl) (by kernel_rfl) rfl (by kernel_rfl) (fun w_13 hc_15 => (SL.cons ((h_12.same hc_15).ok _ (.head _)) (SL.cons ((h_12.same hc_15).ok _ (.tail _ (.head _))) (SL.cons ((h_12.same hc_15).ok _ (.tail _ (.tail _ (.head _)))) (SL.cons ((h_12.same hc_15).ok _ (.tail _ (.tail _ (.tail _ (.head _))))) (SL.cons ((h_12.same hc_15).ok _ (.tail _ (.tail _ (.tail _ (.tail _ (.head _)))))) (SL.cons ((h_12.same hc_15).ok _ (.tail _ (.tail _ (.tail _ (.tail _ (.tail _ (.head _))))))) (SL.cons ((h_12.same hc_15).ok _ (.tail _ (.tail _ (.tail _ (.tail _ (.tail _ (.tail _ (.head _)))))))) (SL.cons ((h_12.same hc_15).ok _ (.tail _ (.tail _ (.tail _ (.tail _ (.tail _ (.tail _ (.tail _ (.head _))))))))) (SL.cons ((h_12.same hc_15).ok _ (.tail _ (.tail _ (.tail _ (.tail _ (.tail _ (.tail _ (.tail _ (.tail _ (.head _)))))))))) (SL.cons ((h_12.same hc_15).ok _ (.tail _ (.tail _ (.tail _ (.tail _ (.tail _ (.tail _ (.tail _ (.tail _ (.tail _ (.head _))))))))))) (SL.nil _ _)))))))))))) (fun w_13 hc_15 => ?_)
  have h_14 := h_12.same hc_15
  refine WT.q rfl (Wn.no rfl) rfl rfl (fun wq hS => R.move (v := (.pointer (some ⟨ob, 0, none⟩))) rfl) ?_
  refine WT.q rfl (Wn.no rfl) rfl rfl (fun wq hS => R.nilCheck rfl) ?_
  refine WT.q rfl (Wn.no rfl) rfl rfl (fun wq hS => R.fieldAddr (b := ob) (off := 0) (off' := 35) rfl Try.underlying50 rfl Try.sizeOf47 rfl rfl) ?_
  refine WT.q rfl (Wn.no rfl) rfl rfl (fun wq hS => R.load1 (b := ob) (off := 35) (v := (.map (some mp))) rfl Try.isAgg47 (hS _ (.tail _ (.tail _ (.tail _ (.head _))))) (Sg.t rfl (Sg.t rfl (Sg.t rfl (Sg.t rfl Sg.h))))) ?_
  refine WT.q rfl (Wn.no rfl) rfl rfl (fun wq hS => R.loadA (b := b_8) (off := 0) [] [(1, [(vi kd)]), (32, key.map vu8), (1, [(vi dm)]), (1, [(.string (bstr data))])] [] (cs := flat [(1, [(vi kd)]), (32, key.map vu8), (1, [(vi dm)]), (1, [(.string (bstr data))])]) rfl Try.isAgg157 Try.sizeOf157 (hS _ (.head _)) rfl rfl rfl rfl) ?_
  refine WT.s ?_
  refine Op1.one rfl (Wn.no rfl) ?_
  refine WL.q (Wn.no rfl) rfl rfl (R.lookup (r := none) (z := (vi 0)) (v := (vi 0)) (ok := false) rfl rfl Try.underlying47 (h_14.ok _ (.tail _ (.tail _ (.tail _ (.tail _ (.tail _ (.head _))))))) (Ck.agg kt157 (by decide) ag157 (typQ (kd, key, dm, data) hq)) (log_miss kt157 (by decide) ag157 typQ hq hlo hfd) (zv Try.typeInfo3 rfl) rfl rfl) ?_
  refine WL.nil ?_
  refine ⟨(SL.cons (h_14.ok _ (.head _)) (SL.cons (h_14.ok _ (.tail _ (.head _))) (SL.cons (h_14.ok _ (.tail _ (.tail _ (.head _)))) (SL.cons (h_14.ok _ (.tail _ (.tail _ (.tail _ (.head _))))) (SL.cons (h_14.ok _ (.tail _ (.tail _ (.tail _ (.tail _ (.head _)))))) (SL.cons (h_14.ok _ (.tail _ (.tail _ (.tail _ (.tail _ (.tail _ (.head _))))))) (SL.cons (h_14.ok _ (.tail _ (.tail _ (.tail _ (.tail _ (.tail _ (.tail _ (.head _)))))))) (SL.cons (h_14.ok _ (.tail _ (.tail _ (.tail _ (.tail _ (.tail _ (.tail _ (.tail _ (.head _))))))))) (SL.cons (h_14.ok _ (.tail _ (.tail _ (.tail _ (.tail _ (.tail _ (.tail _ (.tail _ (.tail _ (.head _)))))))))) (SL.cons (h_14.ok _ (.tail _ (.tail _ (.tail _ (.tail _ (.tail _ (.tail _ (.tail _ (.tail _ (.tail _ (.head _))))))))))) (SL.nil _ _))))))))))), ?_⟩
  refine WT.q rfl (Wn.no rfl) rfl rfl (fun wq hS => R.move (v := (.tuple [(vi 0), (.bool false)].toArray)) rfl) ?_
  refine WT.q rfl (Wn.no rfl) rfl rfl (fun wq hS => R.extract (l := [(vi 0), (.bool false)]) (v := (vi 0)) rfl rfl) ?_
  refine WT.q rfl (Wn.no rfl) rfl rfl (fun wq hS => R.extract (l := [(vi 0), (.bool false)]) (v := (.bool false)) rfl rfl) ?_
  refine WT.q rfl (Wn.no rfl) rfl rfl (fun wq hS => R.assign (v := (vi 0)) rfl) ?_
  refine WT.q rfl (Wn.no rfl) rfl rfl (fun wq hS => R.assign (v := (.bool false)) rfl) ?_
  refine WT.nil ?_
  refine thn_n ?_
  refine WP.seq ?_
  refine WP.reg ?_
  refine WL.q (Wn.no rfl) rfl rfl (R.move (v := (.bool false)) rfl) ?_
  refine WL.nil ?_
  refine thn_n ?_
  refine WP.condF rfl ?_
  refine WP.skip ?_
  refine thn_n ?_
  refine WP.seq ?_
  refine WP.reg ?_
  refine WL.alloc (segs := [(32, (List.replicate 32 (0 : UInt8)).map vu8)]) h_14 (zv Try.typeInfo23 rfl) rfl (SsOk.cons (SOk.u8 (List.length_replicate ..)) SsOk.nil) rfl (fun b_16 w_17 h_18 => ?_)
  refine WL.nil ?_
  refine thn_n ?_
  refine WP.seq ?_
  refine WP.seq ?_
  refine WP.reg ?_
  refine WL.q (Wn.no rfl) rfl rfl (R.move (v := (.pointer (some ⟨ob, 0, none⟩))) rfl) ?_
  refine WL.q (Wn.no rfl) rfl rfl (R.nilCheck rfl) ?_
  refine WL.q (Wn.no rfl) rfl rfl (R.fieldAddr (b := ob) (off := 0) (off' := 0) rfl Try.underlying50 rfl Try.sizeOf4 rfl rfl) ?_
  refine WL.q (Wn.no rfl) rfl rfl (R.load1 (b := ob) (off := 0) (v := (.bool false)) rfl Try.isAgg4 (h_18.ok _ (.tail _ (.tail _ (.tail _ (.tail _ (.head _)))))) Sg.h) ?_
  refine WL.nil ?_
  refine thn_n ?_
  refine WP.condF rfl ?_
  refine WP.reg ?_
  refine WL.q (Wn.no rfl) rfl rfl (R.move (v := (Value.func (Fn.func 80) [].toArray [(Value.pointer (some ⟨bq, 0, none⟩))].toArray)) rfl) ?_
  refine WL.call (al := [(.pointer (some ⟨bq, 0, none⟩))]) Try.call80 rfl rfl (c_oCl kd dm key data qa qn qc hq hdl bq _ (viewV (h_18.ok _ (.tail _ (.tail _ (.tail _ (.tail _ (.tail _ (.tail _ (.tail _ (.tail _ (.tail _ (.head _)))))))))))) (h_18.argR (.tail _ (.tail _ (.tail _ (.tail _ (.tail _ (.tail _ (.tail _ (.tail _ (.tail _ (.tail _ (.head _))))))))))))) rfl ?_
  rintro _ w_20 ⟨rfl, hc_19⟩
  have h_21 := h_18.same hc_19
  refine WL.storeA (b := b_16) (off := 0) [] [(32, (List.replicate 32 (0 : UInt8)).map vu8)] [(32, (cF (kd, key, dm, data)).map vu8)] [] (ys := (cF (kd, key, dm, data)).map vu8) h_21 rfl rfl Try.sizeOf23 At.h (by decide) rfl rfl rfl rfl rfl rfl (SsOk.cons (SOk.u8 (cF_len _)) SsOk.nil) (fun w_22 h_23 => ?_)
  refine WL.nil ?_
  refine thn_n ?_
  refine WP.seq ?_
  refine WP.reg ?_
  refine WL.q (Wn.no rfl) rfl rfl (R.fieldAddr (b := b_1) (off := 0) (off' := 34) rfl Try.underlying103 rfl Try.sizeOf37 rfl rfl) ?_
  refine WL.q (Wn.no rfl) rfl rfl (R.load1 (b := b_1) (off := 34) (v := (.slice qa qn qc)) rfl Try.isAgg37 (h_23.ok _ (.tail _ (.tail _ (.tail _ (.head _))))) (Sg.t rfl (Sg.t rfl (Sg.t rfl Sg.h)))) ?_
  refine WL.call (al := [(.slice qa qn qc)]) Try.call58 rfl rfl (c_Clone qa qn qc data hdl (by omega) _ (viewV (h_23.ok _ (.tail _ (.tail _ (.tail _ (.tail _ (.tail _ (.tail _ (.tail _ (.tail _ (.tail _ (.head _))))))))))))) rfl ?_
  rintro _ w_26 ⟨a_24, cap_25, rfl, hc_27, ho_28⟩
  have h_29 := h_23.gotRow hc_27 ho_28
  refine WL.q (Wn.no rfl) rfl rfl (R.fieldAddr (b := b_1) (off := 0) (off' := 34) rfl Try.underlying103 rfl Try.sizeOf37 rfl rfl) ?_
  refine WL.store1 (b := b_1) (off := 34) (v := (.slice a_24 qn cap_25)) h_29 rfl rfl Try.sizeOf37 rfl (At.t (At.t (At.t (At.t At.h)))) (by decide) (Sg.t rfl (Sg.t rfl (Sg.t rfl Sg.h))) (fun w_30 h_31 => ?_)
  refine WL.nil ?_
  refine thn_n ?_
  refine WP.seq ?_
  refine WP.drawT (SL w00.heap.size [.row a_24 qn cap_25 5 1 (data.map vu8), .blk b_16 .nw 23 [(32, (cF (kd, key, dm, data)).map vu8)], .blk b_8 .nw 157 [(1, [(vi kd)]), (32, key.map vu8), (1, [(vi dm)]), (1, [(.string (bstr data))])], .blk b_4 .nw 23 [(32, (List.replicate 32 (0 : UInt8)).map vu8)], .blk b_1 .nw 103 [(1, [(vi kd)]), (32, key.map vu8), (1, [(vi dm)]), (1, [(.slice a_24 qn cap_25)])], .blk ob .nw 50 [(1, [(.bool false)]), (32, ms.map vu8), (1, [(.slice da dn dc)]), (1, [(vi ((u : Nat) : Int))]), (1, [(.map (some mp))]), (1, [(.slice la lg.length lc)])], .row la lg.length lc 111 67 lx, .pin (sblks lx) (fun w => Lgs w lx lg), .view da (df.map vu8), .view qa (data.map vu8), .blk bq .nw 103 [(1, [(vi kd)]), (32, key.map vu8), (1, [(vi dm)]), (1, [(.slice qa qn qc)])]]) (.q 0 (.q 1 (.q 2 (.q 3 (.q 4 (.q 5 (.q 6 (.q 7 (.q 8 (.q 9 (.s 10 .nil))))))))))) (by kernel_rfl) (by kernel_rfl) rfl (by kernel_rfl) (fun w_32 hc_34 => (SL.cons ((h_31.same hc_34).ok _ (.head _)) (SL.cons ((h_31.same hc_34).ok _ (.tail _ (.head _))) (SL.cons ((h_31.same hc_34).ok _ (.tail _ (.tail _ (.head _)))) (SL.cons ((h_31.same hc_34).ok _ (.tail _ (.tail _ (.tail _ (.head _))))) (SL.cons ((h_31.same hc_34).ok _ (.tail _ (.tail _ (.tail _ (.tail _ (.head _)))))) (SL.cons ((h_31.same hc_34).ok _ (.tail _ (.tail _ (.tail _ (.tail _ (.tail _ (.head _))))))) (SL.cons ((h_31.same hc_34).ok _ (.tail _ (.tail _ (.tail _ (.tail _ (.tail _ (.tail _ (.head _)))))))) (SL.cons ((h_31.same hc_34).ok _ (.tail _ (.tail _ (.tail _ (.tail _ (.tail _ (.tail _ (.tail _ (.tail _ (.head _)))))))))) (SL.cons ((h_31.same hc_34).ok _ (.tail _ (.tail _ (.tail _ (.tail _ (.tail _ (.tail _ (.tail _ (.tail _ (.tail _ (.head _))))))))))) (SL.cons ((h_31.same hc_34).ok _ (.tail _ (.tail _ (.tail _ (.tail _ (.tail _ (.tail _ (.tail _ (.tail _ (.tail _ (.tail _ (.head _)))))))))))) (SL.cons ((h_31.same hc_34).ok _ (.tail _ (.tail _ (.tail _ (.tail _ (.tail _ (.tail _ (.tail _ (.tail _ (.tail _ (.tail _ (.tail _ (.head _))))))))))))) (SL.nil _ _))))))))))))) (fun w_32 hc_34 => ?_)
  have h_33 := h_31.same hc_34
  refine WT.q rfl (Wn.no rfl) rfl rfl (fun wq hS => R.move (v := (.pointer (some ⟨ob, 0, none⟩))) rfl) ?_
  refine WT.q rfl (Wn.no rfl) rfl rfl (fun wq hS => R.nilCheck rfl) ?_
  refine WT.q rfl (Wn.no rfl) rfl rfl (fun wq hS => R.fieldAddr (b := ob) (off := 0) (off' := 35) rfl Try.underlying50 rfl Try.sizeOf47 rfl rfl) ?_
  refine WT.q rfl (Wn.no rfl) rfl rfl (fun wq hS => R.load1 (b := ob) (off := 35) (v := (.map (some mp))) rfl Try.isAgg47 (hS _ (.tail _ (.tail _ (.tail _ (.tail _ (.tail _ (.head _))))))) (Sg.t rfl (Sg.t rfl (Sg.t rfl (Sg.t rfl Sg.h))))) ?_
  refine WT.q rfl (Wn.no rfl) rfl rfl (fun wq hS => R.loadA (b := b_8) (off := 0) [] [(1, [(vi kd)]), (32, key.map vu8), (1, [(vi dm)]), (1, [(.string (bstr data))])] [] (cs := flat [(1, [(vi kd)]), (32, key.map vu8), (1, [(vi dm)]), (1, [(.string (bstr data))])]) rfl Try.isAgg157 Try.sizeOf157 (hS _ (.tail _ (.tail _ (.head _)))) rfl rfl rfl rfl) ?_
  refine WT.q rfl (Wn.no rfl) rfl rfl (fun wq hS => R.move (v := (.pointer (some ⟨ob, 0, none⟩))) rfl) ?_
  refine WT.q rfl (Wn.no rfl) rfl rfl (fun wq hS => R.nilCheck rfl) ?_
  refine WT.q rfl (Wn.no rfl) rfl rfl (fun wq hS => R.fieldAddr (b := ob) (off := 0) (off' := 36) rfl Try.underlying50 rfl Try.sizeOf48 rfl rfl) ?_
  refine WT.q rfl (Wn.no rfl) rfl rfl (fun wq hS => R.load1 (b := ob) (off := 36) (v := (.slice la lg.length lc)) rfl Try.isAgg48 (hS _ (.tail _ (.tail _ (.tail _ (.tail _ (.tail _ (.head _))))))) (Sg.t rfl (Sg.t rfl (Sg.t rfl (Sg.t rfl (Sg.t rfl Sg.h)))))) ?_
  refine WT.q rfl (Wn.no rfl) rfl rfl (fun wq hS => R.lenS (a := la) (m := lg.length) rfl rfl Try.underlying48) ?_
  refine WT.s ?_
  refine Op1.one rfl (Wn.no rfl) ?_
  refine WL.mapUpdate (k := (.agg ⟨flat [(1, [(vi kd)]), (32, key.map vu8), (1, [(vi dm)]), (1, [(.string (bstr data))])]⟩)) (v := (vi ((lg.length : Nat) : Int))) h_33 rfl rfl rfl Try.underlying47 (At.t (At.t (At.t (At.t (At.t (At.t (At.t At.h))))))) (by decide) (Ck.agg kt157 (by decide) ag157 (typQ (kd, key, dm, data) hq)) (log_miss kt157 (by decide) ag157 typQ hq hlo hfd) (fun w_35 h_36 => ?_)
  refine WL.nil ?_
  refine ⟨(SL.cons (h_36.ok _ (.head _)) (SL.cons (h_36.ok _ (.tail _ (.head _))) (SL.cons (h_36.ok _ (.tail _ (.tail _ (.head _)))) (SL.cons (h_36.ok _ (.tail _ (.tail _ (.tail _ (.head _))))) (SL.cons (h_36.ok _ (.tail _ (.tail _ (.tail _ (.tail _ (.head _)))))) (SL.cons (h_36.ok _ (.tail _ (.tail _ (.tail _ (.tail _ (.tail _ (.head _))))))) (SL.cons (h_36.ok _ (.tail _ (.tail _ (.tail _ (.tail _ (.tail _ (.tail _ (.head _)))))))) (SL.cons (h_36.ok _ (.tail _ (.tail _ (.tail _ (.tail _ (.tail _ (.tail _ (.tail _ (.tail _ (.head _)))))))))) (SL.cons (h_36.ok _ (.tail _ (.tail _ (.tail _ (.tail _ (.tail _ (.tail _ (.tail _ (.tail _ (.tail _ (.head _))))))))))) (SL.cons (h_36.ok _ (.tail _ (.tail _ (.tail _ (.tail _ (.tail _ (.tail _ (.tail _ (.tail _ (.tail _ (.tail _ (.head _)))))))))))) (SL.cons (h_36.ok _ (.tail _ (.tail _ (.tail _ (.tail _ (.tail _ (.tail _ (.tail _ (.tail _ (.tail _ (.tail _ (.tail _ (.head _))))))))))))) (SL.nil _ _)))))))))))), ?_⟩
  refine WT.nil ?_
  refine thn_n ?_
  refine WP.seq ?_
  refine WP.cutG (G := Nat × Option Addr × Nat) [61, 62, 63, 64, 65, 66, 67, 68, 69, 70, 71, 72] (fun (bY11Y8Y0Y0, aY11Y9Y0Y0, cY11Y9Y0Y0) => [(61, (.pointer (some ⟨ob, 0, none⟩))), (62, (.pointer (some ⟨ob, 0, none⟩))), (63, (.pointer (some ⟨ob, 0, none⟩))), (64, (.pointer (some ⟨ob, 36, none⟩))), (66, (.agg ⟨flat [(1, [(vi kd)]), (32, key.map vu8), (1, [(vi dm)]), (1, [(.slice a_24 qn cap_25)])]⟩)), (67, (.agg ⟨(cF (kd, key, dm, data)).map vu8⟩)), (68, (.agg ⟨flat [(1, [(vi kd)]), (32, key.map vu8), (1, [(vi dm)]), (1, [(.slice a_24 qn cap_25)]), (32, (cF (kd, key, dm, data)).map vu8)]⟩)), (65, (.slice la lg.length lc)), (69, (.slice (some ⟨bY11Y8Y0Y0, 0, none⟩) 1 1)), (70, (.slice aY11Y9Y0Y0 (lg.length + 1) cY11Y9Y0Y0)), (71, (.pointer (some ⟨ob, 0, none⟩))), (72, (.pointer (some ⟨ob, 36, none⟩)))]) (fun (bY11Y8Y0Y0, aY11Y9Y0Y0, cY11Y9Y0Y0) w1 => HP w00 w1 (Ent.blk bY11Y8Y0Y0 .nw 111 [(67, aC (kd, key, dm, data) (.slice a_24 qn cap_25) (cF (kd, key, dm, data)))] :: Ent.row a_24 qn cap_25 5 1 (data.map vu8) :: Ent.blk b_16 .nw 23 [(32, (cF (kd, key, dm, data)).map vu8)] :: Ent.blk b_8 .nw 157 [(1, [(vi kd)]), (32, key.map vu8), (1, [(vi dm)]), (1, [(.string (bstr data))])] :: Ent.blk b_4 .nw 23 [(32, (List.replicate 32 (0 : UInt8)).map vu8)] :: Ent.blk b_1 .nw 103 [(1, [(vi kd)]), (32, key.map vu8), (1, [(vi dm)]), (1, [(.slice a_24 qn cap_25)])] :: Ent.blk ob .nw 50 [(1, [(.bool false)]), (32, ms.map vu8), (1, [(.slice da dn dc)]), (1, [(vi ((u : Nat) : Int))]), (1, [(.map (some mp))]), (1, [(.slice aY11Y9Y0Y0 (lg.length + 1) cY11Y9Y0Y0)])] :: Ent.row aY11Y9Y0Y0 (lg.length + 1) cY11Y9Y0Y0 111 67 (lx ++ aC (kd, key, dm, data) (.slice a_24 qn cap_25) (cF (kd, key, dm, data))) :: Ent.obj mp .nw (.map ((mArr lg).push { key := (.agg ⟨flat [(1, [(vi kd)]), (32, key.map vu8), (1, [(vi dm)]), (1, [(.string (bstr data))])]⟩), val := (vi ((lg.length : Nat) : Int)), born := lg.length }) (lg.length + 1)) :: Ent.pin (sblks lx) (fun w => Lgs w lx lg) :: Ent.view da (df.map vu8) :: Ent.view qa (data.map vu8) :: Ent.blk bq .nw 103 [(1, [(vi kd)]), (32, key.map vu8), (1, [(vi dm)]), (1, [(.slice qa qn qc)])] :: L)) ?_ ?_
  · refine WP.drawT (SL w00.heap.size [.row a_24 qn cap_25 5 1 (data.map vu8), .blk b_16 .nw 23 [(32, (cF (kd, key, dm, data)).map vu8)], .blk b_8 .nw 157 [(1, [(vi kd)]), (32, key.map vu8), (1, [(vi dm)]), (1, [(.string (bstr data))])], .blk b_4 .nw 23 [(32, (List.replicate 32 (0 : UInt8)).map vu8)], .blk b_1 .nw 103 [(1, [(vi kd)]), (32, key.map vu8), (1, [(vi dm)]), (1, [(.slice a_24 qn cap_25)])], .obj mp .nw (.map ((mArr lg).push { key := (.agg ⟨flat [(1, [(vi kd)]), (32, key.map vu8), (1, [(vi dm)]), (1, [(.string (bstr data))])]⟩), val := (vi ((lg.length : Nat) : Int)), born := lg.length }) (lg.length + 1)), .pin (sblks lx) (fun w => Lgs w lx lg), .view da (df.map vu8), .view qa (data.map vu8), .blk bq .nw 103 [(1, [(vi kd)]), (32, key.map vu8), (1, [(vi dm)]), (1, [(.slice qa qn qc)])]]) (.q 0 (.q 1 (.q 2 (.q 3 (.q 5 (.q 6 (.q 7 (.s2 4 8 (.s 8 (.s 9 (.q 10 (.q 11 (.s 12 .nil))))) (.s 4 (.s 9 (.q 10 (.q 11 (.s 12 .nil))))))))))))) (by kernel_rfl) (by kernel_rfl) rfl (by kernel_rfl) (fun w_37 hc_39 => (SL.cons ((h_36.same hc_39).ok _ (.head _)) (SL.cons ((h_36.same hc_39).ok _ (.tail _ (.head _))) (SL.cons ((h_36.same hc_39).ok _ (.tail _ (.tail _ (.head _)))) (SL.cons ((h_36.same hc_39).ok _ (.tail _ (.tail _ (.tail _ (.head _))))) (SL.cons ((h_36.same hc_39).ok _ (.tail _ (.tail _ (.tail _ (.tail _ (.head _)))))) (SL.cons ((h_36.same hc_39).ok _ (.tail _ (.tail _ (.tail _ (.tail _ (.tail _ (.tail _ (.tail _ (.head _))))))))) (SL.cons ((h_36.same hc_39).ok _ (.tail _ (.tail _ (.tail _ (.tail _ (.tail _ (.tail _ (.tail _ (.tail _ (.head _)))))))))) (SL.cons ((h_36.same hc_39).ok _ (.tail _ (.tail _ (.tail _ (.tail _ (.tail _ (.tail _ (.tail _ (.tail _ (.tail _ (.head _))))))))))) (SL.cons ((h_36.same hc_39).ok _ (.tail _ (.tail _ (.tail _ (.tail _ (.tail _ (.tail _ (.tail _ (.tail _ (.tail _ (.tail _ (.head _)))))))))))) (SL.cons ((h_36.same hc_39).ok _ (.tail _ (.tail _ (.tail _ (.tail _ (.tail _ (.tail _ (.tail _ (.tail _ (.tail _ (.tail _ (.tail _ (.head _))))))))))))) (SL.nil _ _)))))))))))) (fun w_37 hc_39 => ?_)
    have h_38 := h_36.same hc_39
    refine WT.q rfl (Wn.no rfl) rfl rfl (fun wq hS => R.move (v := (.pointer (some ⟨ob, 0, none⟩))) rfl) ?_
    refine WT.q rfl (Wn.no rfl) rfl rfl (fun wq hS => R.move (v := (.pointer (some ⟨ob, 0, none⟩))) rfl) ?_
    refine WT.q rfl (Wn.no rfl) rfl rfl (fun wq hS => R.nilCheck rfl) ?_
    refine WT.q rfl (Wn.no rfl) rfl rfl (fun wq hS => R.fieldAddr (b := ob) (off := 0) (off' := 36) rfl Try.underlying50 rfl Try.sizeOf48 rfl rfl) ?_
    refine WT.q rfl (Wn.no rfl) rfl rfl (fun wq hS => R.loadA (b := b_1) (off := 0) [] [(1, [(vi kd)]), (32, key.map vu8), (1, [(vi dm)]), (1, [(.slice a_24 qn cap_25)])] [] (cs := flat [(1, [(vi kd)]), (32, key.map vu8), (1, [(vi dm)]), (1, [(.slice a_24 qn cap_25)])]) rfl Try.isAgg103 Try.sizeOf103 (hS _ (.tail _ (.tail _ (.tail _ (.tail _ (.head _)))))) rfl rfl rfl rfl) ?_
    refine WT.q rfl (Wn.no rfl) rfl rfl (fun wq hS => R.loadA (b := b_16) (off := 0) [] [(32, (cF (kd, key, dm, data)).map vu8)] [] (cs := (cF (kd, key, dm, data)).map vu8) rfl Try.isAgg23 Try.sizeOf23 (hS _ (.tail _ (.head _))) rfl rfl rfl rfl) ?_
    refine WT.q rfl (Wn.no rfl) rfl rfl (fun wq hS => R.buildS (pl := [(0, 35), (35, 32)]) (zs := [(1, [(vi 0)]), (32, (List.replicate 32 (0 : UInt8)).map vu8), (1, [(vi 0)]), (1, [(.slice none 0 0)]), (32, (List.replicate 32 (0 : UInt8)).map vu8)]) (vs := [(0, (.agg ⟨flat [(1, [(vi kd)]), (32, key.map vu8), (1, [(vi dm)]), (1, [(.slice a_24 qn cap_25)])]⟩)), (1, (.agg ⟨(cF (kd, key, dm, data)).map vu8⟩))]) (out := [(1, [(vi kd)]), (32, key.map vu8), (1, [(vi dm)]), (1, [(.slice a_24 qn cap_25)]), (32, (cF (kd, key, dm, data)).map vu8)]) (cs := flat [(1, [(vi kd)]), (32, key.map vu8), (1, [(vi dm)]), (1, [(.slice a_24 qn cap_25)]), (32, (cF (kd, key, dm, data)).map vu8)]) Try.underlying111 (zv Try.typeInfo111 rfl) rfl (SsOk.cons (SOk.v rfl) (SsOk.cons (SOk.u8 (List.length_replicate ..)) (SsOk.cons (SOk.v rfl) (SsOk.cons (SOk.v rfl) (SsOk.cons (SOk.u8 (List.length_replicate ..)) SsOk.nil))))) (pl111 _ Try.underlying111) rfl (FillR.cons [] [(1, [(vi 0)]), (32, (List.replicate 32 (0 : UInt8)).map vu8), (1, [(vi 0)]), (1, [(.slice none 0 0)])] [(1, [(vi kd)]), (32, key.map vu8), (1, [(vi dm)]), (1, [(.slice a_24 qn cap_25)])] [(32, (List.replicate 32 (0 : UInt8)).map vu8)] rfl rfl rfl rfl (SsOk.cons (SOk.v rfl) (SsOk.cons (SOk.u8 hq.1) (SsOk.cons (SOk.v rfl) (SsOk.cons (SOk.v rfl) SsOk.nil)))) rfl rfl rfl (FillR.cons [(1, [(vi kd)]), (32, key.map vu8), (1, [(vi dm)]), (1, [(.slice a_24 qn cap_25)])] [(32, (List.replicate 32 (0 : UInt8)).map vu8)] [(32, (cF (kd, key, dm, data)).map vu8)] [] rfl rfl rfl rfl (SsOk.cons (SOk.u8 (cF_len _)) SsOk.nil) rfl rfl rfl FillR.nil)) rfl) ?_
    refine WT.s2 ?_ ?_
    · refine Op1.one rfl (Wn.no rfl) ?_
      refine WL.q (Wn.no rfl) rfl rfl (R.load1 (b := ob) (off := 36) (v := (.slice la lg.length lc)) rfl Try.isAgg48 (h_38.ok _ (.tail _ (.tail _ (.tail _ (.tail _ (.tail _ (.head _))))))) (Sg.t rfl (Sg.t rfl (Sg.t rfl (Sg.t rfl (Sg.t rfl Sg.h)))))) ?_
      refine WL.nil ?_
      refine ⟨(SL.cons (h_38.ok _ (.head _)) (SL.cons (h_38.ok _ (.tail _ (.head _))) (SL.cons (h_38.ok _ (.tail _ (.tail _ (.head _)))) (SL.cons (h_38.ok _ (.tail _ (.tail _ (.tail _ (.head _))))) (SL.cons (h_38.ok _ (.tail _ (.tail _ (.tail _ (.tail _ (.head _)))))) (SL.cons (h_38.ok _ (.tail _ (.tail _ (.tail _ (.tail _ (.tail _ (.tail _ (.tail _ (.head _))))))))) (SL.cons (h_38.ok _ (.tail _ (.tail _ (.tail _ (.tail _ (.tail _ (.tail _ (.tail _ (.tail _ (.head _)))))))))) (SL.cons (h_38.ok _ (.tail _ (.tail _ (.tail _ (.tail _ (.tail _ (.tail _ (.tail _ (.tail _ (.tail _ (.head _))))))))))) (SL.cons (h_38.ok _ (.tail _ (.tail _ (.tail _ (.tail _ (.tail _ (.tail _ (.tail _ (.tail _ (.tail _ (.tail _ (.head _)))))))))))) (SL.cons (h_38.ok _ (.tail _ (.tail _ (.tail _ (.tail _ (.tail _ (.tail _ (.tail _ (.tail _ (.tail _ (.tail _ (.tail _ (.head _))))))))))))) (SL.nil _ _))))))))))), ?_⟩
      refine WT.s ?_
      refine Op1.one rfl (Wn.no rfl) ?_
      refine WL.buildSl (vs := [(0, (.agg ⟨flat [(1, [(vi kd)]), (32, key.map vu8), (1, [(vi dm)]), (1, [(.slice a_24 qn cap_25)]), (32, (cF (kd, key, dm, data)).map vu8)]⟩))]) (cs := aC (kd, key, dm, data) (.slice a_24 qn cap_25) (cF (kd, key, dm, data))) h_38 Try.underlying48 Try.sizeOf111 (zv Try.typeInfo111 rfl) rfl rfl (fill_1 (zc := flat [(1, [vi 0]), (32, List.replicate 32 (vu8 0)), (1, [vi 0]), (1, [.slice none 0 0]), (32, List.replicate 32 (vu8 0))]) (by kernel_rfl) (SsOk.cons (s := (67, flat [(1, [vi 0]), (32, List.replicate 32 (vu8 0)), (1, [vi 0]), (1, [.slice none 0 0]), (32, List.replicate 32 (vu8 0))])) ⟨by decide, SsOk.one (SsOk.cons (SOk.v rfl) (SsOk.cons (SOk.rep rfl) (SsOk.cons (SOk.v rfl) (SsOk.cons (SOk.v rfl) (SsOk.cons (SOk.rep rfl) SsOk.nil)))))⟩ SsOk.nil) (aC_ok (q := (kd, key, dm, data)) (s := (.slice a_24 qn cap_25)) (d := cF (kd, key, dm, data)) hq.1 (cF_len _) rfl)) ((aC_ok (q := (kd, key, dm, data)) (s := (.slice a_24 qn cap_25)) (d := cF (kd, key, dm, data)) hq.1 (cF_len _) rfl)).head.len ((aC_ok (q := (kd, key, dm, data)) (s := (.slice a_24 qn cap_25)) (d := cF (kd, key, dm, data)) hq.1 (cF_len _) rfl)).head.one rfl rfl (fun b_41 w_42 h_43 => ?_)
      refine WL.nil ?_
      refine ⟨(SL.cons (h_43.ok _ (.tail _ (.head _))) (SL.cons (h_43.ok _ (.tail _ (.tail _ (.head _)))) (SL.cons (h_43.ok _ (.tail _ (.tail _ (.tail _ (.head _))))) (SL.cons (h_43.ok _ (.tail _ (.tail _ (.tail _ (.tail _ (.head _)))))) (SL.cons (h_43.ok _ (.tail _ (.tail _ (.tail _ (.tail _ (.tail _ (.head _))))))) (SL.cons (h_43.ok _ (.tail _ (.tail _ (.tail _ (.tail _ (.tail _ (.tail _ (.tail _ (.tail _ (.head _)))))))))) (SL.cons (h_43.ok _ (.tail _ (.tail _ (.tail _ (.tail _ (.tail _ (.tail _ (.tail _ (.tail _ (.tail _ (.head _))))))))))) (SL.cons (h_43.ok _ (.tail _ (.tail _ (.tail _ (.tail _ (.tail _ (.tail _ (.tail _ (.tail _ (.tail _ (.tail _ (.head _)))))))))))) (SL.cons (h_43.ok _ (.tail _ (.tail _ (.tail _ (.tail _ (.tail _ (.tail _ (.tail _ (.tail _ (.tail _ (.tail _ (.tail _ (.head _))))))))))))) (SL.cons (h_43.ok _ (.tail _ (.tail _ (.tail _ (.tail _ (.tail _ (.tail _ (.tail _ (.tail _ (.tail _ (.tail _ (.tail _ (.tail _ (.head _)))))))))))))) (SL.nil _ _))))))))))), ?_⟩
      refine WT.s ?_
      refine Op1.one rfl (Wn.no rfl) ?_
      refine WL.append (km := lg.length + 1) (xs := lx) (ys := aC (kd, key, dm, data) (.slice a_24 qn cap_25) (cF (kd, key, dm, data))) (zs := lx ++ aC (kd, key, dm, data) (.slice a_24 qn cap_25) (cF (kd, key, dm, data))) h_43 rfl rfl el48 (viewB (h_43.ok _ (.head _)) Sg.h) ((aC_ok (q := (kd, key, dm, data)) (s := (.slice a_24 qn cap_25)) (d := cF (kd, key, dm, data)) hq.1 (cF_len _) rfl)).head.len ((aC_ok (q := (kd, key, dm, data)) (s := (.slice a_24 qn cap_25)) (d := cF (kd, key, dm, data)) hq.1 (cF_len _) rfl)).head.one rfl (by omega) (by omega) (by omega) (fun _ _ => (At.t (At.t (At.t (At.t (At.t (At.t (At.t At.h)))))))) rfl (fun a_44 c_45 w_46 h_47 => ?_)
      refine WL.nil ?_
      refine ⟨(SL.cons (h_47.ok _ (.tail _ (.head _))) (SL.cons (h_47.ok _ (.tail _ (.tail _ (.head _)))) (SL.cons (h_47.ok _ (.tail _ (.tail _ (.tail _ (.head _))))) (SL.cons (h_47.ok _ (.tail _ (.tail _ (.tail _ (.tail _ (.head _)))))) (SL.cons (h_47.ok _ (.tail _ (.tail _ (.tail _ (.tail _ (.tail _ (.head _))))))) (SL.cons (h_47.ok _ (.tail _ (.tail _ (.tail _ (.tail _ (.tail _ (.tail _ (.tail _ (.tail _ (.head _)))))))))) (SL.cons (h_47.ok _ (.tail _ (.tail _ (.tail _ (.tail _ (.tail _ (.tail _ (.tail _ (.tail _ (.tail _ (.head _))))))))))) (SL.cons (h_47.ok _ (.tail _ (.tail _ (.tail _ (.tail _ (.tail _ (.tail _ (.tail _ (.tail _ (.tail _ (.tail _ (.head _)))))))))))) (SL.cons (h_47.ok _ (.tail _ (.tail _ (.tail _ (.tail _ (.tail _ (.tail _ (.tail _ (.tail _ (.tail _ (.tail _ (.tail _ (.head _))))))))))))) (SL.cons (h_47.ok _ (.tail _ (.tail _ (.tail _ (.tail _ (.tail _ (.tail _ (.tail _ (.tail _ (.tail _ (.tail _ (.tail _ (.tail _ (.head _)))))))))))))) (SL.nil _ _))))))))))), ?_⟩
      refine WT.q rfl (Wn.no rfl) rfl rfl (fun wq hS => R.nilCheck rfl) ?_
      refine WT.q rfl (Wn.no rfl) rfl rfl (fun wq hS => R.fieldAddr (b := ob) (off := 0) (off' := 36) rfl Try.underlying50 rfl Try.sizeOf48 rfl rfl) ?_
      refine WT.s ?_
      refine Op1.one rfl (Wn.no rfl) ?_
      refine WL.store1 (b := ob) (off := 36) (v := (.slice a_44 (lg.length + 1) c_45)) h_47 rfl rfl Try.sizeOf48 rfl (At.t (At.t (At.t (At.t (At.t (At.t At.h)))))) (by decide) (Sg.t rfl (Sg.t rfl (Sg.t rfl (Sg.t rfl (Sg.t rfl Sg.h))))) (fun w_48 h_49 => ?_)
      refine WL.nil ?_
      refine ⟨(SL.cons (h_49.ok _ (.tail _ (.head _))) (SL.cons (h_49.ok _ (.tail _ (.tail _ (.head _)))) (SL.cons (h_49.ok _ (.tail _ (.tail _ (.tail _ (.head _))))) (SL.cons (h_49.ok _ (.tail _ (.tail _ (.tail _ (.tail _ (.head _)))))) (SL.cons (h_49.ok _ (.tail _ (.tail _ (.tail _ (.tail _ (.tail _ (.head _))))))) (SL.cons (h_49.ok _ (.tail _ (.tail _ (.tail _ (.tail _ (.tail _ (.tail _ (.tail _ (.tail _ (.head _)))))))))) (SL.cons (h_49.ok _ (.tail _ (.tail _ (.tail _ (.tail _ (.tail _ (.tail _ (.tail _ (.tail _ (.tail _ (.head _))))))))))) (SL.cons (h_49.ok _ (.tail _ (.tail _ (.tail _ (.tail _ (.tail _ (.tail _ (.tail _ (.tail _ (.tail _ (.tail _ (.head _)))))))))))) (SL.cons (h_49.ok _ (.tail _ (.tail _ (.tail _ (.tail _ (.tail _ (.tail _ (.tail _ (.tail _ (.tail _ (.tail _ (.tail _ (.head _))))))))))))) (SL.cons (h_49.ok _ (.tail _ (.tail _ (.tail _ (.tail _ (.tail _ (.tail _ (.tail _ (.tail _ (.tail _ (.tail _ (.tail _ (.tail _ (.head _)))))))))))))) (SL.nil _ _))))))))))), ?_⟩
      refine WT.nil ?_
      refine thn_n ?_
      exact ⟨(b_41, a_44, c_45), (Ag.upd rfl (Ag.upd rfl (Ag.upd rfl (Ag.upd rfl (Ag.upd rfl (Ag.upd rfl (Ag.upd rfl (Ag.upd rfl (Ag.upd rfl (Ag.upd rfl (Ag.upd rfl (Ag.upd rfl (Ag.refl _ _))))))))))))), ⟨rfl, rfl, rfl, rfl, rfl, rfl, rfl, rfl, rfl, rfl, rfl, rfl, trivial⟩, h_49⟩
    · refine Op1.one rfl (Wn.no rfl) ?_
      refine WL.buildSl (vs := [(0, (.agg ⟨flat [(1, [(vi kd)]), (32, key.map vu8), (1, [(vi dm)]), (1, [(.slice a_24 qn cap_25)]), (32, (cF (kd, key, dm, data)).map vu8)]⟩))]) (cs := aC (kd, key, dm, data) (.slice a_24 qn cap_25) (cF (kd, key, dm, data))) h_38 Try.underlying48 Try.sizeOf111 (zv Try.typeInfo111 rfl) rfl rfl (fill_1 (zc := flat [(1, [vi 0]), (32, List.replicate 32 (vu8 0)), (1, [vi 0]), (1, [.slice none 0 0]), (32, List.replicate 32 (vu8 0))]) (by kernel_rfl) (SsOk.cons (s := (67, flat [(1, [vi 0]), (32, List.replicate 32 (vu8 0)), (1, [vi 0]), (1, [.slice none 0 0]), (32, List.replicate 32 (vu8 0))])) ⟨by decide, SsOk.one (SsOk.cons (SOk.v rfl) (SsOk.cons (SOk.rep rfl) (SsOk.cons (SOk.v rfl) (SsOk.cons (SOk.v rfl) (SsOk.cons (SOk.rep rfl) SsOk.nil)))))⟩ SsOk.nil) (aC_ok (q := (kd, key, dm, data)) (s := (.slice a_24 qn cap_25)) (d := cF (kd, key, dm, data)) hq.1 (cF_len _) rfl)) ((aC_ok (q := (kd, key, dm, data)) (s := (.slice a_24 qn cap_25)) (d := cF (kd, key, dm, data)) hq.1 (cF_len _) rfl)).head.len ((aC_ok (q := (kd, key, dm, data)) (s := (.slice a_24 qn cap_25)) (d := cF (kd, key, dm, data)) hq.1 (cF_len _) rfl)).head.one rfl rfl (fun b_50 w_51 h_52 => ?_)
      refine WL.nil ?_
      refine ⟨(SL.cons (h_52.ok _ (.tail _ (.head _))) (SL.cons (h_52.ok _ (.tail _ (.tail _ (.head _)))) (SL.cons (h_52.ok _ (.tail _ (.tail _ (.tail _ (.head _))))) (SL.cons (h_52.ok _ (.tail _ (.tail _ (.tail _ (.tail _ (.head _)))))) (SL.cons (h_52.ok _ (.tail _ (.tail _ (.tail _ (.tail _ (.tail _ (.head _))))))) (SL.cons (h_52.ok _ (.tail _ (.tail _ (.tail _ (.tail _ (.tail _ (.tail _ (.tail _ (.tail _ (.head _)))))))))) (SL.cons (h_52.ok _ (.tail _ (.tail _ (.tail _ (.tail _ (.tail _ (.tail _ (.tail _ (.tail _ (.tail _ (.head _))))))))))) (SL.cons (h_52.ok _ (.tail _ (.tail _ (.tail _ (.tail _ (.tail _ (.tail _ (.tail _ (.tail _ (.tail _ (.tail _ (.head _)))))))))))) (SL.cons (h_52.ok _ (.tail _ (.tail _ (.tail _ (.tail _ (.tail _ (.tail _ (.tail _ (.tail _ (.tail _ (.tail _ (.tail _ (.head _))))))))))))) (SL.cons (h_52.ok _ (.tail _ (.tail _ (.tail _ (.tail _ (.tail _ (.tail _ (.tail _ (.tail _ (.tail _ (.tail _ (.tail _ (.tail _ (.head _)))))))))))))) (SL.nil _ _))))))))))), ?_⟩
      refine WT.s ?_
      refine Op1.one rfl (Wn.no rfl) ?_
      refine WL.q (Wn.no rfl) rfl rfl (R.load1 (b := ob) (off := 36) (v := (.slice la lg.length lc)) rfl Try.isAgg48 (h_52.ok _ (.tail _ (.tail _ (.tail _ (.tail _ (.tail _ (.tail _ (.head _)))))))) (Sg.t rfl (Sg.t rfl (Sg.t rfl (Sg.t rfl (Sg.t rfl Sg.h)))))) ?_
      refine WL.nil ?_
      refine ⟨(SL.cons (h_52.ok _ (.tail _ (.head _))) (SL.cons (h_52.ok _ (.tail _ (.tail _ (.head _)))) (SL.cons (h_52.ok _ (.tail _ (.tail _ (.tail _ (.head _))))) (SL.cons (h_52.ok _ (.tail _ (.tail _ (.tail _ (.tail _ (.head _)))))) (SL.cons (h_52.ok _ (.tail _ (.tail _ (.tail _ (.tail _ (.tail _ (.head _))))))) (SL.cons (h_52.ok _ (.tail _ (.tail _ (.tail _ (.tail _ (.tail _ (.tail _ (.tail _ (.tail _ (.head _)))))))))) (SL.cons (h_52.ok _ (.tail _ (.tail _ (.tail _ (.tail _ (.tail _ (.tail _ (.tail _ (.tail _ (.tail _ (.head _))))))))))) (SL.cons (h_52.ok _ (.tail _ (.tail _ (.tail _ (.tail _ (.tail _ (.tail _ (.tail _ (.tail _ (.tail _ (.tail _ (.head _)))))))))))) (SL.cons (h_52.ok _ (.tail _ (.tail _ (.tail _ (.tail _ (.tail _ (.tail _ (.tail _ (.tail _ (.tail _ (.tail _ (.tail _ (.head _))))))))))))) (SL.cons (h_52.ok _ (.tail _ (.tail _ (.tail _ (.tail _ (.tail _ (.tail _ (.tail _ (.tail _ (.tail _ (.tail _ (.tail _ (.tail _ (.head _)))))))))))))) (SL.nil _ _))))))))))), ?_⟩
      refine WT.s ?_
      refine Op1.one rfl (Wn.no rfl) ?_
      refine WL.append (km := lg.length + 1) (xs := lx) (ys := aC (kd, key, dm, data) (.slice a_24 qn cap_25) (cF (kd, key, dm, data))) (zs := lx ++ aC (kd, key, dm, data) (.slice a_24 qn cap_25) (cF (kd, key, dm, data))) h_52 rfl rfl el48 (viewB (h_52.ok _ (.head _)) Sg.h) ((aC_ok (q := (kd, key, dm, data)) (s := (.slice a_24 qn cap_25)) (d := cF (kd, key, dm, data)) hq.1 (cF_len _) rfl)).head.len ((aC_ok (q := (kd, key, dm, data)) (s := (.slice a_24 qn cap_25)) (d := cF (kd, key, dm, data)) hq.1 (cF_len _) rfl)).head.one rfl (by omega) (by omega) (by omega) (fun _ _ => (At.t (At.t (At.t (At.t (At.t (At.t (At.t At.h)))))))) rfl (fun a_53 c_54 w_55 h_56 => ?_)
      refine WL.nil ?_
      refine ⟨(SL.cons (h_56.ok _ (.tail _ (.head _))) (SL.cons (h_56.ok _ (.tail _ (.tail _ (.head _)))) (SL.cons (h_56.ok _ (.tail _ (.tail _ (.tail _ (.head _))))) (SL.cons (h_56.ok _ (.tail _ (.tail _ (.tail _ (.tail _ (.head _)))))) (SL.cons (h_56.ok _ (.tail _ (.tail _ (.tail _ (.tail _ (.tail _ (.head _))))))) (SL.cons (h_56.ok _ (.tail _ (.tail _ (.tail _ (.tail _ (.tail _ (.tail _ (.tail _ (.tail _ (.head _)))))))))) (SL.cons (h_56.ok _ (.tail _ (.tail _ (.tail _ (.tail _ (.tail _ (.tail _ (.tail _ (.tail _ (.tail _ (.head _))))))))))) (SL.cons (h_56.ok _ (.tail _ (.tail _ (.tail _ (.tail _ (.tail _ (.tail _ (.tail _ (.tail _ (.tail _ (.tail _ (.head _)))))))))))) (SL.cons (h_56.ok _ (.tail _ (.tail _ (.tail _ (.tail _ (.tail _ (.tail _ (.tail _ (.tail _ (.tail _ (.tail _ (.tail _ (.head _))))))))))))) (SL.cons (h_56.ok _ (.tail _ (.tail _ (.tail _ (.tail _ (.tail _ (.tail _ (.tail _ (.tail _ (.tail _ (.tail _ (.tail _ (.tail _ (.head _)))))))))))))) (SL.nil _ _))))))))))), ?_⟩
      refine WT.q rfl (Wn.no rfl) rfl rfl (fun wq hS => R.nilCheck rfl) ?_
      refine WT.q rfl (Wn.no rfl) rfl rfl (fun wq hS => R.fieldAddr (b := ob) (off := 0) (off' := 36) rfl Try.underlying50 rfl Try.sizeOf48 rfl rfl) ?_
      refine WT.s ?_
      refine Op1.one rfl (Wn.no rfl) ?_
      refine WL.store1 (b := ob) (off := 36) (v := (.slice a_53 (lg.length + 1) c_54)) h_56 rfl rfl Try.sizeOf48 rfl (At.t (At.t (At.t (At.t (At.t (At.t At.h)))))) (by decide) (Sg.t rfl (Sg.t rfl (Sg.t rfl (Sg.t rfl (Sg.t rfl Sg.h))))) (fun w_57 h_58 => ?_)
      refine WL.nil ?_
      refine ⟨(SL.cons (h_58.ok _ (.tail _ (.head _))) (SL.cons (h_58.ok _ (.tail _ (.tail _ (.head _)))) (SL.cons (h_58.ok _ (.tail _ (.tail _ (.tail _ (.head _))))) (SL.cons (h_58.ok _ (.tail _ (.tail _ (.tail _ (.tail _ (.head _)))))) (SL.cons (h_58.ok _ (.tail _ (.tail _ (.tail _ (.tail _ (.tail _ (.head _))))))) (SL.cons (h_58.ok _ (.tail _ (.tail _ (.tail _ (.tail _ (.tail _ (.tail _ (.tail _ (.tail _ (.head _)))))))))) (SL.cons (h_58.ok _ (.tail _ (.tail _ (.tail _ (.tail _ (.tail _ (.tail _ (.tail _ (.tail _ (.tail _ (.head _))))))))))) (SL.cons (h_58.ok _ (.tail _ (.tail _ (.tail _ (.tail _ (.tail _ (.tail _ (.tail _ (.tail _ (.tail _ (.tail _ (.head _)))))))))))) (SL.cons (h_58.ok _ (.tail _ (.tail _ (.tail _ (.tail _ (.tail _ (.tail _ (.tail _ (.tail _ (.tail _ (.tail _ (.tail _ (.head _))))))))))))) (SL.cons (h_58.ok _ (.tail _ (.tail _ (.tail _ (.tail _ (.tail _ (.tail _ (.tail _ (.tail _ (.tail _ (.tail _ (.tail _ (.tail _ (.head _)))))))))))))) (SL.nil _ _))))))))))), ?_⟩
      refine WT.nil ?_
      refine thn_n ?_
      exact ⟨(b_50, a_53, c_54), (Ag.upd rfl (Ag.upd rfl (Ag.upd rfl (Ag.upd rfl (Ag.upd rfl (Ag.upd rfl (Ag.upd rfl (Ag.upd rfl (Ag.upd rfl (Ag.upd rfl (Ag.upd rfl (Ag.upd rfl (Ag.refl _ _))))))))))))), ⟨rfl, rfl, rfl, rfl, rfl, rfl, rfl, rfl, rfl, rfl, rfl, rfl, trivial⟩, h_58⟩
  · rintro ⟨b_62, a_63, c_64⟩ J_59 w_60 h_61
    refine thn_n ?_
    refine WP.seq ?_
    refine WP.reg ?_
    refine WL.q (Wn.no rfl) rfl rfl (R.loadA (b := b_16) (off := 0) [] [(32, (cF (kd, key, dm, data)).map vu8)] [] (cs := (cF (kd, key, dm, data)).map vu8) rfl Try.isAgg23 Try.sizeOf23 (h_61.ok _ (.tail _ (.tail _ (.head _)))) rfl rfl rfl rfl) ?_
    refine WL.storeA (b := b_4) (off := 0) [] [(32, (List.replicate 32 (0 : UInt8)).map vu8)] [(32, (cF (kd, key, dm, data)).map vu8)] [] (ys := (cF (kd, key, dm, data)).map vu8) h_61 rfl rfl Try.sizeOf23 (At.t (At.t (At.t (At.t At.h)))) (by decide) rfl rfl rfl rfl rfl rfl (SsOk.cons (SOk.u8 (cF_len _)) SsOk.nil) (fun w_65 h_66 => ?_)
    refine WL.nil ?_
    refine thn_n ?_
    refine WP.ret ?_
    refine ret_of Try.results79 (RV.cell rfl (h_66.loadA (cs := (cF (kd, key, dm, data)).map vu8) Try.isAgg23 Try.sizeOf23 (.tail _ (.tail _ (.tail _ (.tail _ (.head _))))) rfl rfl) RV.nil) ?_
    have h_67 := h_66.drop rfl
    have h_68 := h_67.up (Pick.t Pick.h)
    have h_69 := h_68.drop rfl
    have h_70 := h_69.up (Pick.t Pick.h)
    have h_71 := h_70.drop rfl
    have h_72 := h_71.up (Pick.t Pick.h)
    have h_73 := h_72.drop rfl
    have h_74 := h_73.up (Pick.t Pick.h)
    have h_75 := h_74.drop rfl
    have h_76 := h_75.up (Pick.t (Pick.t (Pick.t (Pick.t (Pick.t (Pick.t (Pick.t Pick.h)))))))
    have h_77 := h_76.up (Pick.t (Pick.t (Pick.t (Pick.t (Pick.t (Pick.t (Pick.t Pick.h)))))))
    have h_78 := h_77.up (Pick.t (Pick.t (Pick.t (Pick.t (Pick.t (Pick.t (Pick.t Pick.h)))))))
    have h_79 := h_78.up (Pick.t (Pick.t (Pick.t (Pick.t (Pick.t (Pick.t Pick.h))))))
    have h_80 := h_79.up (Pick.t (Pick.t (Pick.t (Pick.t (Pick.t (Pick.t Pick.h))))))
    have h_81 := h_80.up (Pick.t (Pick.t (Pick.t (Pick.t (Pick.t (Pick.t Pick.h))))))
    have h_82 := h_81.up (Pick.t (Pick.t (Pick.t (Pick.t (Pick.t (Pick.t (Pick.t Pick.h)))))))
    have h_83 := h_82.up (Pick.t (Pick.t (Pick.t (Pick.t (Pick.t (Pick.t (Pick.t Pick.h)))))))
    have h_84 := HP_logPush (q := (kd, key, dm, data)) (d := cF (kd, key, dm, data)) h_83 hq (cF_len _) hdl
    have h_86 := h_84.up (Pick.t Pick.h)
    have h_87 := h_86.drop rfl
    have h_88 := h_87.up (Pick.t Pick.h)
    have h_89 := h_88.drop rfl
    have h_90 := h_89.up (Pick.t (Pick.t (Pick.t (Pick.t (Pick.t (Pick.t Pick.h))))))
    have h_91 := h_90.up (Pick.t (Pick.t (Pick.t (Pick.t (Pick.t (Pick.t Pick.h))))))
    have h_92 := h_91.up (Pick.t (Pick.t (Pick.t (Pick.t (Pick.t (Pick.t Pick.h))))))
    have h_93 := h_92.up (Pick.t (Pick.t (Pick.t Pick.h)))
    have h_94 := h_93.up (Pick.t (Pick.t (Pick.t (Pick.t (Pick.t (Pick.t Pick.h))))))
    have h_95 := h_94.up (Pick.t (Pick.t (Pick.t (Pick.t (Pick.t (Pick.t Pick.h))))))
    have h_96 := h_95.up (Pick.t (Pick.t (Pick.t (Pick.t (Pick.t (Pick.t Pick.h))))))
    have hse : lg.length + 1 = (lg ++ [((kd, key, dm, data), cF (kd, key, dm, data))]).length := snoc_len.symm
    have hme := mArr_push lg (kd, key, dm, data) (cF (kd, key, dm, data))
    have h_85 := h_96
    rw [hse] at h_85
    exact ⟨_, _, _, by rw [anD_miss hfd]; rfl, by rw [anU_miss hfd, anL_miss hfd]; show HP _ _ (_ :: _ :: .obj _ _ (.map (mArr (lg ++ [((kd, key, dm, data), cF (kd, key, dm, data))])) _) :: _); rw [hme]; exact h_85⟩

theorem c_ansG {w00 : World} {L : List Ent} (id : Bool) (ob mp : Nat) (ms df : List UInt8) (hms : ms.length = 32) (da : Option Addr) (dn dc u : Nat) (hdf : df.length = 32 * dn) (la : Option Addr) (lc : Nat) (lx : List Value) (lg : Lg) (hu : u ≤ 1000000) (hlg : lg.length ≤ 1000000) (kd dm : Int) (key data : List UInt8) (qa : Option Addr) (qn qc : Nat) (hq : okQ (kd, key, dm, data)) (hdl : data.length = qn) (bq : Nat) (w : World) (h_0 : HP w00 w (Ent.blk ob .nw 50 [(1, [(.bool id)]), (32, ms.map vu8), (1, [(.slice da dn dc)]), (1, [(vi ((u : Nat) : Int))]), (1, [(.map (some mp))]), (1, [(.slice la lg.length lc)])] :: Ent.row la lg.length lc 111 67 lx :: Ent.obj mp .nw (.map (mArr lg) lg.length) :: Ent.pin (sblks lx) (fun w => Lgs w lx lg) :: Ent.view da (df.map vu8) :: Ent.view qa (data.map vu8) :: Ent.blk bq .nw 103 [(1, [(vi kd)]), (32, key.map vu8), (1, [(vi dm)]), (1, [(.slice qa qn qc)])] :: L)) :
    Cs Try.prog 79 [(.pointer (some ⟨ob, 0, none⟩)), (.agg ⟨flat [(1, [(vi kd)]), (32, key.map vu8), (1, [(vi dm)]), (1, [(.slice qa qn qc)])]⟩), (Value.func (Fn.func 80) [].toArray [(Value.pointer (some ⟨bq, 0, none⟩))].toArray)].toArray w (fun v w1 => ∃ la' lc' lx', v = (.agg ⟨(anD id df dn u lg (kd, key, dm, data)).map vu8⟩) ∧ HP w00 w1 (Ent.blk ob .nw 50 [(1, [(.bool id)]), (32, ms.map vu8), (1, [(.slice da dn dc)]), (1, [(vi (((anU id u lg (kd, key, dm, data)) : Nat) : Int))]), (1, [(.map (some mp))]), (1, [(.slice la' ((anL id df dn u lg (kd, key, dm, data)).length) lc')])] :: Ent.row la' ((anL id df dn u lg (kd, key, dm, data)).length) lc' 111 67 lx' :: Ent.obj mp .nw (.map (mArr (anL id df dn u lg (kd, key, dm, data))) ((anL id df dn u lg (kd, key, dm, data)).length)) :: Ent.pin (sblks lx') (fun w => Lgs w lx' (anL id df dn u lg (kd, key, dm, data))) :: Ent.view da (df.map vu8) :: Ent.view qa (data.map vu8) :: Ent.blk bq .nw 103 [(1, [(vi kd)]), (32, key.map vu8), (1, [(vi dm)]), (1, [(.slice qa qn qc)])] :: L)) := by
  cases hfd : fdq (kd, key, dm, data) lg 0 with
  | none => cases id with
    | true => exact c_ans_missT ob mp ms df hms da dn dc u hdf la lc lx lg hu hlg kd dm key data qa qn qc hq hdl _ hfd w h_0
    | false => exact c_ans_missF ob mp ms df hms da dn dc u hdf la lc lx lg hu hlg kd dm key data qa qn qc hq hdl bq hfd w h_0
  | some i => exact c_ans_hit id ob mp ms df hms da dn dc u hdf la lc lx lg hu hlg kd dm key data qa qn qc hq hdl _ i hfd w h_0
end Go.Proofs.Ytnhppjimimhlkaa

namespace Go.Proofs.Ytnhppjimimhlkaa
open Go.Vc Go.Orc Go.Sh Go.RowKit
set_option maxRecDepth 20000
theorem kt23 : Try.prog.keyTypeAt 2 23 = true := by kernel_rfl
theorem ag23 : aggB Try.prog 23 = true := by unfold aggB; rw [Try.underlying23]
theorem c_othere_nil  (w : World) :
    Cs Try.prog 52 [(.pointer none)].toArray w (fun v w1 => v = (.bool false) ∧ Chg w w1 []) := by
  refine Cs.of (n := 12) (args := [(.pointer none)]) Try.func52 rfl rfl rfl ?_
  have h_0 := HP.init w
  refine WP.seq ?_
  refine WP.reg ?_
  refine WL.q (Wn.no rfl) rfl rfl (R.assign (v := (.bool false)) rfl) ?_
  refine WL.nil ?_
  refine thn_n ?_
  refine WP.seq ?_
  refine WP.reg ?_
  refine WL.q (Wn.no rfl) rfl rfl (R.move (v := (.pointer none)) rfl) ?_
  refine WL.q (Wn.no rfl) rfl rfl (R.neNilP rfl rfl Try.underlying32) ?_
  refine WL.q (Wn.no rfl) rfl rfl (R.move (v := (.bool false)) rfl) ?_
  refine WL.skip rfl rfl rfl ?_
  refine WL.skip rfl rfl rfl ?_
  refine WL.skip rfl rfl rfl ?_
  refine WL.skip rfl rfl rfl ?_
  refine WL.skip rfl rfl rfl ?_
  refine WL.q (Wn.no rfl) rfl rfl (R.pickF (v := (.bool false)) rfl rfl) ?_
  refine WL.q (Wn.no rfl) rfl rfl (R.assign (v := (.bool false)) rfl) ?_
  refine WL.nil ?_
  refine thn_n ?_
  refine WP.ret ?_
  refine ret_of Try.results52 (RV.tmp (v := (.bool false)) rfl RV.nil) ?_
  exact ⟨rfl, h_0.chgS⟩

theorem c_othere (id : Bool) (ob mp : Nat) (ms : List UInt8) (hms : ms.length = 32) (da : Option Addr) (dn dc u : Nat) (la : Option Addr) (ln lc : Nat) (w : World) (hcb : (Ent.blk ob .ro 50 [(1, [(.bool id)]), (32, ms.map vu8), (1, [(.slice da dn dc)]), (1, [(vi ((u : Nat) : Int))]), (1, [(.map (some mp))]), (1, [(.slice la ln lc)])]).ok w.heap.size w) :
    Cs Try.prog 52 [(.pointer (some ⟨ob, 0, none⟩))].toArray w (fun v w1 => v = (.bool true) ∧ Chg w w1 []) := by
  refine Cs.of (n := 12) (args := [(.pointer (some ⟨ob, 0, none⟩))]) Try.func52 rfl rfl rfl ?_
  have h_0 := HP.init w
  have h_00 := h_0.old hcb (fun f hf => by cases hf)
  refine WP.seq ?_
  refine WP.reg ?_
  refine WL.q (Wn.no rfl) rfl rfl (R.assign (v := (.bool false)) rfl) ?_
  refine WL.nil ?_
  refine thn_n ?_
  refine WP.seq ?_
  refine WP.reg ?_
  refine WL.q (Wn.no rfl) rfl rfl (R.move (v := (.pointer (some ⟨ob, 0, none⟩))) rfl) ?_
  refine WL.q (Wn.no rfl) rfl rfl (R.neNilP rfl rfl Try.underlying32) ?_
  refine WL.q (Wn.no rfl) rfl rfl (R.move (v := (.bool true)) rfl) ?_
  refine WL.want rfl rfl ?_
  refine WL.q (Wn.no rfl) rfl rfl (R.move (v := (.pointer (some ⟨ob, 0, none⟩))) rfl) ?_
  refine WL.want rfl rfl ?_
  refine WL.q (Wn.no rfl) rfl rfl (R.nilCheck rfl) ?_
  refine WL.want rfl rfl ?_
  refine WL.q (Wn.no rfl) rfl rfl (R.fieldAddr (b := ob) (off := 0) (off' := 35) rfl Try.underlying50 rfl Try.sizeOf47 rfl rfl) ?_
  refine WL.want rfl rfl ?_
  refine WL.q (Wn.no rfl) rfl rfl (R.load1 (b := ob) (off := 35) (v := (.map (some mp))) rfl Try.isAgg47 (h_00.ok _ (.head _)) (Sg.t rfl (Sg.t rfl (Sg.t rfl (Sg.t rfl Sg.h))))) ?_
  refine WL.want rfl rfl ?_
  refine WL.q (Wn.no rfl) rfl rfl (R.neNilM rfl rfl Try.underlying47) ?_
  refine WL.q (Wn.no rfl) rfl rfl (R.pickT (v := (.bool true)) rfl rfl) ?_
  refine WL.q (Wn.no rfl) rfl rfl (R.assign (v := (.bool true)) rfl) ?_
  refine WL.nil ?_
  refine thn_n ?_
  refine WP.ret ?_
  refine ret_of Try.results52 (RV.tmp (v := (.bool true)) rfl RV.nil) ?_
  exact ⟨rfl, h_00.chgS⟩

theorem c_may (kd dm : Int) (key : List UInt8) (qa : Option Addr) (qn qc : Nat) (hk : key.length = 32) (h1 : 1 ≤ kd ∧ kd ≤ 4) (h2 : 1 ≤ dm ∧ dm ≤ 16) (hz : kd = 1 → key = List.replicate 32 0) (w : World) :
    Cs Try.prog 78 [(.agg ⟨flat [(1, [(vi kd)]), (32, key.map vu8), (1, [(vi dm)]), (1, [(.slice qa qn qc)])]⟩)].toArray w (fun v w1 => v = (.bool true) ∧ Chg w w1 []) := by
  refine Cs.of (n := 32) (args := [(.agg ⟨flat [(1, [(vi kd)]), (32, key.map vu8), (1, [(vi dm)]), (1, [(.slice qa qn qc)])]⟩)]) Try.func78 rfl rfl rfl ?_
  have h_0 := HP.init w
  refine WP.seq ?_
  refine WP.reg ?_
  refine WL.box (v := (.agg ⟨flat [(1, [(vi kd)]), (32, key.map vu8), (1, [(vi dm)]), (1, [(.slice qa qn qc)])]⟩)) (segs := [(1, [(vi kd)]), (32, key.map vu8), (1, [(vi dm)]), (1, [(.slice qa qn qc)])]) h_0 rfl rfl (SsOk.cons (SOk.v rfl) (SsOk.cons (SOk.u8 hk) (SsOk.cons (SOk.v rfl) (SsOk.cons (SOk.v rfl) SsOk.nil)))) rfl (fun b_1 w_2 h_3 => ?_)
  refine WL.q (Wn.no rfl) rfl rfl (R.assign (v := (.bool false)) rfl) ?_
  refine WL.nil ?_
  refine thn_n ?_
  refine WP.seq ?_
  refine WP.reg ?_
  refine WL.q (Wn.no rfl) rfl rfl (R.fieldAddr (b := b_1) (off := 0) (off' := 0) rfl Try.underlying103 rfl Try.sizeOf101 rfl rfl) ?_
  refine WL.q (Wn.no rfl) rfl rfl (R.load1 (b := b_1) (off := 0) (v := (vi kd)) rfl Try.isAgg101 (h_3.ok _ (.head _)) Sg.h) ?_
  refine WL.q (Wn.no rfl) rfl rfl (R.bin (v := (.bool (decide ((kd : Int) ≥ 1)))) rfl rfl (bi_geq (r := decide ((kd : Int) ≥ 1)) rfl)) ?_
  refine WL.q (Wn.no rfl) rfl rfl (R.move (v := (.bool (decide ((kd : Int) ≥ 1)))) rfl) ?_
  refine WL.want rfl (congrArg Value.bool (decide_eq_true (by omega))) ?_
  refine WL.q (Wn.no rfl) rfl rfl (R.fieldAddr (b := b_1) (off := 0) (off' := 0) rfl Try.underlying103 rfl Try.sizeOf101 rfl rfl) ?_
  refine WL.want rfl (congrArg Value.bool (decide_eq_true (by omega))) ?_
  refine WL.q (Wn.no rfl) rfl rfl (R.load1 (b := b_1) (off := 0) (v := (vi kd)) rfl Try.isAgg101 (h_3.ok _ (.head _)) Sg.h) ?_
  refine WL.want rfl (congrArg Value.bool (decide_eq_true (by omega))) ?_
  refine WL.q (Wn.no rfl) rfl rfl (R.bin (v := (.bool (decide ((kd : Int) ≤ 4)))) rfl rfl (bi_leq (r := decide ((kd : Int) ≤ 4)) rfl)) ?_
  refine WL.q (Wn.no rfl) rfl rfl (R.pickT (v := (.bool (decide ((kd : Int) ≤ 4)))) (congrArg Value.bool (decide_eq_true (by omega))) rfl) ?_
  refine WL.q (Wn.no rfl) rfl rfl (R.move (v := (.bool (decide ((kd : Int) ≤ 4)))) rfl) ?_
  refine WL.want rfl (congrArg Value.bool (decide_eq_true (by omega))) ?_
  refine WL.q (Wn.no rfl) rfl rfl (R.fieldAddr (b := b_1) (off := 0) (off' := 33) rfl Try.underlying103 rfl Try.sizeOf56 rfl rfl) ?_
  refine WL.want rfl (congrArg Value.bool (decide_eq_true (by omega))) ?_
  refine WL.q (Wn.no rfl) rfl rfl (R.load1 (b := b_1) (off := 33) (v := (vi dm)) rfl Try.isAgg56 (h_3.ok _ (.head _)) (Sg.t rfl (Sg.t rfl Sg.h))) ?_
  refine WL.want rfl (congrArg Value.bool (decide_eq_true (by omega))) ?_
  refine WL.q (Wn.no rfl) rfl rfl (R.bin (v := (.bool (decide ((dm : Int) ≥ 1)))) rfl rfl (bi_geq (r := decide ((dm : Int) ≥ 1)) rfl)) ?_
  refine WL.q (Wn.no rfl) rfl rfl (R.pickT (v := (.bool (decide ((dm : Int) ≥ 1)))) (congrArg Value.bool (decide_eq_true (by omega))) rfl) ?_
  refine WL.q (Wn.no rfl) rfl rfl (R.move (v := (.bool (decide ((dm : Int) ≥ 1)))) rfl) ?_
  refine WL.want rfl (congrArg Value.bool (decide_eq_true (by omega))) ?_
  refine WL.q (Wn.no rfl) rfl rfl (R.fieldAddr (b := b_1) (off := 0) (off' := 33) rfl Try.underlying103 rfl Try.sizeOf56 rfl rfl) ?_
  refine WL.want rfl (congrArg Value.bool (decide_eq_true (by omega))) ?_
  refine WL.q (Wn.no rfl) rfl rfl (R.load1 (b := b_1) (off := 33) (v := (vi dm)) rfl Try.isAgg56 (h_3.ok _ (.head _)) (Sg.t rfl (Sg.t rfl Sg.h))) ?_
  refine WL.want rfl (congrArg Value.bool (decide_eq_true (by omega))) ?_
  refine WL.q (Wn.no rfl) rfl rfl (R.bin (v := (.bool (decide ((dm : Int) ≤ 16)))) rfl rfl (bi_leq (r := decide ((dm : Int) ≤ 16)) rfl)) ?_
  refine WL.q (Wn.no rfl) rfl rfl (R.pickT (v := (.bool (decide ((dm : Int) ≤ 16)))) (congrArg Value.bool (decide_eq_true (by omega))) rfl) ?_
  refine WL.q (Wn.no rfl) rfl rfl (R.move (v := (.bool (decide ((dm : Int) ≤ 16)))) rfl) ?_
  refine WL.want rfl (congrArg Value.bool (decide_eq_true (by omega))) ?_
  refine WL.q (Wn.no rfl) rfl rfl (R.fieldAddr (b := b_1) (off := 0) (off' := 0) rfl Try.underlying103 rfl Try.sizeOf101 rfl rfl) ?_
  refine WL.want rfl (congrArg Value.bool (decide_eq_true (by omega))) ?_
  refine WL.q (Wn.no rfl) rfl rfl (R.load1 (b := b_1) (off := 0) (v := (vi kd)) rfl Try.isAgg101 (h_3.ok _ (.head _)) Sg.h) ?_
  refine WL.want rfl (congrArg Value.bool (decide_eq_true (by omega))) ?_
  refine WL.q (Wn.no rfl) rfl rfl (R.bin (v := (.bool (decide ((kd : Int) ≠ 1)))) rfl rfl (bi_neq (r := decide ((kd : Int) ≠ 1)) rfl)) ?_
  refine WL.want rfl (congrArg Value.bool (decide_eq_true (by omega))) ?_
  refine WL.q (Wn.no rfl) rfl rfl (R.move (v := (.bool (decide ((kd : Int) ≠ 1)))) rfl) ?_
  rcases Bool.eq_false_or_eq_true (decide ((kd : Int) ≠ 1)) with c_4 | c_4
  · have p_5 := of_decide_eq_true c_4
    refine WL.skip rfl (congrArg Value.bool c_4) rfl ?_
    refine WL.skip rfl (congrArg Value.bool c_4) rfl ?_
    refine WL.skip rfl (congrArg Value.bool c_4) rfl ?_
    refine WL.skip rfl (congrArg Value.bool c_4) rfl ?_
    refine WL.want rfl (congrArg Value.bool (decide_eq_true (by omega))) ?_
    refine WL.q (Wn.no rfl) rfl rfl (R.pickT (v := (.bool true)) (congrArg Value.bool c_4) rfl) ?_
    refine WL.q (Wn.no rfl) rfl rfl (R.pickT (v := (.bool true)) (congrArg Value.bool (decide_eq_true (by omega))) rfl) ?_
    refine WL.q (Wn.no rfl) rfl rfl (R.assign (v := (.bool true)) rfl) ?_
    refine WL.nil ?_
    refine thn_n ?_
    refine WP.ret ?_
    refine ret_of Try.results78 (RV.tmp (v := (.bool true)) rfl RV.nil) ?_
    exact ⟨rfl, h_3.chgS⟩
  · have p_6 := of_decide_eq_false c_4
    refine WL.want rfl (congrArg Value.bool c_4) ?_
    refine WL.q (Wn.no rfl) rfl rfl (R.fieldAddr (b := b_1) (off := 0) (off' := 1) rfl Try.underlying103 rfl Try.sizeOf23 rfl rfl) ?_
    refine WL.want rfl (congrArg Value.bool c_4) ?_
    refine WL.q (Wn.no rfl) rfl rfl (R.loadA (b := b_1) (off := 1) [(1, [(vi kd)])] [(32, key.map vu8)] [(1, [(vi dm)]), (1, [(.slice qa qn qc)])] (cs := key.map vu8) rfl Try.isAgg23 Try.sizeOf23 (h_3.ok _ (.head _)) rfl rfl rfl rfl) ?_
    refine WL.want rfl (congrArg Value.bool c_4) ?_
    refine WL.q (Wn.no rfl) rfl rfl (R.buildA (vs := []) (cs := (List.replicate 32 (0 : UInt8)).map vu8) Try.underlying23 Try.sizeOf5 (zv Try.typeInfo23 rfl) rfl rfl) ?_
    refine WL.want rfl (congrArg Value.bool c_4) ?_
    refine WL.q (Wn.no rfl) rfl rfl (R.eqA (xs := key.map vu8) (ys := (List.replicate 32 (0 : UInt8)).map vu8) (r := true) rfl rfl Try.eqGuardType23 kt23 (by decide) ag23 (Typ.u8s Try.underlying23 ce23 Try.underlying5 ce5 hk) (Typ.u8s Try.underlying23 ce23 Try.underlying5 ce5 (List.length_replicate ..)) (eqT (by rw [hz (by omega)]))) ?_
    refine WL.want rfl (congrArg Value.bool (decide_eq_true (by omega))) ?_
    refine WL.q (Wn.no rfl) rfl rfl (R.pickF (v := (.bool true)) (congrArg Value.bool c_4) rfl) ?_
    refine WL.q (Wn.no rfl) rfl rfl (R.pickT (v := (.bool true)) (congrArg Value.bool (decide_eq_true (by omega))) rfl) ?_
    refine WL.q (Wn.no rfl) rfl rfl (R.assign (v := (.bool true)) rfl) ?_
    refine WL.nil ?_
    refine thn_n ?_
    refine WP.ret ?_
    refine ret_of Try.results78 (RV.tmp (v := (.bool true)) rfl RV.nil) ?_
    exact ⟨rfl, h_3.chgS⟩

theorem c_may_0 (dm : Int) (key : List UInt8) (qa : Option Addr) (qn qc : Nat) (hk : key.length = 32) (w : World) :
    Cs Try.prog 78 [(.agg ⟨flat [(1, [(vi 0)]), (32, key.map vu8), (1, [(vi dm)]), (1, [(.slice qa qn qc)])]⟩)].toArray w (fun v w1 => v = (.bool false) ∧ Chg w w1 []) := by
  refine Cs.of (n := 32) (args := [(.agg ⟨flat [(1, [(vi 0)]), (32, key.map vu8), (1, [(vi dm)]), (1, [(.slice qa qn qc)])]⟩)]) Try.func78 rfl rfl rfl ?_
  have h_0 := HP.init w
  refine WP.seq ?_
  refine WP.reg ?_
  refine WL.box (v := (.agg ⟨flat [(1, [(vi 0)]), (32, key.map vu8), (1, [(vi dm)]), (1, [(.slice qa qn qc)])]⟩)) (segs := [(1, [(vi 0)]), (32, key.map vu8), (1, [(vi dm)]), (1, [(.slice qa qn qc)])]) h_0 rfl rfl (SsOk.cons (SOk.v rfl) (SsOk.cons (SOk.u8 hk) (SsOk.cons (SOk.v rfl) (SsOk.cons (SOk.v rfl) SsOk.nil)))) rfl (fun b_1 w_2 h_3 => ?_)
  refine WL.q (Wn.no rfl) rfl rfl (R.assign (v := (.bool false)) rfl) ?_
  refine WL.nil ?_
  refine thn_n ?_
  refine WP.seq ?_
  refine WP.reg ?_
  refine WL.q (Wn.no rfl) rfl rfl (R.fieldAddr (b := b_1) (off := 0) (off' := 0) rfl Try.underlying103 rfl Try.sizeOf101 rfl rfl) ?_
  refine WL.q (Wn.no rfl) rfl rfl (R.load1 (b := b_1) (off := 0) (v := (vi 0)) rfl Try.isAgg101 (h_3.ok _ (.head _)) Sg.h) ?_
  refine WL.q (Wn.no rfl) rfl rfl (R.bin (v := (.bool false)) rfl rfl (bi_geq (r := false) (by decide))) ?_
  refine WL.q (Wn.no rfl) rfl rfl (R.move (v := (.bool false)) rfl) ?_
  refine WL.skip rfl rfl rfl ?_
  refine WL.skip rfl rfl rfl ?_
  refine WL.skip rfl rfl rfl ?_
  refine WL.q (Wn.no rfl) rfl rfl (R.pickF (v := (.bool false)) rfl rfl) ?_
  refine WL.q (Wn.no rfl) rfl rfl (R.move (v := (.bool false)) rfl) ?_
  refine WL.skip rfl rfl rfl ?_
  refine WL.skip rfl rfl rfl ?_
  refine WL.skip rfl rfl rfl ?_
  refine WL.q (Wn.no rfl) rfl rfl (R.pickF (v := (.bool false)) rfl rfl) ?_
  refine WL.q (Wn.no rfl) rfl rfl (R.move (v := (.bool false)) rfl) ?_
  refine WL.skip rfl rfl rfl ?_
  refine WL.skip rfl rfl rfl ?_
  refine WL.skip rfl rfl rfl ?_
  refine WL.q (Wn.no rfl) rfl rfl (R.pickF (v := (.bool false)) rfl rfl) ?_
  refine WL.q (Wn.no rfl) rfl rfl (R.move (v := (.bool false)) rfl) ?_
  refine WL.skip rfl rfl rfl ?_
  refine WL.skip rfl rfl rfl ?_
  refine WL.skip rfl rfl rfl ?_
  refine WL.skip rfl rfl rfl ?_
  refine WL.skipU rfl rfl rfl ?_
  refine WL.skipU rfl rfl rfl ?_
  refine WL.skipU rfl rfl rfl ?_
  refine WL.skipU rfl rfl rfl ?_
  refine WL.skip rfl rfl rfl ?_
  refine WL.q (Wn.no rfl) rfl rfl (R.pickF (v := (.bool false)) rfl rfl) ?_
  refine WL.q (Wn.no rfl) rfl rfl (R.assign (v := (.bool false)) rfl) ?_
  refine WL.nil ?_
  refine thn_n ?_
  refine WP.ret ?_
  refine ret_of Try.results78 (RV.tmp (v := (.bool false)) rfl RV.nil) ?_
  exact ⟨rfl, h_3.chgS⟩

theorem c_oAsk_0 (id : Bool) (ob mp : Nat) (ms : List UInt8) (hms : ms.length = 32) (da : Option Addr) (dn dc u : Nat) (la : Option Addr) (ln lc : Nat) (dm : Int) (key : List UInt8) (qa : Option Addr) (qn qc : Nat) (hk : key.length = 32) (w : World) (hcb : (Ent.blk ob .ro 50 [(1, [(.bool id)]), (32, ms.map vu8), (1, [(.slice da dn dc)]), (1, [(vi ((u : Nat) : Int))]), (1, [(.map (some mp))]), (1, [(.slice la ln lc)])]).ok w.heap.size w) :
    Cs Try.prog 48 [(.pointer (some ⟨ob, 0, none⟩)), (.agg ⟨flat [(1, [(vi 0)]), (32, key.map vu8), (1, [(vi dm)]), (1, [(.slice qa qn qc)])]⟩)].toArray w (fun v w1 => v = (.tuple [(.agg ⟨(List.replicate 32 (0 : UInt8)).map vu8⟩), (vi 2)].toArray) ∧ Chg w w1 []) := by
  refine Cs.of (n := 25) (args := [(.pointer (some ⟨ob, 0, none⟩)), (.agg ⟨flat [(1, [(vi 0)]), (32, key.map vu8), (1, [(vi dm)]), (1, [(.slice qa qn qc)])]⟩)]) Try.func48 rfl rfl rfl ?_
  have h_0 := HP.init w
  have h_00 := h_0.old hcb (fun f hf => by cases hf)
  refine WP.seq ?_
  refine WP.reg ?_
  refine WL.box (v := (.agg ⟨flat [(1, [(vi 0)]), (32, key.map vu8), (1, [(vi dm)]), (1, [(.slice qa qn qc)])]⟩)) (segs := [(1, [(vi 0)]), (32, key.map vu8), (1, [(vi dm)]), (1, [(.slice qa qn qc)])]) h_00 rfl rfl (SsOk.cons (SOk.v rfl) (SsOk.cons (SOk.u8 hk) (SsOk.cons (SOk.v rfl) (SsOk.cons (SOk.v rfl) SsOk.nil)))) rfl (fun b_1 w_2 h_3 => ?_)
  refine WL.alloc (segs := [(32, (List.replicate 32 (0 : UInt8)).map vu8)]) h_3 (zv Try.typeInfo23 rfl) rfl (SsOk.cons (SOk.u8 (List.length_replicate ..)) SsOk.nil) rfl (fun b_4 w_5 h_6 => ?_)
  refine WL.q (Wn.no rfl) rfl rfl (R.assign (v := (vi 0)) rfl) ?_
  refine WL.nil ?_
  refine thn_n ?_
  refine WP.seq ?_
  refine WP.block ?_
  refine WP.seq ?_
  refine WP.reg ?_
  refine WL.q (Wn.no rfl) rfl rfl (R.move (v := (.pointer (some ⟨ob, 0, none⟩))) rfl) ?_
  refine WL.call (al := [(.pointer (some ⟨ob, 0, none⟩))]) Try.call52 rfl rfl (c_othere id ob mp ms hms da dn dc u la ln lc _ (h_6.argR (.tail _ (.tail _ (.head _))))) rfl ?_
  rintro _ w_8 ⟨rfl, hc_7⟩
  have h_9 := h_6.same hc_7
  refine WL.q (Wn.no rfl) rfl rfl (R.not (b := true) rfl) ?_
  refine WL.q (Wn.no rfl) rfl rfl (R.assign (v := (.bool false)) rfl) ?_
  refine WL.nil ?_
  refine thn_n ?_
  refine WP.condF rfl ?_
  refine WP.seq ?_
  refine WP.reg ?_
  refine WL.q (Wn.no rfl) rfl rfl (R.loadA (b := b_1) (off := 0) [] [(1, [(vi 0)]), (32, key.map vu8), (1, [(vi dm)]), (1, [(.slice qa qn qc)])] [] (cs := flat [(1, [(vi 0)]), (32, key.map vu8), (1, [(vi dm)]), (1, [(.slice qa qn qc)])]) rfl Try.isAgg103 Try.sizeOf103 (h_9.ok _ (.tail _ (.head _))) rfl rfl rfl rfl) ?_
  refine WL.call (al := [(.agg ⟨flat [(1, [(vi 0)]), (32, key.map vu8), (1, [(vi dm)]), (1, [(.slice qa qn qc)])]⟩)]) Try.call78 rfl rfl (c_may_0 dm key qa qn qc hk _ ) rfl ?_
  rintro _ w_11 ⟨rfl, hc_10⟩
  have h_12 := h_9.same hc_10
  refine WL.q (Wn.no rfl) rfl rfl (R.not (b := false) rfl) ?_
  refine WL.q (Wn.no rfl) rfl rfl (R.move (v := (.bool true)) rfl) ?_
  refine WL.skip rfl rfl rfl ?_
  refine WL.skip rfl rfl rfl ?_
  refine WL.skip rfl rfl rfl ?_
  refine WL.q (Wn.no rfl) rfl rfl (R.pickT (v := (.bool true)) rfl rfl) ?_
  refine WL.q (Wn.no rfl) rfl rfl (R.assign (v := (.bool true)) rfl) ?_
  refine WL.nil ?_
  refine thn_n ?_
  refine WP.condT rfl ?_
  refine WP.seq ?_
  refine WP.reg ?_
  refine WL.q (Wn.no rfl) rfl rfl (R.buildA (vs := []) (cs := (List.replicate 32 (0 : UInt8)).map vu8) Try.underlying23 Try.sizeOf5 (zv Try.typeInfo23 rfl) rfl rfl) ?_
  refine WL.storeA (b := b_4) (off := 0) [] [(32, (List.replicate 32 (0 : UInt8)).map vu8)] [(32, (List.replicate 32 (0 : UInt8)).map vu8)] [] (ys := (List.replicate 32 (0 : UInt8)).map vu8) h_12 rfl rfl Try.sizeOf23 At.h (by decide) rfl rfl rfl rfl rfl rfl (SsOk.cons (SOk.u8 (List.length_replicate ..)) SsOk.nil) (fun w_13 h_14 => ?_)
  refine WL.q (Wn.no rfl) rfl rfl (R.assign (v := (vi 2)) rfl) ?_
  refine WL.nil ?_
  refine thn_n ?_
  refine WP.ret ?_
  refine inb_r ?_
  refine thn_r ?_
  refine ret_of Try.results48 (RV.cell rfl (h_14.loadA (cs := (List.replicate 32 (0 : UInt8)).map vu8) Try.isAgg23 Try.sizeOf23 (.head _) rfl rfl) (RV.tmp (v := (vi 2)) rfl RV.nil)) ?_
  exact ⟨rfl, h_14.chgS⟩

theorem c_oAsk {w00 : World} {L : List Ent} (id : Bool) (ob mp : Nat) (ms df : List UInt8) (hms : ms.length = 32) (da : Option Addr) (dn dc u : Nat) (hdf : df.length = 32 * dn) (la : Option Addr) (lc : Nat) (lx : List Value) (lg : Lg) (hu : u ≤ 1000000) (hlg : lg.length ≤ 1000000) (kd dm : Int) (key data : List UInt8) (qa : Option Addr) (qn qc : Nat) (hq : okQ (kd, key, dm, data)) (hdl : data.length = qn) (hk4 : ¬ kd = 4) (hz : kd = 1 → key = List.replicate 32 0) (w : World) (h_0 : HP w00 w (Ent.blk ob .nw 50 [(1, [(.bool id)]), (32, ms.map vu8), (1, [(.slice da dn dc)]), (1, [(vi ((u : Nat) : Int))]), (1, [(.map (some mp))]), (1, [(.slice la lg.length lc)])] :: Ent.row la lg.length lc 111 67 lx :: Ent.obj mp .nw (.map (mArr lg) lg.length) :: Ent.pin (sblks lx) (fun w => Lgs w lx lg) :: Ent.view da (df.map vu8) :: Ent.view qa (data.map vu8) :: L)) :
    Cs Try.prog 48 [(.pointer (some ⟨ob, 0, none⟩)), (.agg ⟨flat [(1, [(vi kd)]), (32, key.map vu8), (1, [(vi dm)]), (1, [(.slice qa qn qc)])]⟩)].toArray w (fun v w1 => ∃ la' lc' lx', v = (.tuple [(.agg ⟨(anD id df dn u lg (kd, key, dm, data)).map vu8⟩), (vi 0)].toArray) ∧ HP w00 w1 (Ent.blk ob .nw 50 [(1, [(.bool id)]), (32, ms.map vu8), (1, [(.slice da dn dc)]), (1, [(vi (((anU id u lg (kd, key, dm, data)) : Nat) : Int))]), (1, [(.map (some mp))]), (1, [(.slice la' ((anL id df dn u lg (kd, key, dm, data)).length) lc')])] :: Ent.row la' ((anL id df dn u lg (kd, key, dm, data)).length) lc' 111 67 lx' :: Ent.obj mp .nw (.map (mArr (anL id df dn u lg (kd, key, dm, data))) ((anL id df dn u lg (kd, key, dm, data)).length)) :: Ent.pin (sblks lx') (fun w => Lgs w lx' (anL id df dn u lg (kd, key, dm, data))) :: Ent.view da (df.map vu8) :: Ent.view qa (data.map vu8) :: L)) := by
  refine Cs.of (n := 25) (args := [(.pointer (some ⟨ob, 0, none⟩)), (.agg ⟨flat [(1, [(vi kd)]), (32, key.map vu8), (1, [(vi dm)]), (1, [(.slice qa qn qc)])]⟩)]) Try.func48 rfl rfl rfl ?_
  refine WP.seq ?_
  refine WP.reg ?_
  refine WL.box (v := (.agg ⟨flat [(1, [(vi kd)]), (32, key.map vu8), (1, [(vi dm)]), (1, [(.slice qa qn qc)])]⟩)) (segs := [(1, [(vi kd)]), (32, key.map vu8), (1, [(vi dm)]), (1, [(.slice qa qn qc)])]) h_0 rfl rfl (SsOk.cons (SOk.v rfl) (SsOk.cons (SOk.u8 hq.1) (SsOk.cons (SOk.v rfl) (SsOk.cons (SOk.v rfl) SsOk.nil)))) rfl (fun b_1 w_2 h_3 => ?_)
  refine WL.alloc (segs := [(32, (List.replicate 32 (0 : UInt8)).map vu8)]) h_3 (zv Try.typeInfo23 rfl) rfl (SsOk.cons (SOk.u8 (List.length_replicate ..)) SsOk.nil) rfl (fun b_4 w_5 h_6 => ?_)
  refine WL.q (Wn.no rfl) rfl rfl (R.assign (v := (vi 0)) rfl) ?_
  refine WL.nil ?_
  refine thn_n ?_
  refine WP.seq ?_
  refine WP.block ?_
  refine WP.seq ?_
  refine WP.reg ?_
  refine WL.q (Wn.no rfl) rfl rfl (R.move (v := (.pointer (some ⟨ob, 0, none⟩))) rfl) ?_
  refine WL.call (al := [(.pointer (some ⟨ob, 0, none⟩))]) Try.call52 rfl rfl (c_othere id ob mp ms hms da dn dc u la lg.length lc _ (h_6.argR (.tail _ (.tail _ (.head _))))) rfl ?_
  rintro _ w_8 ⟨rfl, hc_7⟩
  have h_9 := h_6.same hc_7
  refine WL.q (Wn.no rfl) rfl rfl (R.not (b := true) rfl) ?_
  refine WL.q (Wn.no rfl) rfl rfl (R.assign (v := (.bool false)) rfl) ?_
  refine WL.nil ?_
  refine thn_n ?_
  refine WP.condF rfl ?_
  refine WP.seq ?_
  refine WP.reg ?_
  refine WL.q (Wn.no rfl) rfl rfl (R.loadA (b := b_1) (off := 0) [] [(1, [(vi kd)]), (32, key.map vu8), (1, [(vi dm)]), (1, [(.slice qa qn qc)])] [] (cs := flat [(1, [(vi kd)]), (32, key.map vu8), (1, [(vi dm)]), (1, [(.slice qa qn qc)])]) rfl Try.isAgg103 Try.sizeOf103 (h_9.ok _ (.tail _ (.head _))) rfl rfl rfl rfl) ?_
  refine WL.call (al := [(.agg ⟨flat [(1, [(vi kd)]), (32, key.map vu8), (1, [(vi dm)]), (1, [(.slice qa qn qc)])]⟩)]) Try.call78 rfl rfl (c_may kd dm key qa qn qc hq.1 (hq.2.1) (hq.2.2.1) hz _ ) rfl ?_
  rintro _ w_11 ⟨rfl, hc_10⟩
  have h_12 := h_9.same hc_10
  refine WL.q (Wn.no rfl) rfl rfl (R.not (b := true) rfl) ?_
  refine WL.q (Wn.no rfl) rfl rfl (R.move (v := (.bool false)) rfl) ?_
  refine WL.want rfl rfl ?_
  refine WL.q (Wn.no rfl) rfl rfl (R.fieldAddr (b := b_1) (off := 0) (off' := 0) rfl Try.underlying103 rfl Try.sizeOf101 rfl rfl) ?_
  refine WL.want rfl rfl ?_
  refine WL.q (Wn.no rfl) rfl rfl (R.load1 (b := b_1) (off := 0) (v := (vi kd)) rfl Try.isAgg101 (h_12.ok _ (.tail _ (.head _))) Sg.h) ?_
  refine WL.want rfl rfl ?_
  refine WL.q (Wn.no rfl) rfl rfl (R.bin (v := (.bool (decide ((kd : Int) = 4)))) rfl rfl (bi_eql (r := decide ((kd : Int) = 4)) rfl)) ?_
  refine WL.q (Wn.no rfl) rfl rfl (R.pickF (v := (.bool (decide ((kd : Int) = 4)))) rfl rfl) ?_
  refine WL.q (Wn.no rfl) rfl rfl (R.assign (v := (.bool (decide ((kd : Int) = 4)))) rfl) ?_
  refine WL.nil ?_
  refine thn_n ?_
  refine WP.condF (congrArg Value.bool (decide_eq_false hk4)) ?_
  refine WP.skip ?_
  refine inb_n ?_
  refine thn_n ?_
  refine WP.seq ?_
  refine WP.reg ?_
  refine WL.q (Wn.no rfl) rfl rfl (R.move (v := (.pointer (some ⟨ob, 0, none⟩))) rfl) ?_
  refine WL.q (Wn.no rfl) rfl rfl (R.loadA (b := b_1) (off := 0) [] [(1, [(vi kd)]), (32, key.map vu8), (1, [(vi dm)]), (1, [(.slice qa qn qc)])] [] (cs := flat [(1, [(vi kd)]), (32, key.map vu8), (1, [(vi dm)]), (1, [(.slice qa qn qc)])]) rfl Try.isAgg103 Try.sizeOf103 (h_12.ok _ (.tail _ (.head _))) rfl rfl rfl rfl) ?_
  refine WL.q (Wn.no rfl) rfl rfl (R.makeFuncL (fi := []) (ca := [(.pointer (some ⟨b_1, 0, none⟩))]) rfl rfl) ?_
  have h_13 := h_12.up (Pick.t Pick.h)
  have h_14 := h_13.up (Pick.t (Pick.t (Pick.t (Pick.t (Pick.t (Pick.t (Pick.t Pick.h)))))))
  have h_15 := h_14.up (Pick.t (Pick.t (Pick.t (Pick.t (Pick.t (Pick.t (Pick.t Pick.h)))))))
  have h_16 := h_15.up (Pick.t (Pick.t (Pick.t (Pick.t (Pick.t (Pick.t (Pick.t Pick.h)))))))
  have h_17 := h_16.up (Pick.t (Pick.t (Pick.t (Pick.t (Pick.t (Pick.t (Pick.t Pick.h)))))))
  have h_18 := h_17.up (Pick.t (Pick.t (Pick.t (Pick.t (Pick.t (Pick.t (Pick.t Pick.h)))))))
  have h_19 := h_18.up (Pick.t (Pick.t (Pick.t (Pick.t (Pick.t (Pick.t (Pick.t Pick.h)))))))
  have h32_w_23 := (Lgs.ok32 (h_19.ok _ (.tail _ (.tail _ (.tail _ (.head _))))).1)
  refine WL.call (al := [(.pointer (some ⟨ob, 0, none⟩)), (.agg ⟨flat [(1, [(vi kd)]), (32, key.map vu8), (1, [(vi dm)]), (1, [(.slice qa qn qc)])]⟩), (Value.func (Fn.func 80) [].toArray [(Value.pointer (some ⟨b_1, 0, none⟩))].toArray)]) Try.call79 rfl rfl (c_ansG id ob mp ms df hms da dn dc u hdf la lc lx lg (by first | decide | omega) (by first | decide | omega) kd dm key data qa qn qc hq hdl b_1 _ h_19) rfl ?_
  rintro _ w_23 ⟨la_20, lc_21, lx_22, rfl, h_24⟩
  refine WL.storeA (b := b_4) (off := 0) [] [(32, (List.replicate 32 (0 : UInt8)).map vu8)] [(32, (anD id df dn u lg (kd, key, dm, data)).map vu8)] [] (ys := (anD id df dn u lg (kd, key, dm, data)).map vu8) h_24 rfl rfl Try.sizeOf23 (At.t (At.t (At.t (At.t (At.t (At.t (At.t At.h))))))) (by decide) rfl rfl rfl rfl rfl rfl (SsOk.cons (SOk.u8 (anD_len hdf h32_w_23)) SsOk.nil) (fun w_25 h_26 => ?_)
  refine WL.q (Wn.no rfl) rfl rfl (R.assign (v := (vi 0)) rfl) ?_
  refine WL.nil ?_
  refine thn_n ?_
  refine WP.ret ?_
  refine ret_of Try.results48 (RV.cell rfl (h_26.loadA (cs := (anD id df dn u lg (kd, key, dm, data)).map vu8) Try.isAgg23 Try.sizeOf23 (.tail _ (.tail _ (.tail _ (.tail _ (.tail _ (.tail _ (.tail _ (.head _)))))))) rfl rfl) (RV.tmp (v := (vi 0)) rfl RV.nil)) ?_
  have h_27 := h_26.up (Pick.t (Pick.t (Pick.t (Pick.t (Pick.t (Pick.t Pick.h))))))
  have h_28 := h_27.drop rfl
  have h_29 := h_28.up (Pick.t (Pick.t (Pick.t (Pick.t (Pick.t (Pick.t Pick.h))))))
  have h_30 := h_29.drop rfl
  have h_31 := h_30.up (Pick.t (Pick.t (Pick.t (Pick.t (Pick.t Pick.h)))))
  have h_32 := h_31.up (Pick.t (Pick.t (Pick.t (Pick.t (Pick.t Pick.h)))))
  have h_33 := h_32.up (Pick.t (Pick.t (Pick.t (Pick.t (Pick.t Pick.h)))))
  have h_34 := h_33.up (Pick.t (Pick.t (Pick.t (Pick.t (Pick.t Pick.h)))))
  have h_35 := h_34.up (Pick.t (Pick.t (Pick.t (Pick.t (Pick.t Pick.h)))))
  have h_36 := h_35.up (Pick.t (Pick.t (Pick.t (Pick.t (Pick.t Pick.h)))))
  exact ⟨_, _, _, rfl, h_36⟩
end Go.Proofs.Ytnhppjimimhlkaa

namespace Go.Proofs.Ytnhppjimimhlkaa
open Go.Vc Go.Orc Go.Sh Go.RowKit
set_option maxRecDepth 20000
theorem pl50 : ∀ fs, Try.prog.underlying 50 = some (.struct fs) → Places Try.prog fs [(0, 1), (1, 32), (33, 1), (34, 1), (35, 1), (36, 1)] := by
  intro fs h w; rw [Try.underlying50] at h; cases h; simp
theorem pl103 : ∀ fs, Try.prog.underlying 103 = some (.struct fs) → Places Try.prog fs [(0, 1), (1, 32), (33, 1), (34, 1)] := by
  intro fs h w; rw [Try.underlying103] at h; cases h; simp
theorem c_ONew {w00 : World} {L : List Ent} (id : Bool) (ms df : List UInt8) (hms : ms.length = 32) (a : Option Addr) (n cap : Nat) (hl : df.length = 32 * n) (hn : n ≤ 1000000) (w : World) (h_0 : HP w00 w (Ent.view a (df.map vu8) :: L)) :
    Cs Try.prog 17 [(.bool id), (.agg ⟨ms.map vu8⟩), (.slice a n cap)].toArray w (fun v w1 => ∃ ob mp da dc, v = .pointer (some ⟨ob, 0, none⟩) ∧ HP w00 w1 (Ent.blk ob .nw 50 [(1, [(.bool id)]), (32, ms.map vu8), (1, [(.slice da n dc)]), (1, [(vi 0)]), (1, [(.map (some mp))]), (1, [(.slice none 0 0)])] :: Ent.row none 0 0 111 67 [] :: Ent.obj mp .nw (.map (mArr ([] : Lg)) 0) :: Ent.pin (sblks []) (fun w => Lgs w [] ([] : Lg)) :: Ent.view da (df.map vu8) :: Ent.view a (df.map vu8) :: L)) := by
  refine Cs.of (n := 14) (args := [(.bool id), (.agg ⟨ms.map vu8⟩), (.slice a n cap)]) Try.func17 rfl rfl rfl ?_
  refine WP.seq ?_
  refine WP.reg ?_
  refine WL.box (v := (.agg ⟨ms.map vu8⟩)) (segs := [(32, ms.map vu8)]) h_0 rfl rfl (SsOk.cons (SOk.u8 hms) SsOk.nil) rfl (fun b_1 w_2 h_3 => ?_)
  refine WL.q (Wn.no rfl) rfl rfl (R.assign (v := (.pointer none)) rfl) ?_
  refine WL.nil ?_
  refine thn_n ?_
  refine WP.seq ?_
  refine WP.cutG (G := Nat × Option Addr × Nat × Nat) [6, 7, 8, 9, 10, 11, 12, 13] (fun (bY1Y6Y0Y0, aY1Y3Y0Y0, capY1Y3Y0Y0, bY1Y4Y0Y0) => [(6, (.pointer (some ⟨bY1Y6Y0Y0, 0, none⟩))), (7, (.bool id)), (8, (.agg ⟨ms.map vu8⟩)), (9, (.slice a n cap)), (10, (.slice aY1Y3Y0Y0 n capY1Y3Y0Y0)), (11, (.map (some bY1Y4Y0Y0))), (12, (.agg ⟨flat [(1, [(.bool id)]), (32, ms.map vu8), (1, [(.slice aY1Y3Y0Y0 n capY1Y3Y0Y0)]), (1, [(vi 0)]), (1, [(.map (some bY1Y4Y0Y0))]), (1, [(.slice none 0 0)])]⟩)), (13, (.pointer (some ⟨bY1Y6Y0Y0, 0, none⟩)))]) (fun (bY1Y6Y0Y0, aY1Y3Y0Y0, capY1Y3Y0Y0, bY1Y4Y0Y0) w1 => HP w00 w1 (Ent.blk bY1Y6Y0Y0 .nw 50 [(1, [(.bool id)]), (32, ms.map vu8), (1, [(.slice aY1Y3Y0Y0 n capY1Y3Y0Y0)]), (1, [(vi 0)]), (1, [(.map (some bY1Y4Y0Y0))]), (1, [(.slice none 0 0)])] :: Ent.obj bY1Y4Y0Y0 .nw (.map (#[]) 0) :: Ent.row aY1Y3Y0Y0 n capY1Y3Y0Y0 23 32 (df.map vu8) :: Ent.blk b_1 .nw 23 [(32, ms.map vu8)] :: Ent.view a (df.map vu8) :: L)) ?_ ?_
  · refine WP.drawT (SL w00.heap.size [.blk b_1 .nw 23 [(32, ms.map vu8)], .view a (df.map vu8)]) (.q 0 (.q 1 (.q 2 (.s2 3 4 (.s 4 (.q 5 (.s 6 (.q 7 .nil)))) (.s 3 (.q 5 (.s 6 (.q 7 .nil)))))))) (by kernel_rfl) (by kernel_rfl) rfl (by kernel_rfl) (fun w_4 hc_6 => (SL.cons ((h_3.same hc_6).ok _ (.head _)) (SL.cons ((h_3.same hc_6).ok _ (.tail _ (.head _))) (SL.nil _ _)))) (fun w_4 hc_6 => ?_)
    have h_5 := h_3.same hc_6
    refine WT.q rfl (Wn.no rfl) rfl rfl (fun wq hS => R.move (v := (.bool id)) rfl) ?_
    refine WT.q rfl (Wn.no rfl) rfl rfl (fun wq hS => R.loadA (b := b_1) (off := 0) [] [(32, ms.map vu8)] [] (cs := ms.map vu8) rfl Try.isAgg23 Try.sizeOf23 (hS _ (.head _)) rfl rfl rfl rfl) ?_
    refine WT.q rfl (Wn.no rfl) rfl rfl (fun wq hS => R.move (v := (.slice a n cap)) rfl) ?_
    refine WT.s2 ?_ ?_
    · refine Op1.one rfl (Wn.no rfl) ?_
      refine WL.call (al := [(.slice a n cap)]) Try.call50 rfl rfl (c_CloneD a n cap df hl (by omega) _ (viewV (h_5.ok _ (.tail _ (.head _))))) rfl ?_
      rintro _ w_9 ⟨a_7, cap_8, rfl, hc_10, ho_11⟩
      have h_12 := h_5.gotRow hc_10 ho_11
      refine WL.nil ?_
      refine ⟨(SL.cons (h_12.ok _ (.tail _ (.head _))) (SL.cons (h_12.ok _ (.tail _ (.tail _ (.head _)))) (SL.nil _ _))), ?_⟩
      refine WT.s ?_
      refine Op1.one rfl (Wn.no rfl) ?_
      refine WL.makeMap h_12 rfl (fun b_13 w_14 h_15 => ?_)
      refine WL.nil ?_
      refine ⟨(SL.cons (h_15.ok _ (.tail _ (.tail _ (.head _)))) (SL.cons (h_15.ok _ (.tail _ (.tail _ (.tail _ (.head _))))) (SL.nil _ _))), ?_⟩
      refine WT.q rfl (Wn.no rfl) rfl rfl (fun wq hS => R.buildS (pl := [(0, 1), (1, 32), (33, 1), (34, 1), (35, 1), (36, 1)]) (zs := [(1, [(.bool false)]), (32, (List.replicate 32 (0 : UInt8)).map vu8), (1, [(.slice none 0 0)]), (1, [(vi 0)]), (1, [(.map none)]), (1, [(.slice none 0 0)])]) (vs := [(0, (.bool id)), (1, (.agg ⟨ms.map vu8⟩)), (2, (.slice a_7 n cap_8)), (4, (.map (some b_13)))]) (out := [(1, [(.bool id)]), (32, ms.map vu8), (1, [(.slice a_7 n cap_8)]), (1, [(vi 0)]), (1, [(.map (some b_13))]), (1, [(.slice none 0 0)])]) (cs := flat [(1, [(.bool id)]), (32, ms.map vu8), (1, [(.slice a_7 n cap_8)]), (1, [(vi 0)]), (1, [(.map (some b_13))]), (1, [(.slice none 0 0)])]) Try.underlying50 (zv Try.typeInfo50 rfl) rfl (SsOk.cons (SOk.v rfl) (SsOk.cons (SOk.u8 (List.length_replicate ..)) (SsOk.cons (SOk.v rfl) (SsOk.cons (SOk.v rfl) (SsOk.cons (SOk.v rfl) (SsOk.cons (SOk.v rfl) SsOk.nil)))))) (pl50 _ Try.underlying50) rfl (FillR.cons [] [(1, [(.bool false)])] [(1, [(.bool id)])] [(32, (List.replicate 32 (0 : UInt8)).map vu8), (1, [(.slice none 0 0)]), (1, [(vi 0)]), (1, [(.map none)]), (1, [(.slice none 0 0)])] rfl rfl rfl rfl (SsOk.cons (SOk.v rfl) SsOk.nil) rfl rfl rfl (FillR.cons [(1, [(.bool id)])] [(32, (List.replicate 32 (0 : UInt8)).map vu8)] [(32, ms.map vu8)] [(1, [(.slice none 0 0)]), (1, [(vi 0)]), (1, [(.map none)]), (1, [(.slice none 0 0)])] rfl rfl rfl rfl (SsOk.cons (SOk.u8 hms) SsOk.nil) rfl rfl rfl (FillR.cons [(1, [(.bool id)]), (32, ms.map vu8)] [(1, [(.slice none 0 0)])] [(1, [(.slice a_7 n cap_8)])] [(1, [(vi 0)]), (1, [(.map none)]), (1, [(.slice none 0 0)])] rfl rfl rfl rfl (SsOk.cons (SOk.v rfl) SsOk.nil) rfl rfl rfl (FillR.cons [(1, [(.bool id)]), (32, ms.map vu8), (1, [(.slice a_7 n cap_8)]), (1, [(vi 0)])] [(1, [(.map none)])] [(1, [(.map (some b_13))])] [(1, [(.slice none 0 0)])] rfl rfl rfl rfl (SsOk.cons (SOk.v rfl) SsOk.nil) rfl rfl rfl FillR.nil)))) rfl) ?_
      refine WT.s ?_
      refine Op1.one rfl (Wn.no rfl) ?_
      refine WL.box (v := (.agg ⟨flat [(1, [(.bool id)]), (32, ms.map vu8), (1, [(.slice a_7 n cap_8)]), (1, [(vi 0)]), (1, [(.map (some b_13))]), (1, [(.slice none 0 0)])]⟩)) (segs := [(1, [(.bool id)]), (32, ms.map vu8), (1, [(.slice a_7 n cap_8)]), (1, [(vi 0)]), (1, [(.map (some b_13))]), (1, [(.slice none 0 0)])]) h_15 rfl rfl (SsOk.cons (SOk.v rfl) (SsOk.cons (SOk.u8 hms) (SsOk.cons (SOk.v rfl) (SsOk.cons (SOk.v rfl) (SsOk.cons (SOk.v rfl) (SsOk.cons (SOk.v rfl) SsOk.nil)))))) rfl (fun b_17 w_18 h_19 => ?_)
      refine WL.nil ?_
      refine ⟨(SL.cons (h_19.ok _ (.tail _ (.tail _ (.tail _ (.head _))))) (SL.cons (h_19.ok _ (.tail _ (.tail _ (.tail _ (.tail _ (.head _)))))) (SL.nil _ _))), ?_⟩
      refine WT.q rfl (Wn.no rfl) rfl rfl (fun wq hS => R.assign (v := (.pointer (some ⟨b_17, 0, none⟩))) rfl) ?_
      refine WT.nil ?_
      refine thn_n ?_
      exact ⟨(b_17, a_7, cap_8, b_13), (Ag.upd rfl (Ag.upd rfl (Ag.upd rfl (Ag.upd rfl (Ag.upd rfl (Ag.upd rfl (Ag.upd rfl (Ag.upd rfl (Ag.refl _ _))))))))), ⟨rfl, rfl, rfl, rfl, rfl, rfl, rfl, rfl, trivial⟩, h_19⟩
    · refine Op1.one rfl (Wn.no rfl) ?_
      refine WL.makeMap h_5 rfl (fun b_20 w_21 h_22 => ?_)
      refine WL.nil ?_
      refine ⟨(SL.cons (h_22.ok _ (.tail _ (.head _))) (SL.cons (h_22.ok _ (.tail _ (.tail _ (.head _)))) (SL.nil _ _))), ?_⟩
      refine WT.s ?_
      refine Op1.one rfl (Wn.no rfl) ?_
      refine WL.call (al := [(.slice a n cap)]) Try.call50 rfl rfl (c_CloneD a n cap df hl (by omega) _ (viewV (h_22.ok _ (.tail _ (.tail _ (.head _)))))) rfl ?_
      rintro _ w_25 ⟨a_23, cap_24, rfl, hc_26, ho_27⟩
      have h_28 := h_22.gotRow hc_26 ho_27
      refine WL.nil ?_
      refine ⟨(SL.cons (h_28.ok _ (.tail _ (.tail _ (.head _)))) (SL.cons (h_28.ok _ (.tail _ (.tail _ (.tail _ (.head _))))) (SL.nil _ _))), ?_⟩
      refine WT.q rfl (Wn.no rfl) rfl rfl (fun wq hS => R.buildS (pl := [(0, 1), (1, 32), (33, 1), (34, 1), (35, 1), (36, 1)]) (zs := [(1, [(.bool false)]), (32, (List.replicate 32 (0 : UInt8)).map vu8), (1, [(.slice none 0 0)]), (1, [(vi 0)]), (1, [(.map none)]), (1, [(.slice none 0 0)])]) (vs := [(0, (.bool id)), (1, (.agg ⟨ms.map vu8⟩)), (2, (.slice a_23 n cap_24)), (4, (.map (some b_20)))]) (out := [(1, [(.bool id)]), (32, ms.map vu8), (1, [(.slice a_23 n cap_24)]), (1, [(vi 0)]), (1, [(.map (some b_20))]), (1, [(.slice none 0 0)])]) (cs := flat [(1, [(.bool id)]), (32, ms.map vu8), (1, [(.slice a_23 n cap_24)]), (1, [(vi 0)]), (1, [(.map (some b_20))]), (1, [(.slice none 0 0)])]) Try.underlying50 (zv Try.typeInfo50 rfl) rfl (SsOk.cons (SOk.v rfl) (SsOk.cons (SOk.u8 (List.length_replicate ..)) (SsOk.cons (SOk.v rfl) (SsOk.cons (SOk.v rfl) (SsOk.cons (SOk.v rfl) (SsOk.cons (SOk.v rfl) SsOk.nil)))))) (pl50 _ Try.underlying50) rfl (FillR.cons [] [(1, [(.bool false)])] [(1, [(.bool id)])] [(32, (List.replicate 32 (0 : UInt8)).map vu8), (1, [(.slice none 0 0)]), (1, [(vi 0)]), (1, [(.map none)]), (1, [(.slice none 0 0)])] rfl rfl rfl rfl (SsOk.cons (SOk.v rfl) SsOk.nil) rfl rfl rfl (FillR.cons [(1, [(.bool id)])] [(32, (List.replicate 32 (0 : UInt8)).map vu8)] [(32, ms.map vu8)] [(1, [(.slice none 0 0)]), (1, [(vi 0)]), (1, [(.map none)]), (1, [(.slice none 0 0)])] rfl rfl rfl rfl (SsOk.cons (SOk.u8 hms) SsOk.nil) rfl rfl rfl (FillR.cons [(1, [(.bool id)]), (32, ms.map vu8)] [(1, [(.slice none 0 0)])] [(1, [(.slice a_23 n cap_24)])] [(1, [(vi 0)]), (1, [(.map none)]), (1, [(.slice none 0 0)])] rfl rfl rfl rfl (SsOk.cons (SOk.v rfl) SsOk.nil) rfl rfl rfl (FillR.cons [(1, [(.bool id)]), (32, ms.map vu8), (1, [(.slice a_23 n cap_24)]), (1, [(vi 0)])] [(1, [(.map none)])] [(1, [(.map (some b_20))])] [(1, [(.slice none 0 0)])] rfl rfl rfl rfl (SsOk.cons (SOk.v rfl) SsOk.nil) rfl rfl rfl FillR.nil)))) rfl) ?_
      refine WT.s ?_
      refine Op1.one rfl (Wn.no rfl) ?_
      refine WL.box (v := (.agg ⟨flat [(1, [(.bool id)]), (32, ms.map vu8), (1, [(.slice a_23 n cap_24)]), (1, [(vi 0)]), (1, [(.map (some b_20))]), (1, [(.slice none 0 0)])]⟩)) (segs := [(1, [(.bool id)]), (32, ms.map vu8), (1, [(.slice a_23 n cap_24)]), (1, [(vi 0)]), (1, [(.map (some b_20))]), (1, [(.slice none 0 0)])]) h_28 rfl rfl (SsOk.cons (SOk.v rfl) (SsOk.cons (SOk.u8 hms) (SsOk.cons (SOk.v rfl) (SsOk.cons (SOk.v rfl) (SsOk.cons (SOk.v rfl) (SsOk.cons (SOk.v rfl) SsOk.nil)))))) rfl (fun b_30 w_31 h_32 => ?_)
      refine WL.nil ?_
      refine ⟨(SL.cons (h_32.ok _ (.tail _ (.tail _ (.tail _ (.head _))))) (SL.cons (h_32.ok _ (.tail _ (.tail _ (.tail _ (.tail _ (.head _)))))) (SL.nil _ _))), ?_⟩
      refine WT.q rfl (Wn.no rfl) rfl rfl (fun wq hS => R.assign (v := (.pointer (some ⟨b_30, 0, none⟩))) rfl) ?_
      refine WT.nil ?_
      refine thn_n ?_
      have h_33 := h_32.up (Pick.t (Pick.t (Pick.t (Pick.t Pick.h))))
      have h_34 := h_33.up (Pick.t (Pick.t (Pick.t (Pick.t Pick.h))))
      have h_35 := h_34.up (Pick.t (Pick.t (Pick.t Pick.h)))
      have h_36 := h_35.up (Pick.t (Pick.t (Pick.t (Pick.t Pick.h))))
      have h_37 := h_36.up (Pick.t (Pick.t (Pick.t (Pick.t Pick.h))))
      exact ⟨(b_30, a_23, cap_24, b_20), (Ag.upd rfl (Ag.upd rfl (Ag.upd rfl (Ag.upd rfl (Ag.upd rfl (Ag.upd rfl (Ag.upd rfl (Ag.upd rfl (Ag.refl _ _))))))))), ⟨rfl, rfl, rfl, rfl, rfl, rfl, rfl, rfl, trivial⟩, h_37⟩
  · rintro ⟨b_41, a_42, cap_43, b_44⟩ J_38 w_39 h_40
    refine thn_n ?_
    refine WP.ret ?_
    refine ret_of Try.results17 (RV.tmp (v := (.pointer (some ⟨b_41, 0, none⟩))) rfl RV.nil) ?_
    have h_45 := h_40.up (Pick.t (Pick.t Pick.h))
    have h_46 := h_45.rowView
    have h_47 := h_46.rowNil 111 67
    have h_48 := HP_logNil h_47
    have h_49 := h_48.up (Pick.t (Pick.t (Pick.t (Pick.t (Pick.t Pick.h)))))
    have h_50 := h_49.drop rfl
    have h_51 := h_50.up (Pick.t (Pick.t (Pick.t (Pick.t (Pick.t Pick.h)))))
    have h_52 := h_51.up (Pick.t (Pick.t (Pick.t Pick.h)))
    have h_53 := h_52.up (Pick.t (Pick.t Pick.h))
    have h_54 := h_53.up (Pick.t (Pick.t (Pick.t (Pick.t (Pick.t Pick.h)))))
    have h_55 := h_54.up (Pick.t (Pick.t (Pick.t (Pick.t Pick.h))))
    have h_56 := h_55.up (Pick.t (Pick.t (Pick.t (Pick.t (Pick.t Pick.h)))))
    exact ⟨_, _, _, _, rfl, h_56⟩
theorem c_joined (a : Option Addr) (n cap : Nat) (xs : List Value) (ls : List (List UInt8)) (hln : ls.length = n) (hb : ls.flatten.length ≤ 1099511627776) (hnb : n ≤ 1099511627776) (w : World) (hv : View w a xs) (hs : Sls w xs ls) :
    Cs Try.prog 53 [(.slice a n cap)].toArray w (fun v w1 => ∃ a cap, v = .slice a ls.flatten.length cap ∧ Chg w w1 [] ∧ Own w.heap.size w1 5 1 a ls.flatten.length cap ((ls.flatten).map vu8)) := by
  refine Cs.of (n := 5) (args := [(.slice a n cap)]) Try.func53 rfl rfl rfl ?_
  have h_0 := HP.init w
  have h_01 := h_0.old (View.arg hv) (fun f hf => by cases hf)
  have h_00 := h_01.old hs.pin (fun f hf => by rw [List.mem_singleton] at hf; subst hf; intro hm; simp [Ent.mut] at hm)
  have hxl : xs.length = n := hs.len.trans hln
  refine WP.seq ?_
  refine WP.reg ?_
  refine WL.q (Wn.no rfl) rfl rfl (R.assign (v := (.slice none 0 0)) rfl) ?_
  refine WL.nil ?_
  refine thn_n ?_
  refine WP.seq ?_
  refine WP.reg ?_
  refine WL.q (Wn.no rfl) rfl rfl (R.move (v := (.slice a n cap)) rfl) ?_
  refine WL.call (al := [(.slice a n cap)]) Try.call86 rfl rfl (c_Concat a n cap xs ls hln (by omega) (by omega) _ (viewV (h_00.ok _ (.tail _ (.head _)))) (h_00.ok _ (.head _)).1) rfl ?_
  rintro _ w_3 ⟨a_1, cap_2, rfl, hc_4, ho_5⟩
  have h_6 := h_00.gotRow hc_4 ho_5
  refine WL.q (Wn.no rfl) rfl rfl (R.assign (v := (.slice a_1 ls.flatten.length cap_2)) rfl) ?_
  refine WL.nil ?_
  refine thn_n ?_
  refine WP.ret ?_
  refine ret_of Try.results53 (RV.tmp (v := (.slice a_1 ls.flatten.length cap_2)) rfl RV.nil) ?_
  exact ⟨_, _, rfl, h_6.chgS, h_6.ok _ (.head _)⟩

end Go.Proofs.Ytnhppjimimhlkaa

namespace Go.Orc
open Go.Vc Go.RowKit
section
variable {P : Program} {n : Nat} {ops : Array Oper} {Q : Exit → Fr → World → Prop} {rest : List Oper} {F : Fr} {w w' w0 : World} {L : List Ent} {ty : TypeId} {pos : String} {after : Array Edge}
end
end Go.Orc

namespace Go.Proofs.Ytnhppjimimhlkaa
open Go.Vc Go.Orc Go.Sh Go.RowKit
set_option maxRecDepth 20000

theorem ns_all (ns : List Nat) : (ns.map Int.ofNat).all nonneg = true := by
  rw [List.all_eq_true]
  intro x hx
  obtain ⟨y, _, rfl⟩ := List.mem_map.1 hx
  simp [nonneg]
theorem c_Cut_t (a : Option Addr) (n cap : Nat) (bs : List UInt8) (hl : bs.length = n) (hn : n ≤ 1099511627776) (a2 : Option Addr) (n2 cap2 : Nat) (ns : List Nat) (hl2 : ns.length = n2) (hn2 : n2 ≤ 1099511627776) (lr : List (List UInt8)) (hx : Go.Wr.cutL ns bs = some lr) (w : World) (hv : View w a (bs.map vu8)) (hv2 : View w a2 ((ns.map Int.ofNat).map vi64)) :
    Cs Try.prog 84 [(.slice a n cap), (.slice a2 n2 cap2)].toArray w (fun v w1 => ∃ a cap xs, v = .tuple [.slice a lr.length cap, vi 0].toArray ∧ Chg w w1 [] ∧ View w1 a xs ∧ Sls w1 xs lr ∧ ∀ b ∈ (Ent.view a xs).blocks ++ sblks xs, w.heap.size ≤ b) := by
  refine Cs.of (n := 39) (args := [(.slice a n cap), (.slice a2 n2 cap2)]) Try.func84 rfl rfl rfl ?_
  have h_0 := HP.init w
  have h_01 := h_0.oldV (View.arg hv) rfl (by simp [Ent.mut])
  have h_00 := h_01.oldV (View.arg hv2) rfl (by simp [Ent.mut])
  refine WP.seq ?_
  refine WP.reg ?_
  refine WL.q (Wn.no rfl) rfl rfl (R.assign (v := (.slice none 0 0)) rfl) ?_
  refine WL.q (Wn.no rfl) rfl rfl (R.assign (v := (vi 0)) rfl) ?_
  refine WL.nil ?_
  refine thn_n ?_
  refine WP.seq ?_
  refine WP.seq ?_
  refine WP.reg ?_
  refine WL.q (Wn.no rfl) rfl rfl (R.move (v := (.slice a2 n2 cap2)) rfl) ?_
  refine WL.call (al := [(.slice a2 n2 cap2), (Value.func (Fn.func 103) [].toArray [].toArray)]) Try.call102 rfl rfl (c_CfZ_t a2 n2 cap2 (ns.map Int.ofNat) ((List.length_map ..).trans hl2) (by omega) (ns_all ns) _ (viewV (h_00.ok _ (.head _)))) rfl ?_
  rintro _ w_2 ⟨rfl, hc_1⟩
  have h_3 := h_00.same hc_1
  refine WL.nil ?_
  refine thn_n ?_
  refine WP.condF rfl ?_
  refine WP.skip ?_
  refine thn_n ?_
  refine WP.seq ?_
  refine WP.reg ?_
  refine WL.q (Wn.no rfl) rfl rfl (R.assign (v := (.slice none 0 0)) rfl) ?_
  refine WL.nil ?_
  refine thn_n ?_
  refine WP.seq ?_
  refine WP.reg ?_
  refine WL.q (Wn.no rfl) rfl rfl (R.move (v := (.slice a n cap)) rfl) ?_
  refine WL.call (al := [(.slice a n cap)]) Try.call58 rfl rfl (c_Clone a n cap bs hl (by omega) _ (viewV (h_3.ok _ (.tail _ (.head _))))) rfl ?_
  rintro _ w_6 ⟨a_4, cap_5, rfl, hc_7, ho_8⟩
  have h_9 := h_3.gotRow hc_7 ho_8
  have hq_10 := ho_8.2.2.1
  refine WL.q (Wn.no rfl) rfl rfl (R.assign (v := (.slice a_4 n cap_5)) rfl) ?_
  refine WL.nil ?_
  refine thn_n ?_
  refine WP.seq ?_
  refine WP.seq ?_
  refine WP.reg ?_
  refine WL.q (Wn.no rfl) rfl rfl (R.move (v := (.slice a2 n2 cap2)) rfl) ?_
  refine WL.q (Wn.no rfl) rfl rfl (R.lenS (a := a2) (m := n2) rfl rfl Try.underlying70) ?_
  refine WL.q (Wn.no rfl) rfl rfl (R.move (v := (vi 0)) rfl) ?_
  refine WL.nil ?_
  refine thn_n ?_
  refine WP.block ?_
  have hf_11 := Own.blk (h_9.own (.head _))
  have h_12 := h_9.rowView
  have h_13 := h_12.slsNil
  have h_14 := h_13.rowNil 37 1
  refine WP.loopG (G := Nat × Option Addr × Nat × List Value × List (List UInt8) × Option Addr × Nat × Nat × List UInt8) [4, 5, 6, 7, 9, 16, 17, 18, 19, 20, 21, 22, 23, 24, 25, 26, 27, 28, 29, 30, 31, 32, 33, 34] (fun (k, oa, oc, xs, ls, ra, rc, z, r) => [(6, (.slice oa k oc)), (7, (.slice ra z rc)), (16, (vi ((k : Nat) : Int)))]) (fun (k, oa, oc, xs, ls, ra, rc, z, r) m w1 => HP w w1 [.row oa k oc 37 1 xs, .pin (sblks xs) (fun w => Sls w xs ls), .view ra (r.map vu8), .view a2 ((ns.map Int.ofNat).map vi64), .view a (bs.map vu8)] ∧ (k ≤ n2) ∧ (r.length = z) ∧ (z ≤ rc) ∧ (z ≤ n) ∧ (ls.length = k) ∧ (∀ b ∈ sblks xs, w.heap.size ≤ b) ∧ (∀ b ∈ (Ent.view ra (r.map vu8)).blocks, w.heap.size ≤ b) ∧ (Go.Wr.cutL ns bs = (Go.Wr.cutL (ns.drop k) r).map (ls ++ ·)) ∧ m = n2 - k) ⟨(0, none, 0, [], [], a_4, cap_5, n, bs), _, ⟨rfl, rfl, rfl, trivial⟩, h_14, (by omega), hl, (by omega), Nat.le_refl n, rfl, (fun b hb => by cases hb), hf_11, (by rw [List.drop_zero]; cases Go.Wr.cutL ns bs <;> simp), rfl⟩ ?_
  rintro ⟨k, oa, oc, xs, ls, ra, rc, z, r⟩ m_17 J_18 w_15 ⟨h_16, hk, hz, hrc, hrn, hkl, hf1, hf2, hsp, rfl⟩
  refine WP.seq ?_
  refine WP.reg ?_
  refine WL.q (Wn.no rfl) rfl rfl (R.bin (v := (.bool (decide ((((k : Nat) : Int) : Int) < ((n2 : Nat) : Int))))) rfl rfl (bi_lss (r := decide ((((k : Nat) : Int) : Int) < ((n2 : Nat) : Int))) rfl)) ?_
  refine WL.nil ?_
  refine thn_n ?_
  refine WP.seq ?_
  refine WP.cond (b := decide ((((k : Nat) : Int) : Int) < ((n2 : Nat) : Int))) rfl (fun c_19 => ?_) (fun c_19 => ?_)
  · have p_20 := of_decide_eq_true c_19
    refine WP.skip ?_
    refine thn_n ?_
    refine WP.seq ?_
    refine WP.block ?_
    refine WP.seq ?_
    refine WP.reg ?_
    refine WL.q (Wn.no rfl) rfl rfl (R.indexS (a := a2) (i := k) (off := k) (xs := (ns.map Int.ofNat).map vi64) rfl rfl rfl (by omega) (viewV (h_16.ok _ (.tail _ (.tail _ (.tail _ (.head _)))))) (lt_len (K := n2) (len_map ((List.length_map ..).trans hl2)) (by omega)) Try.underlying70 Try.sizeOf3 (Nat.mul_one _).symm) ?_
    refine WL.q (Wn.no rfl) rfl rfl (R.loadG (a := a2) (i := k) (xs := (ns.map Int.ofNat).map vi64) (v := (vi ((ns.getD k 0 : Nat) : Int))) rfl (viewV (h_16.ok _ (.tail _ (.tail _ (.tail _ (.head _)))))) Try.isAgg3 (Go.Wr.ints_get (by omega))) ?_
    refine WL.q (Wn.no rfl) rfl rfl (R.assign (v := (vi ((ns.getD k 0 : Nat) : Int))) rfl) ?_
    refine WL.nil ?_
    refine thn_n ?_
    refine WP.seq ?_
    refine WP.seq ?_
    refine WP.reg ?_
    refine WL.q (Wn.no rfl) rfl rfl (R.move (v := (vi ((ns.getD k 0 : Nat) : Int))) rfl) ?_
    refine WL.q (Wn.no rfl) rfl rfl (R.move (v := (.slice ra z rc)) rfl) ?_
    refine WL.q (Wn.no rfl) rfl rfl (R.lenS (a := ra) (m := z) rfl rfl Try.underlying37) ?_
    refine WL.q (Wn.no rfl) rfl rfl (R.bin (v := (.bool (decide ((((ns.getD k 0 : Nat) : Int) : Int) > ((z : Nat) : Int))))) rfl rfl (bi_gtr (r := decide ((((ns.getD k 0 : Nat) : Int) : Int) > ((z : Nat) : Int))) rfl)) ?_
    refine WL.nil ?_
    refine thn_n ?_
    refine WP.cond (b := decide ((((ns.getD k 0 : Nat) : Int) : Int) > ((z : Nat) : Int))) rfl (fun c_21 => ?_) (fun c_21 => ?_)
    · have p_22 := of_decide_eq_true c_21
      refine WP.seq ?_
      refine WP.reg ?_
      refine WL.q (Wn.no rfl) rfl rfl (R.assign (v := (.slice none 0 0)) rfl) ?_
      refine WL.q (Wn.no rfl) rfl rfl (R.assign (v := (vi 4)) rfl) ?_
      refine WL.nil ?_
      refine thn_n ?_
      refine WP.ret ?_
      refine thn_r ?_
      refine inb_r ?_
      refine thn_r ?_
      refine thn_r ?_
      refine inb_r ?_
      refine thn_r ?_
      refine ret_of Try.results84 (RV.tmp (v := (.slice none 0 0)) rfl (RV.tmp (v := (vi 4)) rfl RV.nil)) ?_
      have hp_23 := p_20
      have hp_24 := p_22
      have hb := (Go.Wr.opt_none hsp (Go.Wr.cut_big (by omega) rfl (by omega)))
      rw [hx] at hb; cases hb
    · have p_25 := of_decide_eq_false c_21
      refine WP.skip ?_
      refine thn_n ?_
      refine WP.drawT (SL w.heap.size [.pin (sblks xs) (fun w => Sls w xs ls), .view ra (r.map vu8), .view a2 ((ns.map Int.ofNat).map vi64), .view a (bs.map vu8)]) (.q 0 (.q 1 (.q 2 (.q 3 (.q 4 (.q 7 (.q 8 (.q 9 (.s 5 (.s 6 (.q 10 (.q 11 .nil)))))))))))) (by kernel_rfl) (by kernel_rfl) rfl (by kernel_rfl) (fun w_26 hc_28 => (SL.cons ((h_16.same hc_28).ok _ (.tail _ (.head _))) (SL.cons ((h_16.same hc_28).ok _ (.tail _ (.tail _ (.head _)))) (SL.cons ((h_16.same hc_28).ok _ (.tail _ (.tail _ (.tail _ (.head _))))) (SL.cons ((h_16.same hc_28).ok _ (.tail _ (.tail _ (.tail _ (.tail _ (.head _)))))) (SL.nil _ _)))))) (fun w_26 hc_28 => ?_)
      have h_27 := h_16.same hc_28
      refine WT.q rfl (Wn.no rfl) rfl rfl (fun wq hS => R.move (v := (.slice oa k oc)) rfl) ?_
      refine WT.q rfl (Wn.no rfl) rfl rfl (fun wq hS => R.move (v := (.slice ra z rc)) rfl) ?_
      refine WT.q rfl (Wn.no rfl) rfl rfl (fun wq hS => R.move (v := (vi ((ns.getD k 0 : Nat) : Int))) rfl) ?_
      refine WT.q rfl (Wn.no rfl) rfl rfl (fun wq hS => R.move (v := (vi ((ns.getD k 0 : Nat) : Int))) rfl) ?_
      refine WT.q rfl (Wn.no rfl) rfl rfl (fun wq hS => R.sliceS3 (a := ra) (len := z) (l := 0) (h := ns.getD k 0) (m := ns.getD k 0) rfl EvB.dflt rfl rfl rfl rfl (by omega) (by omega) (by omega) Try.underlying37 Try.sizeOf5) ?_
      refine WT.q rfl (Wn.no rfl) rfl rfl (fun wq hS => R.move (v := (.slice ra z rc)) rfl) ?_
      refine WT.q rfl (Wn.no rfl) rfl rfl (fun wq hS => R.move (v := (vi ((ns.getD k 0 : Nat) : Int))) rfl) ?_
      refine WT.q rfl (Wn.no rfl) rfl rfl (fun wq hS => R.sliceS (a := ra) (len := z) (l := ns.getD k 0) (h := z) rfl (EvB.it (l := ns.getD k 0) rfl rfl) EvB.dflt (by omega) (by omega) Try.underlying37 Try.sizeOf5) ?_
      refine WT.s ?_
      refine Op1.one rfl (Wn.no rfl) ?_
      refine WL.buildSl (vs := [(0, (.slice (slA ra 0 (ns.getD k 0) 1) (ns.getD k 0) (ns.getD k 0)))]) (cs := [(.slice (slA ra 0 (ns.getD k 0) 1) (ns.getD k 0) (ns.getD k 0))]) h_27 Try.underlying36 Try.sizeOf37 (zv Try.typeInfo37 rfl) rfl rfl (by kernel_rfl) rfl (by simp [Value.oneCell']) rfl rfl (fun b_29 w_30 h_31 => ?_)
      refine WL.nil ?_
      refine ⟨(SL.cons (h_31.ok _ (.tail _ (.tail _ (.head _)))) (SL.cons (h_31.ok _ (.tail _ (.tail _ (.tail _ (.head _))))) (SL.cons (h_31.ok _ (.tail _ (.tail _ (.tail _ (.tail _ (.head _)))))) (SL.cons (h_31.ok _ (.tail _ (.tail _ (.tail _ (.tail _ (.tail _ (.head _))))))) (SL.nil _ _))))), ?_⟩
      refine WT.s ?_
      refine Op1.one rfl (Wn.no rfl) ?_
      refine WL.append (km := k + 1) (xs := xs) (ys := [(.slice (slA ra 0 (ns.getD k 0) 1) (ns.getD k 0) (ns.getD k 0))]) (zs := xs ++ [(.slice (slA ra 0 (ns.getD k 0) 1) (ns.getD k 0) (ns.getD k 0))]) h_31 rfl rfl el36 (viewB (h_31.ok _ (.head _)) Sg.h) rfl (by simp [Value.oneCell']) rfl (by omega) (by omega) (by omega) (fun _ _ => (At.t At.h)) rfl (fun a_32 c_33 w_34 h_35 => ?_)
      refine WL.nil ?_
      refine ⟨(SL.cons (h_35.ok _ (.tail _ (.tail _ (.head _)))) (SL.cons (h_35.ok _ (.tail _ (.tail _ (.tail _ (.head _))))) (SL.cons (h_35.ok _ (.tail _ (.tail _ (.tail _ (.tail _ (.head _)))))) (SL.cons (h_35.ok _ (.tail _ (.tail _ (.tail _ (.tail _ (.tail _ (.head _))))))) (SL.nil _ _))))), ?_⟩
      refine WT.q rfl (Wn.no rfl) rfl rfl (fun wq hS => R.assign (v := (.slice a_32 (k + 1) c_33)) rfl) ?_
      refine WT.q rfl (Wn.no rfl) rfl rfl (fun wq hS => R.assign (v := (.slice (slA ra (ns.getD k 0) rc 1) (z - (ns.getD k 0)) (rc - (ns.getD k 0)))) rfl) ?_
      refine WT.nil ?_
      refine inb_n ?_
      refine thn_n ?_
      refine WP.reg ?_
      refine WL.q (Wn.no rfl) rfl rfl (R.bin (v := (vi ((k + 1 : Nat) : Int))) rfl rfl (bi_add (c := ((k + 1 : Nat) : Int)) (by omega) (by omega))) ?_
      refine WL.q (Wn.no rfl) rfl rfl (R.move (v := (vi ((k + 1 : Nat) : Int))) rfl) ?_
      refine WL.nil ?_
      refine thn_n ?_
      obtain ⟨h_36, hg1, hg2⟩ := HP.cutPush (n := ns.getD k 0) (q := rc) (m := z) h_35 (.tail _ (.tail _ (.head _))) (.tail _ (.tail _ (.tail _ (.head _)))) hz (by omega) (by omega) hf1 hf2
      have h_37 := h_36.up (Pick.t (Pick.t Pick.h))
      have h_38 := h_37.drop rfl
      have h_39 := h_38.up (Pick.t (Pick.t (Pick.t Pick.h)))
      have h_40 := h_39.drop rfl
      have h_41 := h_40.up (Pick.t (Pick.t (Pick.t Pick.h)))
      have h_42 := h_41.drop rfl
      have h_43 := h_42.up (Pick.t (Pick.t (Pick.t (Pick.t Pick.h))))
      have h_44 := h_43.up (Pick.t (Pick.t (Pick.t (Pick.t Pick.h))))
      have h_45 := h_44.up (Pick.t (Pick.t Pick.h))
      have h_46 := h_45.up (Pick.t (Pick.t (Pick.t Pick.h)))
      have h_47 := h_46.up (Pick.t (Pick.t (Pick.t (Pick.t Pick.h))))
      exact ⟨(k + 1, a_32, c_33, _, _, slA ra (ns.getD k 0) rc 1, rc - (ns.getD k 0), z - (ns.getD k 0), _), _, (by omega), (Ag.upd rfl (Ag.upd rfl (Ag.upd rfl (Ag.upd rfl (Ag.upd rfl (Ag.upd rfl (Ag.upd rfl (Ag.upd rfl (Ag.upd rfl (Ag.upd rfl (Ag.upd rfl (Ag.upd rfl (Ag.upd rfl (Ag.upd rfl (Ag.upd rfl (Ag.upd rfl (Ag.upd rfl (Ag.upd rfl (Ag.upd rfl (Ag.upd rfl (Ag.upd rfl (Ag.upd rfl (Ag.updL rfl (Ag.mix _ _ _)))))))))))))))))))))))), ⟨rfl, rfl, rfl, trivial⟩, h_47, (by omega), (by rw [List.length_drop, hz]), (by omega), (by omega), (by rw [List.length_append, hkl]; rfl), hg1, hg2, (Go.Wr.cut_next hsp (by omega) rfl (by omega)), rfl⟩
  · have p_48 := of_decide_eq_false c_19
    refine WP.exit ?_
    refine thn_x ?_
    refine thn_x ?_
    refine inb_hit ?_
    refine thn_n ?_
    refine WP.seq ?_
    refine WP.seq ?_
    refine WP.reg ?_
    refine WL.q (Wn.no rfl) rfl rfl (R.move (v := (.slice ra z rc)) rfl) ?_
    refine WL.q (Wn.no rfl) rfl rfl (R.lenS (a := ra) (m := z) rfl rfl Try.underlying37) ?_
    refine WL.q (Wn.no rfl) rfl rfl (R.bin (v := (.bool (decide ((((z : Nat) : Int) : Int) > 0)))) rfl rfl (bi_gtr (r := decide ((((z : Nat) : Int) : Int) > 0)) rfl)) ?_
    refine WL.nil ?_
    refine thn_n ?_
    refine WP.cond (b := decide ((((z : Nat) : Int) : Int) > 0)) rfl (fun c_49 => ?_) (fun c_49 => ?_)
    · have p_50 := of_decide_eq_true c_49
      refine WP.seq ?_
      refine WP.reg ?_
      refine WL.q (Wn.no rfl) rfl rfl (R.assign (v := (.slice none 0 0)) rfl) ?_
      refine WL.q (Wn.no rfl) rfl rfl (R.assign (v := (vi 4)) rfl) ?_
      refine WL.nil ?_
      refine thn_n ?_
      refine WP.ret ?_
      refine thn_r ?_
      refine ret_of Try.results84 (RV.tmp (v := (.slice none 0 0)) rfl (RV.tmp (v := (vi 4)) rfl RV.nil)) ?_
      have hp_51 := p_48
      have hp_52 := p_50
      have hb := ((Go.Wr.cut_end hsp (by omega)).trans (if_neg (by rintro rfl; simp at hz; omega)))
      rw [hx] at hb; cases hb
    · have p_53 := of_decide_eq_false c_49
      refine WP.skip ?_
      refine thn_n ?_
      refine WP.seq ?_
      refine WP.reg ?_
      refine WL.q (Wn.no rfl) rfl rfl (R.move (v := (.slice oa k oc)) rfl) ?_
      refine WL.q (Wn.no rfl) rfl rfl (R.assign (v := (.slice oa k oc)) rfl) ?_
      refine WL.q (Wn.no rfl) rfl rfl (R.assign (v := (vi 0)) rfl) ?_
      refine WL.nil ?_
      refine thn_n ?_
      refine WP.ret ?_
      refine ret_of Try.results84 (RV.tmp (v := (.slice oa k oc)) rfl (RV.tmp (v := (vi 0)) rfl RV.nil)) ?_
      have hd := (Go.Wr.cut_end hsp (by omega)).trans (if_pos (List.length_eq_zero_iff.1 (by omega)))
      rw [hd] at hx; obtain rfl := Option.some.inj hx
      refine ⟨oa, oc, xs, by rw [hkl]; rfl, h_16.chgS, (ownView (h_16.ok _ (.head _))), (h_16.ok _ (.tail _ (.head _))).1, fun b hb => ?_⟩
      rcases List.mem_append.1 hb with hb | hb
      · exact Own.blk (h_16.own (.head _)) b hb
      · exact hf1 b hb

end Go.Proofs.Ytnhppjimimhlkaa

namespace Go.Proofs.Ytnhppjimimhlkaa
open Go.Vc Go.Orc Go.Sh Go.RowKit
set_option maxRecDepth 20000

def markB : List UInt8 := ([114, 101, 112, 111, 114, 116, 0, 0] : List UInt8)
def repB (ins : UInt64) (me ch : List UInt8) : List UInt8 := [markB, leN 8 ins.toNat, me, ch].flatten
theorem repB_len {ins : UInt64} {me ch : List UInt8} (h1 : me.length = 32) (h2 : ch.length = 32) : (repB ins me ch).length = 80 := by
  simp [repB, markB, leN_len, h1, h2]
def cutR (bs : List UInt8) : List (List UInt8) := [bs.take 8, (bs.drop 8).take 8, ((bs.drop 8).drop 8).take 32, (((bs.drop 8).drop 8).drop 32).take 32]
theorem cutR_ok {bs : List UInt8} (h : bs.length = 80) : Go.Wr.cutL [8, 8, 32, 32] bs = some (cutR bs) := by
  simp only [Go.Wr.cutL, List.length_drop, h]
  rw [if_neg (by omega), if_neg (by omega), if_neg (by omega), if_neg (by omega), if_pos (List.length_eq_zero_iff.1 (by simp only [List.length_drop, h]))]
  rfl
theorem cutR_at {bs : List UInt8} (h : bs.length = 80) {i : Nat} (hi : i < 4) : ((cutR bs).getD i []).length = [8, 8, 32, 32].getD i 0 := by
  match i, hi with
  | 0, _ => simp [cutR, h]
  | 1, _ => simp [cutR, h]
  | 2, _ => simp [cutR, h]
  | 3, _ => simp [cutR, h]
theorem a_some0 {w : World} {a : Option Addr} {xs : List Value} (hv : View w a xs) (hx : 0 < xs.length) : a = some (gA a 0) := by
  obtain ⟨ad, rfl, _⟩ := hv 0 xs[0] (by simp [hx])
  obtain ⟨b, o, p⟩ := ad
  cases p <;> rfl
def ins_of (bs : List UInt8) : UInt64 := UInt64.ofNat (natLE ((bs.drop 8).take 8))
def me_of (bs : List UInt8) : List UInt8 := (bs.drop 16).take 32
def ch_of (bs : List UInt8) : List UInt8 := (bs.drop 48).take 32
theorem iss_len {a b : List UInt8} (h1 : a.length = 80) (h2 : b.length = 32) : (a ++ b).length = 112 := by rw [List.length_append, h1, h2]
theorem View.pfx {w : World} {a : Option Addr} {l : List UInt8} (k : Nat) (h : View w a (l.map vu8)) : View w a ((l.take k).map vu8) := fun i v hv => by
  refine h i v ?_
  rw [List.map_take] at hv
  have hlt : i < k := by
    by_cases e : i < k
    · exact e
    · rw [List.getElem?_take, if_neg e] at hv; cases hv
  rwa [List.getElem?_take, if_pos hlt] at hv
def tgQ1 (ms : List UInt8) : Qn := (3, ms, 9, ([] : List (List UInt8)).flatten)
def tgK (id : Bool) (df : List UInt8) (dn u : Nat) (lg : Lg) (ms : List UInt8) : List UInt8 := anD id df dn u lg (tgQ1 ms)
def tgQ2 (id : Bool) (df : List UInt8) (dn u : Nat) (lg : Lg) (ms b : List UInt8) : Qn := (2, tgK id df dn u lg ms, 7, [b].flatten)
def tgD (id : Bool) (df : List UInt8) (dn u : Nat) (lg : Lg) (ms b : List UInt8) : List UInt8 := anD id df dn (anU id u lg (tgQ1 ms)) (anL id df dn u lg (tgQ1 ms)) (tgQ2 id df dn u lg ms b)
def tgU (id : Bool) (df : List UInt8) (dn u : Nat) (lg : Lg) (ms b : List UInt8) : Nat := anU id (anU id u lg (tgQ1 ms)) (anL id df dn u lg (tgQ1 ms)) (tgQ2 id df dn u lg ms b)
def tgL (id : Bool) (df : List UInt8) (dn u : Nat) (lg : Lg) (ms b : List UInt8) : Lg := anL id df dn (anU id u lg (tgQ1 ms)) (anL id df dn u lg (tgQ1 ms)) (tgQ2 id df dn u lg ms b)
theorem tgD_len {id : Bool} {df : List UInt8} {dn u : Nat} {lg : Lg} {ms b : List UInt8} (h : df.length = 32 * dn) (hl : ok32 lg) : (tgD id df dn u lg ms b).length = 32 := anD_len h (anL_32 h hl)
theorem tgL_32 {id : Bool} {df : List UInt8} {dn u : Nat} {lg : Lg} {ms b : List UInt8} (h : df.length = 32 * dn) (hl : ok32 lg) : ok32 (tgL id df dn u lg ms b) := anL_32 h (anL_32 h hl)
theorem tgU_le (id : Bool) (df : List UInt8) (dn u : Nat) (lg : Lg) (ms b : List UInt8) : tgU id df dn u lg ms b ≤ u + 2 := by
  have h1 := anU_le id u lg (tgQ1 ms)
  have h2 := anU_le id (anU id u lg (tgQ1 ms)) (anL id df dn u lg (tgQ1 ms)) (tgQ2 id df dn u lg ms b)
  unfold tgU; omega
theorem tgL_le (id : Bool) (df : List UInt8) (dn u : Nat) (lg : Lg) (ms b : List UInt8) : (tgL id df dn u lg ms b).length ≤ lg.length + 2 := by
  have h1 := anL_le id df dn u lg (tgQ1 ms)
  have h2 := anL_le id df dn (anU id u lg (tgQ1 ms)) (anL id df dn u lg (tgQ1 ms)) (tgQ2 id df dn u lg ms b)
  unfold tgL; omega
theorem c_rSize  (w : World) :
    Cs Try.prog 49 [].toArray w (fun v w1 => v = (vi 80) ∧ Chg w w1 []) := by
  refine Cs.of (n := 1) (args := []) Try.func49 rfl rfl rfl ?_
  have h_0 := HP.init w
  refine WP.seq ?_
  refine WP.reg ?_
  refine WL.q (Wn.no rfl) rfl rfl (R.assign (v := (vi 0)) rfl) ?_
  refine WL.nil ?_
  refine thn_n ?_
  refine WP.seq ?_
  refine WP.reg ?_
  refine WL.q (Wn.no rfl) rfl rfl (R.assign (v := (vi 80)) rfl) ?_
  refine WL.nil ?_
  refine thn_n ?_
  refine WP.ret ?_
  refine ret_of Try.results49 (RV.tmp (v := (vi 80)) rfl RV.nil) ?_
  exact ⟨rfl, h_0.chgS⟩

theorem c_aSize  (w : World) :
    Cs Try.prog 19 [].toArray w (fun v w1 => v = (vi 112) ∧ Chg w w1 []) := by
  refine Cs.of (n := 3) (args := []) Try.func19 rfl rfl rfl ?_
  have h_0 := HP.init w
  refine WP.seq ?_
  refine WP.reg ?_
  refine WL.q (Wn.no rfl) rfl rfl (R.assign (v := (vi 0)) rfl) ?_
  refine WL.nil ?_
  refine thn_n ?_
  refine WP.seq ?_
  refine WP.reg ?_
  refine WL.call (al := []) Try.call49 rfl rfl (c_rSize  _ ) rfl ?_
  rintro _ w_2 ⟨rfl, hc_1⟩
  have h_3 := h_0.same hc_1
  refine WL.q (Wn.no rfl) rfl rfl (R.bin (v := (vi 112)) rfl rfl (bi_add (c := 112) (by omega) (by omega))) ?_
  refine WL.q (Wn.no rfl) rfl rfl (R.assign (v := (vi 112)) rfl) ?_
  refine WL.nil ?_
  refine thn_n ?_
  refine WP.ret ?_
  refine ret_of Try.results19 (RV.tmp (v := (vi 112)) rfl RV.nil) ?_
  exact ⟨rfl, h_3.chgS⟩

theorem c_oKey_nil (dm : Int) (a : Option Addr) (n cap : Nat) (w : World) :
    Cs Try.prog 20 [(.pointer none), (vi dm), (.slice a n cap)].toArray w (fun v w1 => v = (.tuple [(.agg ⟨(List.replicate 32 (0 : UInt8)).map vu8⟩), (vi 1)].toArray) ∧ Chg w w1 []) := by
  refine Cs.of (n := 24) (args := [(.pointer none), (vi dm), (.slice a n cap)]) Try.func20 rfl rfl rfl ?_
  have h_0 := HP.init w
  refine WP.seq ?_
  refine WP.reg ?_
  refine WL.alloc (segs := [(32, (List.replicate 32 (0 : UInt8)).map vu8)]) h_0 (zv Try.typeInfo23 rfl) rfl (SsOk.cons (SOk.u8 (List.length_replicate ..)) SsOk.nil) rfl (fun b_1 w_2 h_3 => ?_)
  refine WL.q (Wn.no rfl) rfl rfl (R.assign (v := (vi 0)) rfl) ?_
  refine WL.nil ?_
  refine thn_n ?_
  refine WP.seq ?_
  refine WP.seq ?_
  refine WP.reg ?_
  refine WL.q (Wn.no rfl) rfl rfl (R.move (v := (.pointer none)) rfl) ?_
  refine WL.call (al := [(.pointer none)]) Try.call52 rfl rfl (c_othere_nil  _ ) rfl ?_
  rintro _ w_5 ⟨rfl, hc_4⟩
  have h_6 := h_3.same hc_4
  refine WL.q (Wn.no rfl) rfl rfl (R.not (b := false) rfl) ?_
  refine WL.nil ?_
  refine thn_n ?_
  refine WP.condT rfl ?_
  refine WP.seq ?_
  refine WP.reg ?_
  refine WL.q (Wn.no rfl) rfl rfl (R.buildA (vs := []) (cs := (List.replicate 32 (0 : UInt8)).map vu8) Try.underlying23 Try.sizeOf5 (zv Try.typeInfo23 rfl) rfl rfl) ?_
  refine WL.storeA (b := b_1) (off := 0) [] [(32, (List.replicate 32 (0 : UInt8)).map vu8)] [(32, (List.replicate 32 (0 : UInt8)).map vu8)] [] (ys := (List.replicate 32 (0 : UInt8)).map vu8) h_6 rfl rfl Try.sizeOf23 At.h (by decide) rfl rfl rfl rfl rfl rfl (SsOk.cons (SOk.u8 (List.length_replicate ..)) SsOk.nil) (fun w_7 h_8 => ?_)
  refine WL.q (Wn.no rfl) rfl rfl (R.assign (v := (vi 1)) rfl) ?_
  refine WL.nil ?_
  refine thn_n ?_
  refine WP.ret ?_
  refine thn_r ?_
  refine ret_of Try.results20 (RV.cell rfl (h_8.loadA (cs := (List.replicate 32 (0 : UInt8)).map vu8) Try.isAgg23 Try.sizeOf23 (.head _) rfl rfl) (RV.tmp (v := (vi 1)) rfl RV.nil)) ?_
  exact ⟨rfl, h_8.chgS⟩

theorem c_oKey {w00 : World} {L : List Ent} (id : Bool) (ob mp : Nat) (ms df : List UInt8) (hms : ms.length = 32) (da : Option Addr) (dn dc u : Nat) (hdf : df.length = 32 * dn) (la : Option Addr) (lc : Nat) (lx : List Value) (lg : Lg) (hu : u ≤ 1000000) (hlg : lg.length ≤ 1000000) (a : Option Addr) (n cap : Nat) (xs : List Value) (ls : List (List UInt8)) (hln : ls.length = n) (dm : Int) (hdm : 1 ≤ dm ∧ dm ≤ 16) (hb : ls.flatten.length ≤ 1000000000) (hnb : n ≤ 1000000) (w : World) (h_0 : HP w00 w (Ent.blk ob .nw 50 [(1, [(.bool id)]), (32, ms.map vu8), (1, [(.slice da dn dc)]), (1, [(vi ((u : Nat) : Int))]), (1, [(.map (some mp))]), (1, [(.slice la lg.length lc)])] :: Ent.row la lg.length lc 111 67 lx :: Ent.obj mp .nw (.map (mArr lg) lg.length) :: Ent.pin (sblks lx) (fun w => Lgs w lx lg) :: Ent.view da (df.map vu8) :: Ent.pin (sblks xs) (fun w => Sls w xs ls) :: Ent.view a xs :: L)) :
    Cs Try.prog 20 [(.pointer (some ⟨ob, 0, none⟩)), (vi dm), (.slice a n cap)].toArray w (fun v w1 => ∃ la' lc' lx', v = (.tuple [(.agg ⟨(anD id df dn u lg (3, ms, dm, ls.flatten)).map vu8⟩), (vi 0)].toArray) ∧ HP w00 w1 (Ent.blk ob .nw 50 [(1, [(.bool id)]), (32, ms.map vu8), (1, [(.slice da dn dc)]), (1, [(vi (((anU id u lg (3, ms, dm, ls.flatten)) : Nat) : Int))]), (1, [(.map (some mp))]), (1, [(.slice la' ((anL id df dn u lg (3, ms, dm, ls.flatten)).length) lc')])] :: Ent.row la' ((anL id df dn u lg (3, ms, dm, ls.flatten)).length) lc' 111 67 lx' :: Ent.obj mp .nw (.map (mArr (anL id df dn u lg (3, ms, dm, ls.flatten))) ((anL id df dn u lg (3, ms, dm, ls.flatten)).length)) :: Ent.pin (sblks lx') (fun w => Lgs w lx' (anL id df dn u lg (3, ms, dm, ls.flatten))) :: Ent.view da (df.map vu8) :: Ent.pin (sblks xs) (fun w => Sls w xs ls) :: Ent.view a xs :: L)) := by
  have hxs := (h_0.ok _ (.tail _ (.tail _ (.tail _ (.tail _ (.tail _ (.head _))))))).1
  have hxl : xs.length = n := (Sls.len hxs).trans hln
  refine Cs.of (n := 24) (args := [(.pointer (some ⟨ob, 0, none⟩)), (vi dm), (.slice a n cap)]) Try.func20 rfl rfl rfl ?_
  refine WP.seq ?_
  refine WP.reg ?_
  refine WL.alloc (segs := [(32, (List.replicate 32 (0 : UInt8)).map vu8)]) h_0 (zv Try.typeInfo23 rfl) rfl (SsOk.cons (SOk.u8 (List.length_replicate ..)) SsOk.nil) rfl (fun b_1 w_2 h_3 => ?_)
  refine WL.q (Wn.no rfl) rfl rfl (R.assign (v := (vi 0)) rfl) ?_
  refine WL.nil ?_
  refine thn_n ?_
  refine WP.seq ?_
  refine WP.seq ?_
  refine WP.reg ?_
  refine WL.q (Wn.no rfl) rfl rfl (R.move (v := (.pointer (some ⟨ob, 0, none⟩))) rfl) ?_
  refine WL.call (al := [(.pointer (some ⟨ob, 0, none⟩))]) Try.call52 rfl rfl (c_othere id ob mp ms hms da dn dc u la lg.length lc _ (h_3.argR (.tail _ (.head _)))) rfl ?_
  rintro _ w_5 ⟨rfl, hc_4⟩
  have h_6 := h_3.same hc_4
  refine WL.q (Wn.no rfl) rfl rfl (R.not (b := true) rfl) ?_
  refine WL.nil ?_
  refine thn_n ?_
  refine WP.condF rfl ?_
  refine WP.skip ?_
  refine thn_n ?_
  refine WP.seq ?_
  refine WP.cutG (G := Option Addr × Nat × Option Addr × Nat × List Value) [7, 12, 13, 14, 15, 16, 17, 18, 19, 20, 21, 22, 23] (fun (aY3Y7Y0Y0, capY3Y7Y0Y0, laY3Y9Y0Y0, lcY3Y9Y0Y0, lxY3Y9Y0Y0) => [(7, (vi 0)), (12, (.pointer (some ⟨ob, 0, none⟩))), (13, (.pointer (some ⟨ob, 0, none⟩))), (14, (.pointer (some ⟨ob, 0, none⟩))), (15, (.pointer (some ⟨ob, 1, none⟩))), (17, (vi dm)), (18, (.slice a n cap)), (16, (.agg ⟨ms.map vu8⟩)), (19, (.slice aY3Y7Y0Y0 ls.flatten.length capY3Y7Y0Y0)), (20, (.agg ⟨flat [(1, [(vi 3)]), (32, ms.map vu8), (1, [(vi dm)]), (1, [(.slice aY3Y7Y0Y0 ls.flatten.length capY3Y7Y0Y0)])]⟩)), (21, (.tuple [(.agg ⟨(anD id df dn u lg (3, ms, dm, ls.flatten)).map vu8⟩), (vi 0)].toArray)), (22, (.agg ⟨(anD id df dn u lg (3, ms, dm, ls.flatten)).map vu8⟩)), (23, (vi 0))]) (fun (aY3Y7Y0Y0, capY3Y7Y0Y0, laY3Y9Y0Y0, lcY3Y9Y0Y0, lxY3Y9Y0Y0) w1 => HP w00 w1 (Ent.blk ob .nw 50 [(1, [(.bool id)]), (32, ms.map vu8), (1, [(.slice da dn dc)]), (1, [(vi ((anU id u lg (3, ms, dm, ls.flatten) : Nat) : Int))]), (1, [(.map (some mp))]), (1, [(.slice laY3Y9Y0Y0 ((anL id df dn u lg (3, ms, dm, ls.flatten)).length) lcY3Y9Y0Y0)])] :: Ent.row laY3Y9Y0Y0 ((anL id df dn u lg (3, ms, dm, ls.flatten)).length) lcY3Y9Y0Y0 111 67 lxY3Y9Y0Y0 :: Ent.obj mp .nw (.map (mArr (anL id df dn u lg (3, ms, dm, ls.flatten))) ((anL id df dn u lg (3, ms, dm, ls.flatten)).length)) :: Ent.pin (sblks lxY3Y9Y0Y0) (fun w => Lgs w lxY3Y9Y0Y0 (anL id df dn u lg (3, ms, dm, ls.flatten))) :: Ent.view da (df.map vu8) :: Ent.view aY3Y7Y0Y0 (ls.flatten.map vu8) :: Ent.blk b_1 .nw 23 [(32, (anD id df dn u lg (3, ms, dm, ls.flatten)).map vu8)] :: Ent.pin (sblks xs) (fun w => Sls w xs ls) :: Ent.view a xs :: L)) ?_ ?_
  · refine WP.drawT (SL w00.heap.size [.pin (sblks xs) (fun w => Sls w xs ls), .view a xs]) (.q 0 (.q 1 (.q 2 (.q 3 (.q 5 (.q 6 (.s2 4 7 (.s 7 (.q 8 (.s 9 (.q 10 (.q 11 (.s 12 (.q 13 .nil))))))) (.s 4 (.q 8 (.s 9 (.q 10 (.q 11 (.s 12 (.q 13 .nil)))))))))))))) (by kernel_rfl) (by kernel_rfl) rfl (by kernel_rfl) (fun w_7 hc_9 => (SL.cons ((h_6.same hc_9).ok _ (.tail _ (.tail _ (.tail _ (.tail _ (.tail _ (.tail _ (.head _)))))))) (SL.cons ((h_6.same hc_9).ok _ (.tail _ (.tail _ (.tail _ (.tail _ (.tail _ (.tail _ (.tail _ (.head _))))))))) (SL.nil _ _)))) (fun w_7 hc_9 => ?_)
    have h_8 := h_6.same hc_9
    refine WT.q rfl (Wn.no rfl) rfl rfl (fun wq hS => R.move (v := (.pointer (some ⟨ob, 0, none⟩))) rfl) ?_
    refine WT.q rfl (Wn.no rfl) rfl rfl (fun wq hS => R.move (v := (.pointer (some ⟨ob, 0, none⟩))) rfl) ?_
    refine WT.q rfl (Wn.no rfl) rfl rfl (fun wq hS => R.nilCheck rfl) ?_
    refine WT.q rfl (Wn.no rfl) rfl rfl (fun wq hS => R.fieldAddr (b := ob) (off := 0) (off' := 1) rfl Try.underlying50 rfl Try.sizeOf23 rfl rfl) ?_
    refine WT.q rfl (Wn.no rfl) rfl rfl (fun wq hS => R.move (v := (vi dm)) rfl) ?_
    refine WT.q rfl (Wn.no rfl) rfl rfl (fun wq hS => R.move (v := (.slice a n cap)) rfl) ?_
    refine WT.s2 ?_ ?_
    · refine Op1.one rfl (Wn.no rfl) ?_
      refine WL.q (Wn.no rfl) rfl rfl (R.loadA (b := ob) (off := 1) [(1, [(.bool id)])] [(32, ms.map vu8)] [(1, [(.slice da dn dc)]), (1, [(vi ((u : Nat) : Int))]), (1, [(.map (some mp))]), (1, [(.slice la lg.length lc)])] (cs := ms.map vu8) rfl Try.isAgg23 Try.sizeOf23 (h_8.ok _ (.tail _ (.head _))) rfl rfl rfl rfl) ?_
      refine WL.nil ?_
      refine ⟨(SL.cons (h_8.ok _ (.tail _ (.tail _ (.tail _ (.tail _ (.tail _ (.tail _ (.head _)))))))) (SL.cons (h_8.ok _ (.tail _ (.tail _ (.tail _ (.tail _ (.tail _ (.tail _ (.tail _ (.head _))))))))) (SL.nil _ _))), ?_⟩
      refine WT.s ?_
      refine Op1.one rfl (Wn.no rfl) ?_
      refine WL.call (al := [(.slice a n cap)]) Try.call53 rfl rfl (c_joined a n cap xs ls hln (by omega) (by omega) _ (viewV (h_8.ok _ (.tail _ (.tail _ (.tail _ (.tail _ (.tail _ (.tail _ (.tail _ (.head _)))))))))) (h_8.ok _ (.tail _ (.tail _ (.tail _ (.tail _ (.tail _ (.tail _ (.head _)))))))).1) rfl ?_
      rintro _ w_12 ⟨a_10, cap_11, rfl, hc_13, ho_14⟩
      have h_15 := h_8.gotRow hc_13 ho_14
      refine WL.nil ?_
      refine ⟨(SL.cons (h_15.ok _ (.tail _ (.tail _ (.tail _ (.tail _ (.tail _ (.tail _ (.tail _ (.head _))))))))) (SL.cons (h_15.ok _ (.tail _ (.tail _ (.tail _ (.tail _ (.tail _ (.tail _ (.tail _ (.tail _ (.head _)))))))))) (SL.nil _ _))), ?_⟩
      refine WT.q rfl (Wn.no rfl) rfl rfl (fun wq hS => R.buildS (pl := [(0, 1), (1, 32), (33, 1), (34, 1)]) (zs := [(1, [(vi 0)]), (32, (List.replicate 32 (0 : UInt8)).map vu8), (1, [(vi 0)]), (1, [(.slice none 0 0)])]) (vs := [(0, (vi 3)), (1, (.agg ⟨ms.map vu8⟩)), (2, (vi dm)), (3, (.slice a_10 ls.flatten.length cap_11))]) (out := [(1, [(vi 3)]), (32, ms.map vu8), (1, [(vi dm)]), (1, [(.slice a_10 ls.flatten.length cap_11)])]) (cs := flat [(1, [(vi 3)]), (32, ms.map vu8), (1, [(vi dm)]), (1, [(.slice a_10 ls.flatten.length cap_11)])]) Try.underlying103 (zv Try.typeInfo103 rfl) rfl (SsOk.cons (SOk.v rfl) (SsOk.cons (SOk.u8 (List.length_replicate ..)) (SsOk.cons (SOk.v rfl) (SsOk.cons (SOk.v rfl) SsOk.nil)))) (pl103 _ Try.underlying103) rfl (FillR.cons [] [(1, [(vi 0)])] [(1, [(vi 3)])] [(32, (List.replicate 32 (0 : UInt8)).map vu8), (1, [(vi 0)]), (1, [(.slice none 0 0)])] rfl rfl rfl rfl (SsOk.cons (SOk.v rfl) SsOk.nil) rfl rfl rfl (FillR.cons [(1, [(vi 3)])] [(32, (List.replicate 32 (0 : UInt8)).map vu8)] [(32, ms.map vu8)] [(1, [(vi 0)]), (1, [(.slice none 0 0)])] rfl rfl rfl rfl (SsOk.cons (SOk.u8 hms) SsOk.nil) rfl rfl rfl (FillR.cons [(1, [(vi 3)]), (32, ms.map vu8)] [(1, [(vi 0)])] [(1, [(vi dm)])] [(1, [(.slice none 0 0)])] rfl rfl rfl rfl (SsOk.cons (SOk.v rfl) SsOk.nil) rfl rfl rfl (FillR.cons [(1, [(vi 3)]), (32, ms.map vu8), (1, [(vi dm)])] [(1, [(.slice none 0 0)])] [(1, [(.slice a_10 ls.flatten.length cap_11)])] [] rfl rfl rfl rfl (SsOk.cons (SOk.v rfl) SsOk.nil) rfl rfl rfl FillR.nil)))) rfl) ?_
      refine WT.s ?_
      refine Op1.one rfl (Wn.no rfl) ?_
      have h_17 := h_15.rowView
      have h_18 := h_17.up (Pick.t (Pick.t (Pick.t (Pick.t (Pick.t (Pick.t Pick.h))))))
      have h_19 := h_18.up (Pick.t (Pick.t (Pick.t (Pick.t (Pick.t (Pick.t Pick.h))))))
      have h_20 := h_19.up (Pick.t (Pick.t (Pick.t (Pick.t (Pick.t (Pick.t Pick.h))))))
      have h_21 := h_20.up (Pick.t (Pick.t (Pick.t (Pick.t (Pick.t (Pick.t Pick.h))))))
      have h_22 := h_21.up (Pick.t (Pick.t (Pick.t (Pick.t (Pick.t (Pick.t Pick.h))))))
      have h32_w_26 := (Lgs.ok32 (h_22.ok _ (.tail _ (.tail _ (.tail _ (.head _))))).1)
      refine WL.call (al := [(.pointer (some ⟨ob, 0, none⟩)), (.agg ⟨flat [(1, [(vi 3)]), (32, ms.map vu8), (1, [(vi dm)]), (1, [(.slice a_10 ls.flatten.length cap_11)])]⟩)]) Try.call48 rfl rfl (c_oAsk id ob mp ms df hms da dn dc u hdf la lc lx lg hu hlg 3 dm ms ls.flatten a_10 ls.flatten.length cap_11 ⟨hms, by show (1 : Int) ≤ 3 ∧ (3 : Int) ≤ 4; omega, by show (1 : Int) ≤ dm ∧ (dm : Int) ≤ 16; omega, by show List.length ls.flatten ≤ 1000000000; first | decide | (simp only [List.length_append, leN_len]; omega) | omega⟩ (rfl : List.length ls.flatten = ls.flatten.length) (by decide) (fun h => by omega) _ h_22) rfl ?_
      rintro _ w_26 ⟨la_23, lc_24, lx_25, rfl, h_27⟩
      refine WL.nil ?_
      refine ⟨(SL.cons (h_27.ok _ (.tail _ (.tail _ (.tail _ (.tail _ (.tail _ (.tail _ (.tail _ (.head _))))))))) (SL.cons (h_27.ok _ (.tail _ (.tail _ (.tail _ (.tail _ (.tail _ (.tail _ (.tail _ (.tail _ (.head _)))))))))) (SL.nil _ _))), ?_⟩
      refine WT.q rfl (Wn.no rfl) rfl rfl (fun wq hS => R.extract (l := [(.agg ⟨(anD id df dn u lg (3, ms, dm, ls.flatten)).map vu8⟩), (vi 0)]) (v := (.agg ⟨(anD id df dn u lg (3, ms, dm, ls.flatten)).map vu8⟩)) rfl rfl) ?_
      refine WT.q rfl (Wn.no rfl) rfl rfl (fun wq hS => R.extract (l := [(.agg ⟨(anD id df dn u lg (3, ms, dm, ls.flatten)).map vu8⟩), (vi 0)]) (v := (vi 0)) rfl rfl) ?_
      refine WT.s ?_
      refine Op1.one rfl (Wn.no rfl) ?_
      refine WL.storeA (b := b_1) (off := 0) [] [(32, (List.replicate 32 (0 : UInt8)).map vu8)] [(32, (anD id df dn u lg (3, ms, dm, ls.flatten)).map vu8)] [] (ys := (anD id df dn u lg (3, ms, dm, ls.flatten)).map vu8) h_27 rfl rfl Try.sizeOf23 (At.t (At.t (At.t (At.t (At.t (At.t At.h)))))) (by decide) rfl rfl rfl rfl rfl rfl (SsOk.cons (SOk.u8 (anD_len hdf h32_w_26)) SsOk.nil) (fun w_28 h_29 => ?_)
      refine WL.nil ?_
      refine ⟨(SL.cons (h_29.ok _ (.tail _ (.tail _ (.tail _ (.tail _ (.tail _ (.tail _ (.tail _ (.head _))))))))) (SL.cons (h_29.ok _ (.tail _ (.tail _ (.tail _ (.tail _ (.tail _ (.tail _ (.tail _ (.tail _ (.head _)))))))))) (SL.nil _ _))), ?_⟩
      refine WT.q rfl (Wn.no rfl) rfl rfl (fun wq hS => R.assign (v := (vi 0)) rfl) ?_
      refine WT.nil ?_
      refine thn_n ?_
      exact ⟨(a_10, cap_11, la_23, lc_24, lx_25), (Ag.upd rfl (Ag.upd rfl (Ag.upd rfl (Ag.upd rfl (Ag.upd rfl (Ag.upd rfl (Ag.upd rfl (Ag.upd rfl (Ag.upd rfl (Ag.upd rfl (Ag.upd rfl (Ag.upd rfl (Ag.upd rfl (Ag.refl _ _)))))))))))))), ⟨rfl, rfl, rfl, rfl, rfl, rfl, rfl, rfl, rfl, rfl, rfl, rfl, rfl, trivial⟩, h_29⟩
    · refine Op1.one rfl (Wn.no rfl) ?_
      refine WL.call (al := [(.slice a n cap)]) Try.call53 rfl rfl (c_joined a n cap xs ls hln (by omega) (by omega) _ (viewV (h_8.ok _ (.tail _ (.tail _ (.tail _ (.tail _ (.tail _ (.tail _ (.tail _ (.head _)))))))))) (h_8.ok _ (.tail _ (.tail _ (.tail _ (.tail _ (.tail _ (.tail _ (.head _)))))))).1) rfl ?_
      rintro _ w_32 ⟨a_30, cap_31, rfl, hc_33, ho_34⟩
      have h_35 := h_8.gotRow hc_33 ho_34
      refine WL.nil ?_
      refine ⟨(SL.cons (h_35.ok _ (.tail _ (.tail _ (.tail _ (.tail _ (.tail _ (.tail _ (.tail _ (.head _))))))))) (SL.cons (h_35.ok _ (.tail _ (.tail _ (.tail _ (.tail _ (.tail _ (.tail _ (.tail _ (.tail _ (.head _)))))))))) (SL.nil _ _))), ?_⟩
      refine WT.s ?_
      refine Op1.one rfl (Wn.no rfl) ?_
      refine WL.q (Wn.no rfl) rfl rfl (R.loadA (b := ob) (off := 1) [(1, [(.bool id)])] [(32, ms.map vu8)] [(1, [(.slice da dn dc)]), (1, [(vi ((u : Nat) : Int))]), (1, [(.map (some mp))]), (1, [(.slice la lg.length lc)])] (cs := ms.map vu8) rfl Try.isAgg23 Try.sizeOf23 (h_35.ok _ (.tail _ (.tail _ (.head _)))) rfl rfl rfl rfl) ?_
      refine WL.nil ?_
      refine ⟨(SL.cons (h_35.ok _ (.tail _ (.tail _ (.tail _ (.tail _ (.tail _ (.tail _ (.tail _ (.head _))))))))) (SL.cons (h_35.ok _ (.tail _ (.tail _ (.tail _ (.tail _ (.tail _ (.tail _ (.tail _ (.tail _ (.head _)))))))))) (SL.nil _ _))), ?_⟩
      refine WT.q rfl (Wn.no rfl) rfl rfl (fun wq hS => R.buildS (pl := [(0, 1), (1, 32), (33, 1), (34, 1)]) (zs := [(1, [(vi 0)]), (32, (List.replicate 32 (0 : UInt8)).map vu8), (1, [(vi 0)]), (1, [(.slice none 0 0)])]) (vs := [(0, (vi 3)), (1, (.agg ⟨ms.map vu8⟩)), (2, (vi dm)), (3, (.slice a_30 ls.flatten.length cap_31))]) (out := [(1, [(vi 3)]), (32, ms.map vu8), (1, [(vi dm)]), (1, [(.slice a_30 ls.flatten.length cap_31)])]) (cs := flat [(1, [(vi 3)]), (32, ms.map vu8), (1, [(vi dm)]), (1, [(.slice a_30 ls.flatten.length cap_31)])]) Try.underlying103 (zv Try.typeInfo103 rfl) rfl (SsOk.cons (SOk.v rfl) (SsOk.cons (SOk.u8 (List.length_replicate ..)) (SsOk.cons (SOk.v rfl) (SsOk.cons (SOk.v rfl) SsOk.nil)))) (pl103 _ Try.underlying103) rfl (FillR.cons [] [(1, [(vi 0)])] [(1, [(vi 3)])] [(32, (List.replicate 32 (0 : UInt8)).map vu8), (1, [(vi 0)]), (1, [(.slice none 0 0)])] rfl rfl rfl rfl (SsOk.cons (SOk.v rfl) SsOk.nil) rfl rfl rfl (FillR.cons [(1, [(vi 3)])] [(32, (List.replicate 32 (0 : UInt8)).map vu8)] [(32, ms.map vu8)] [(1, [(vi 0)]), (1, [(.slice none 0 0)])] rfl rfl rfl rfl (SsOk.cons (SOk.u8 hms) SsOk.nil) rfl rfl rfl (FillR.cons [(1, [(vi 3)]), (32, ms.map vu8)] [(1, [(vi 0)])] [(1, [(vi dm)])] [(1, [(.slice none 0 0)])] rfl rfl rfl rfl (SsOk.cons (SOk.v rfl) SsOk.nil) rfl rfl rfl (FillR.cons [(1, [(vi 3)]), (32, ms.map vu8), (1, [(vi dm)])] [(1, [(.slice none 0 0)])] [(1, [(.slice a_30 ls.flatten.length cap_31)])] [] rfl rfl rfl rfl (SsOk.cons (SOk.v rfl) SsOk.nil) rfl rfl rfl FillR.nil)))) rfl) ?_
      refine WT.s ?_
      refine Op1.one rfl (Wn.no rfl) ?_
      have h_37 := h_35.rowView
      have h_38 := h_37.up (Pick.t (Pick.t (Pick.t (Pick.t (Pick.t (Pick.t Pick.h))))))
      have h_39 := h_38.up (Pick.t (Pick.t (Pick.t (Pick.t (Pick.t (Pick.t Pick.h))))))
      have h_40 := h_39.up (Pick.t (Pick.t (Pick.t (Pick.t (Pick.t (Pick.t Pick.h))))))
      have h_41 := h_40.up (Pick.t (Pick.t (Pick.t (Pick.t (Pick.t (Pick.t Pick.h))))))
      have h_42 := h_41.up (Pick.t (Pick.t (Pick.t (Pick.t (Pick.t (Pick.t Pick.h))))))
      have h32_w_46 := (Lgs.ok32 (h_42.ok _ (.tail _ (.tail _ (.tail _ (.head _))))).1)
      refine WL.call (al := [(.pointer (some ⟨ob, 0, none⟩)), (.agg ⟨flat [(1, [(vi 3)]), (32, ms.map vu8), (1, [(vi dm)]), (1, [(.slice a_30 ls.flatten.length cap_31)])]⟩)]) Try.call48 rfl rfl (c_oAsk id ob mp ms df hms da dn dc u hdf la lc lx lg hu hlg 3 dm ms ls.flatten a_30 ls.flatten.length cap_31 ⟨hms, by show (1 : Int) ≤ 3 ∧ (3 : Int) ≤ 4; omega, by show (1 : Int) ≤ dm ∧ (dm : Int) ≤ 16; omega, by show List.length ls.flatten ≤ 1000000000; first | decide | (simp only [List.length_append, leN_len]; omega) | omega⟩ (rfl : List.length ls.flatten = ls.flatten.length) (by decide) (fun h => by omega) _ h_42) rfl ?_
      rintro _ w_46 ⟨la_43, lc_44, lx_45, rfl, h_47⟩
      refine WL.nil ?_
      refine ⟨(SL.cons (h_47.ok _ (.tail _ (.tail _ (.tail _ (.tail _ (.tail _ (.tail _ (.tail _ (.head _))))))))) (SL.cons (h_47.ok _ (.tail _ (.tail _ (.tail _ (.tail _ (.tail _ (.tail _ (.tail _ (.tail _ (.head _)))))))))) (SL.nil _ _))), ?_⟩
      refine WT.q rfl (Wn.no rfl) rfl rfl (fun wq hS => R.extract (l := [(.agg ⟨(anD id df dn u lg (3, ms, dm, ls.flatten)).map vu8⟩), (vi 0)]) (v := (.agg ⟨(anD id df dn u lg (3, ms, dm, ls.flatten)).map vu8⟩)) rfl rfl) ?_
      refine WT.q rfl (Wn.no rfl) rfl rfl (fun wq hS => R.extract (l := [(.agg ⟨(anD id df dn u lg (3, ms, dm, ls.flatten)).map vu8⟩), (vi 0)]) (v := (vi 0)) rfl rfl) ?_
      refine WT.s ?_
      refine Op1.one rfl (Wn.no rfl) ?_
      refine WL.storeA (b := b_1) (off := 0) [] [(32, (List.replicate 32 (0 : UInt8)).map vu8)] [(32, (anD id df dn u lg (3, ms, dm, ls.flatten)).map vu8)] [] (ys := (anD id df dn u lg (3, ms, dm, ls.flatten)).map vu8) h_47 rfl rfl Try.sizeOf23 (At.t (At.t (At.t (At.t (At.t (At.t At.h)))))) (by decide) rfl rfl rfl rfl rfl rfl (SsOk.cons (SOk.u8 (anD_len hdf h32_w_46)) SsOk.nil) (fun w_48 h_49 => ?_)
      refine WL.nil ?_
      refine ⟨(SL.cons (h_49.ok _ (.tail _ (.tail _ (.tail _ (.tail _ (.tail _ (.tail _ (.tail _ (.head _))))))))) (SL.cons (h_49.ok _ (.tail _ (.tail _ (.tail _ (.tail _ (.tail _ (.tail _ (.tail _ (.tail _ (.head _)))))))))) (SL.nil _ _))), ?_⟩
      refine WT.q rfl (Wn.no rfl) rfl rfl (fun wq hS => R.assign (v := (vi 0)) rfl) ?_
      refine WT.nil ?_
      refine thn_n ?_
      exact ⟨(a_30, cap_31, la_43, lc_44, lx_45), (Ag.upd rfl (Ag.upd rfl (Ag.upd rfl (Ag.upd rfl (Ag.upd rfl (Ag.upd rfl (Ag.upd rfl (Ag.upd rfl (Ag.upd rfl (Ag.upd rfl (Ag.upd rfl (Ag.upd rfl (Ag.upd rfl (Ag.refl _ _)))))))))))))), ⟨rfl, rfl, rfl, rfl, rfl, rfl, rfl, rfl, rfl, rfl, rfl, rfl, rfl, trivial⟩, h_49⟩
  · rintro ⟨a_53, cap_54, la_55, lc_56, lx_57⟩ J_50 w_51 h_52
    refine thn_n ?_
    refine WP.ret ?_
    refine ret_of Try.results20 (RV.cell rfl (h_52.loadA (cs := (anD id df dn u lg (3, ms, dm, ls.flatten)).map vu8) Try.isAgg23 Try.sizeOf23 (.tail _ (.tail _ (.tail _ (.tail _ (.tail _ (.tail _ (.head _))))))) rfl rfl) (RV.tmp (v := (vi 0)) rfl RV.nil)) ?_
    have h_58 := h_52.up (Pick.t (Pick.t (Pick.t (Pick.t (Pick.t Pick.h)))))
    have h_59 := h_58.drop rfl
    have h_60 := h_59.up (Pick.t (Pick.t (Pick.t (Pick.t (Pick.t Pick.h)))))
    have h_61 := h_60.drop rfl
    have h_62 := h_61.up (Pick.t (Pick.t (Pick.t (Pick.t (Pick.t (Pick.t Pick.h))))))
    have h_63 := h_62.up (Pick.t (Pick.t (Pick.t (Pick.t (Pick.t (Pick.t Pick.h))))))
    have h_64 := h_63.up (Pick.t (Pick.t (Pick.t (Pick.t (Pick.t (Pick.t Pick.h))))))
    have h_65 := h_64.up (Pick.t (Pick.t (Pick.t (Pick.t (Pick.t (Pick.t Pick.h))))))
    have h_66 := h_65.up (Pick.t (Pick.t (Pick.t (Pick.t (Pick.t (Pick.t Pick.h))))))
    have h_67 := h_66.up (Pick.t (Pick.t (Pick.t (Pick.t (Pick.t (Pick.t Pick.h))))))
    have h_68 := h_67.up (Pick.t (Pick.t (Pick.t (Pick.t (Pick.t (Pick.t Pick.h))))))
    exact ⟨_, _, _, rfl, h_68⟩

theorem c_oTag1 {w00 : World} {L : List Ent} (id : Bool) (ob mp : Nat) (ms df : List UInt8) (hms : ms.length = 32) (da : Option Addr) (dn dc u : Nat) (hdf : df.length = 32 * dn) (la : Option Addr) (lc : Nat) (lx : List Value) (lg : Lg) (hu : u ≤ 1000000) (hlg : lg.length ≤ 1000000) (key : List UInt8) (hk : key.length = 32) (dm : Int) (hdm : 1 ≤ dm ∧ dm ≤ 16) (bl : Nat) (ra : Option Addr) (rn rc : Nat) (rb : List UInt8) (hrb : rb.length = rn) (hrn : rn ≤ 100000) (w : World) (h_0 : HP w00 w (Ent.blk ob .nw 50 [(1, [(.bool id)]), (32, ms.map vu8), (1, [(.slice da dn dc)]), (1, [(vi ((u : Nat) : Int))]), (1, [(.map (some mp))]), (1, [(.slice la lg.length lc)])] :: Ent.row la lg.length lc 111 67 lx :: Ent.obj mp .nw (.map (mArr lg) lg.length) :: Ent.pin (sblks lx) (fun w => Lgs w lx lg) :: Ent.view da (df.map vu8) :: Ent.blk bl .nw 37 [(1, [(.slice ra rn rc)])] :: Ent.row ra rn rc 5 1 (rb.map vu8) :: L)) :
    Cs Try.prog 21 [(.pointer (some ⟨ob, 0, none⟩)), (.agg ⟨key.map vu8⟩), (vi dm), (.slice (some ⟨bl, 0, none⟩) 1 1)].toArray w (fun v w1 => ∃ la' lc' lx', v = (.tuple [(.agg ⟨(anD id df dn u lg (2, key, dm, [rb].flatten)).map vu8⟩), (vi 0)].toArray) ∧ HP w00 w1 (Ent.blk ob .nw 50 [(1, [(.bool id)]), (32, ms.map vu8), (1, [(.slice da dn dc)]), (1, [(vi (((anU id u lg (2, key, dm, [rb].flatten)) : Nat) : Int))]), (1, [(.map (some mp))]), (1, [(.slice la' ((anL id df dn u lg (2, key, dm, [rb].flatten)).length) lc')])] :: Ent.row la' ((anL id df dn u lg (2, key, dm, [rb].flatten)).length) lc' 111 67 lx' :: Ent.obj mp .nw (.map (mArr (anL id df dn u lg (2, key, dm, [rb].flatten))) ((anL id df dn u lg (2, key, dm, [rb].flatten)).length)) :: Ent.pin (sblks lx') (fun w => Lgs w lx' (anL id df dn u lg (2, key, dm, [rb].flatten))) :: Ent.view da (df.map vu8) :: Ent.blk bl .nw 37 [(1, [(.slice ra rn rc)])] :: Ent.row ra rn rc 5 1 (rb.map vu8) :: L)) := by
  have hfl : [rb].flatten.length = rn := by simp [hrb]
  refine Cs.of (n := 19) (args := [(.pointer (some ⟨ob, 0, none⟩)), (.agg ⟨key.map vu8⟩), (vi dm), (.slice (some ⟨bl, 0, none⟩) 1 1)]) Try.func21 rfl rfl rfl ?_
  refine WP.seq ?_
  refine WP.reg ?_
  refine WL.box (v := (.agg ⟨key.map vu8⟩)) (segs := [(32, key.map vu8)]) h_0 rfl rfl (SsOk.cons (SOk.u8 hk) SsOk.nil) rfl (fun b_1 w_2 h_3 => ?_)
  refine WL.alloc (segs := [(32, (List.replicate 32 (0 : UInt8)).map vu8)]) h_3 (zv Try.typeInfo23 rfl) rfl (SsOk.cons (SOk.u8 (List.length_replicate ..)) SsOk.nil) rfl (fun b_4 w_5 h_6 => ?_)
  refine WL.q (Wn.no rfl) rfl rfl (R.assign (v := (vi 0)) rfl) ?_
  refine WL.nil ?_
  refine thn_n ?_
  refine WP.seq ?_
  refine WP.drawT (SL w00.heap.size [.blk b_1 .nw 23 [(32, key.map vu8)], .blk bl .nw 37 [(1, [(.slice ra rn rc)])], .row ra rn rc 5 1 (rb.map vu8)]) (.q 0 (.q 1 (.q 2 (.q 3 (.s 4 (.q 5 (.s 6 (.q 7 (.q 8 (.s 9 (.q 10 .nil))))))))))) (by kernel_rfl) (by kernel_rfl) rfl (by kernel_rfl) (fun w_7 hc_9 => (SL.cons ((h_6.same hc_9).ok _ (.tail _ (.head _))) (SL.cons ((h_6.same hc_9).ok _ (.tail _ (.tail _ (.tail _ (.tail _ (.tail _ (.tail _ (.tail _ (.head _))))))))) (SL.cons ((h_6.same hc_9).ok _ (.tail _ (.tail _ (.tail _ (.tail _ (.tail _ (.tail _ (.tail _ (.tail _ (.head _)))))))))) (SL.nil _ _))))) (fun w_7 hc_9 => ?_)
  have h_8 := h_6.same hc_9
  refine WT.q rfl (Wn.no rfl) rfl rfl (fun wq hS => R.move (v := (.pointer (some ⟨ob, 0, none⟩))) rfl) ?_
  refine WT.q rfl (Wn.no rfl) rfl rfl (fun wq hS => R.loadA (b := b_1) (off := 0) [] [(32, key.map vu8)] [] (cs := key.map vu8) rfl Try.isAgg23 Try.sizeOf23 (hS _ (.head _)) rfl rfl rfl rfl) ?_
  refine WT.q rfl (Wn.no rfl) rfl rfl (fun wq hS => R.move (v := (vi dm)) rfl) ?_
  refine WT.q rfl (Wn.no rfl) rfl rfl (fun wq hS => R.move (v := (.slice (some ⟨bl, 0, none⟩) 1 1)) rfl) ?_
  refine WT.s ?_
  refine Op1.one rfl (Wn.no rfl) ?_
  refine WL.call (al := [(.slice (some ⟨bl, 0, none⟩) 1 1)]) Try.call53 rfl rfl (c_joined (some ⟨bl, 0, none⟩) 1 1 [(.slice ra rn rc)] [rb] rfl (by omega) (by omega) _ (viewB (h_8.ok _ (.tail _ (.tail _ (.tail _ (.tail _ (.tail _ (.tail _ (.tail _ (.head _))))))))) Sg.h) (Sls.cons hrb (h_8.own (.tail _ (.tail _ (.tail _ (.tail _ (.tail _ (.tail _ (.tail _ (.tail _ (.head _)))))))))).2.2.1 (ownView (h_8.ok _ (.tail _ (.tail _ (.tail _ (.tail _ (.tail _ (.tail _ (.tail _ (.tail _ (.head _))))))))))) Sls.nil)) rfl ?_
  rintro _ w_12 ⟨a_10, cap_11, rfl, hc_13, ho_14⟩
  have h_15 := h_8.gotRow hc_13 ho_14
  refine WL.nil ?_
  refine ⟨(SL.cons (h_15.ok _ (.tail _ (.tail _ (.head _)))) (SL.cons (h_15.ok _ (.tail _ (.tail _ (.tail _ (.tail _ (.tail _ (.tail _ (.tail _ (.tail _ (.head _)))))))))) (SL.cons (h_15.ok _ (.tail _ (.tail _ (.tail _ (.tail _ (.tail _ (.tail _ (.tail _ (.tail _ (.tail _ (.head _))))))))))) (SL.nil _ _)))), ?_⟩
  refine WT.q rfl (Wn.no rfl) rfl rfl (fun wq hS => R.buildS (pl := [(0, 1), (1, 32), (33, 1), (34, 1)]) (zs := [(1, [(vi 0)]), (32, (List.replicate 32 (0 : UInt8)).map vu8), (1, [(vi 0)]), (1, [(.slice none 0 0)])]) (vs := [(0, (vi 2)), (1, (.agg ⟨key.map vu8⟩)), (2, (vi dm)), (3, (.slice a_10 ([rb].flatten.length) cap_11))]) (out := [(1, [(vi 2)]), (32, key.map vu8), (1, [(vi dm)]), (1, [(.slice a_10 ([rb].flatten.length) cap_11)])]) (cs := flat [(1, [(vi 2)]), (32, key.map vu8), (1, [(vi dm)]), (1, [(.slice a_10 ([rb].flatten.length) cap_11)])]) Try.underlying103 (zv Try.typeInfo103 rfl) rfl (SsOk.cons (SOk.v rfl) (SsOk.cons (SOk.u8 (List.length_replicate ..)) (SsOk.cons (SOk.v rfl) (SsOk.cons (SOk.v rfl) SsOk.nil)))) (pl103 _ Try.underlying103) rfl (FillR.cons [] [(1, [(vi 0)])] [(1, [(vi 2)])] [(32, (List.replicate 32 (0 : UInt8)).map vu8), (1, [(vi 0)]), (1, [(.slice none 0 0)])] rfl rfl rfl rfl (SsOk.cons (SOk.v rfl) SsOk.nil) rfl rfl rfl (FillR.cons [(1, [(vi 2)])] [(32, (List.replicate 32 (0 : UInt8)).map vu8)] [(32, key.map vu8)] [(1, [(vi 0)]), (1, [(.slice none 0 0)])] rfl rfl rfl rfl (SsOk.cons (SOk.u8 hk) SsOk.nil) rfl rfl rfl (FillR.cons [(1, [(vi 2)]), (32, key.map vu8)] [(1, [(vi 0)])] [(1, [(vi dm)])] [(1, [(.slice none 0 0)])] rfl rfl rfl rfl (SsOk.cons (SOk.v rfl) SsOk.nil) rfl rfl rfl (FillR.cons [(1, [(vi 2)]), (32, key.map vu8), (1, [(vi dm)])] [(1, [(.slice none 0 0)])] [(1, [(.slice a_10 ([rb].flatten.length) cap_11)])] [] rfl rfl rfl rfl (SsOk.cons (SOk.v rfl) SsOk.nil) rfl rfl rfl FillR.nil)))) rfl) ?_
  refine WT.s ?_
  refine Op1.one rfl (Wn.no rfl) ?_
  have h_17 := h_15.rowView
  have h_18 := h_17.up (Pick.t (Pick.t (Pick.t (Pick.t (Pick.t (Pick.t (Pick.t Pick.h)))))))
  have h_19 := h_18.up (Pick.t (Pick.t (Pick.t (Pick.t (Pick.t (Pick.t (Pick.t Pick.h)))))))
  have h_20 := h_19.up (Pick.t (Pick.t (Pick.t (Pick.t (Pick.t (Pick.t (Pick.t Pick.h)))))))
  have h_21 := h_20.up (Pick.t (Pick.t (Pick.t (Pick.t (Pick.t (Pick.t (Pick.t Pick.h)))))))
  have h_22 := h_21.up (Pick.t (Pick.t (Pick.t (Pick.t (Pick.t (Pick.t (Pick.t Pick.h)))))))
  have h32_w_26 := (Lgs.ok32 (h_22.ok _ (.tail _ (.tail _ (.tail _ (.head _))))).1)
  refine WL.call (al := [(.pointer (some ⟨ob, 0, none⟩)), (.agg ⟨flat [(1, [(vi 2)]), (32, key.map vu8), (1, [(vi dm)]), (1, [(.slice a_10 ([rb].flatten.length) cap_11)])]⟩)]) Try.call48 rfl rfl (c_oAsk id ob mp ms df hms da dn dc u hdf la lc lx lg hu hlg 2 dm key ([rb].flatten) a_10 ([rb].flatten.length) cap_11 ⟨hk, by show (1 : Int) ≤ 2 ∧ (2 : Int) ≤ 4; omega, by show (1 : Int) ≤ dm ∧ (dm : Int) ≤ 16; omega, by show List.length ([rb].flatten) ≤ 1000000000; first | decide | (simp only [List.length_append, leN_len]; omega) | omega⟩ (rfl : List.length ([rb].flatten) = [rb].flatten.length) (by decide) (fun h => by omega) _ h_22) rfl ?_
  rintro _ w_26 ⟨la_23, lc_24, lx_25, rfl, h_27⟩
  refine WL.nil ?_
  refine ⟨(SL.cons (h_27.ok _ (.tail _ (.tail _ (.tail _ (.tail _ (.tail _ (.tail _ (.tail _ (.head _))))))))) (SL.cons (h_27.ok _ (.tail _ (.tail _ (.tail _ (.tail _ (.tail _ (.tail _ (.tail _ (.tail _ (.head _)))))))))) (SL.cons (h_27.ok _ (.tail _ (.tail _ (.tail _ (.tail _ (.tail _ (.tail _ (.tail _ (.tail _ (.tail _ (.head _))))))))))) (SL.nil _ _)))), ?_⟩
  refine WT.q rfl (Wn.no rfl) rfl rfl (fun wq hS => R.extract (l := [(.agg ⟨(anD id df dn u lg (2, key, dm, ([rb].flatten))).map vu8⟩), (vi 0)]) (v := (.agg ⟨(anD id df dn u lg (2, key, dm, ([rb].flatten))).map vu8⟩)) rfl rfl) ?_
  refine WT.q rfl (Wn.no rfl) rfl rfl (fun wq hS => R.extract (l := [(.agg ⟨(anD id df dn u lg (2, key, dm, ([rb].flatten))).map vu8⟩), (vi 0)]) (v := (vi 0)) rfl rfl) ?_
  refine WT.s ?_
  refine Op1.one rfl (Wn.no rfl) ?_
  refine WL.storeA (b := b_4) (off := 0) [] [(32, (List.replicate 32 (0 : UInt8)).map vu8)] [(32, (anD id df dn u lg (2, key, dm, ([rb].flatten))).map vu8)] [] (ys := (anD id df dn u lg (2, key, dm, ([rb].flatten))).map vu8) h_27 rfl rfl Try.sizeOf23 (At.t (At.t (At.t (At.t (At.t (At.t At.h)))))) (by decide) rfl rfl rfl rfl rfl rfl (SsOk.cons (SOk.u8 (anD_len hdf h32_w_26)) SsOk.nil) (fun w_28 h_29 => ?_)
  refine WL.nil ?_
  refine ⟨(SL.cons (h_29.ok _ (.tail _ (.tail _ (.tail _ (.tail _ (.tail _ (.tail _ (.tail _ (.head _))))))))) (SL.cons (h_29.ok _ (.tail _ (.tail _ (.tail _ (.tail _ (.tail _ (.tail _ (.tail _ (.tail _ (.head _)))))))))) (SL.cons (h_29.ok _ (.tail _ (.tail _ (.tail _ (.tail _ (.tail _ (.tail _ (.tail _ (.tail _ (.tail _ (.head _))))))))))) (SL.nil _ _)))), ?_⟩
  refine WT.q rfl (Wn.no rfl) rfl rfl (fun wq hS => R.assign (v := (vi 0)) rfl) ?_
  refine WT.nil ?_
  refine thn_n ?_
  refine WP.ret ?_
  refine ret_of Try.results21 (RV.cell rfl (h_29.loadA (cs := (anD id df dn u lg (2, key, dm, ([rb].flatten))).map vu8) Try.isAgg23 Try.sizeOf23 (.tail _ (.tail _ (.tail _ (.tail _ (.tail _ (.tail _ (.head _))))))) rfl rfl) (RV.tmp (v := (vi 0)) rfl RV.nil)) ?_
  have h_30 := h_29.up (Pick.t (Pick.t (Pick.t (Pick.t (Pick.t Pick.h)))))
  have h_31 := h_30.drop rfl
  have h_32 := h_31.up (Pick.t (Pick.t (Pick.t (Pick.t (Pick.t Pick.h)))))
  have h_33 := h_32.drop rfl
  have h_34 := h_33.up (Pick.t (Pick.t (Pick.t (Pick.t (Pick.t Pick.h)))))
  have h_35 := h_34.drop rfl
  have h_36 := h_35.up (Pick.t (Pick.t (Pick.t (Pick.t (Pick.t (Pick.t Pick.h))))))
  have h_37 := h_36.up (Pick.t (Pick.t (Pick.t (Pick.t (Pick.t (Pick.t Pick.h))))))
  have h_38 := h_37.up (Pick.t (Pick.t (Pick.t (Pick.t (Pick.t (Pick.t Pick.h))))))
  have h_39 := h_38.up (Pick.t (Pick.t (Pick.t (Pick.t (Pick.t (Pick.t Pick.h))))))
  have h_40 := h_39.up (Pick.t (Pick.t (Pick.t (Pick.t (Pick.t (Pick.t Pick.h))))))
  have h_41 := h_40.up (Pick.t (Pick.t (Pick.t (Pick.t (Pick.t (Pick.t Pick.h))))))
  have h_42 := h_41.up (Pick.t (Pick.t (Pick.t (Pick.t (Pick.t (Pick.t Pick.h))))))
  exact ⟨_, _, _, rfl, h_42⟩

theorem c_oTag1p {w00 : World} {L : List Ent} (id : Bool) (ob mp : Nat) (ms df : List UInt8) (hms : ms.length = 32) (da : Option Addr) (dn dc u : Nat) (hdf : df.length = 32 * dn) (la : Option Addr) (lc : Nat) (lx : List Value) (lg : Lg) (hu : u ≤ 1000000) (hlg : lg.length ≤ 1000000) (key : List UInt8) (hk : key.length = 32) (dm : Int) (hdm : 1 ≤ dm ∧ dm ≤ 16) (bl : Nat) (ra : Option Addr) (rn rk rc rc2 : Nat) (rb : List UInt8) (hrb : rb.length = rn) (hrk : rk ≤ rn) (hkc : rk ≤ rc) (hrn : rn ≤ 100000) (w : World) (h_0 : HP w00 w (Ent.blk ob .nw 50 [(1, [(.bool id)]), (32, ms.map vu8), (1, [(.slice da dn dc)]), (1, [(vi ((u : Nat) : Int))]), (1, [(.map (some mp))]), (1, [(.slice la lg.length lc)])] :: Ent.row la lg.length lc 111 67 lx :: Ent.obj mp .nw (.map (mArr lg) lg.length) :: Ent.pin (sblks lx) (fun w => Lgs w lx lg) :: Ent.view da (df.map vu8) :: Ent.blk bl .nw 37 [(1, [(.slice ra rk rc)])] :: Ent.row ra rn rc2 5 1 (rb.map vu8) :: L)) :
    Cs Try.prog 21 [(.pointer (some ⟨ob, 0, none⟩)), (.agg ⟨key.map vu8⟩), (vi dm), (.slice (some ⟨bl, 0, none⟩) 1 1)].toArray w (fun v w1 => ∃ la' lc' lx', v = (.tuple [(.agg ⟨(anD id df dn u lg (2, key, dm, [rb.take rk].flatten)).map vu8⟩), (vi 0)].toArray) ∧ HP w00 w1 (Ent.blk ob .nw 50 [(1, [(.bool id)]), (32, ms.map vu8), (1, [(.slice da dn dc)]), (1, [(vi (((anU id u lg (2, key, dm, [rb.take rk].flatten)) : Nat) : Int))]), (1, [(.map (some mp))]), (1, [(.slice la' ((anL id df dn u lg (2, key, dm, [rb.take rk].flatten)).length) lc')])] :: Ent.row la' ((anL id df dn u lg (2, key, dm, [rb.take rk].flatten)).length) lc' 111 67 lx' :: Ent.obj mp .nw (.map (mArr (anL id df dn u lg (2, key, dm, [rb.take rk].flatten))) ((anL id df dn u lg (2, key, dm, [rb.take rk].flatten)).length)) :: Ent.pin (sblks lx') (fun w => Lgs w lx' (anL id df dn u lg (2, key, dm, [rb.take rk].flatten))) :: Ent.view da (df.map vu8) :: Ent.blk bl .nw 37 [(1, [(.slice ra rk rc)])] :: Ent.row ra rn rc2 5 1 (rb.map vu8) :: L)) := by
  have hfl : [rb.take rk].flatten.length = rk := by simp [hrb]; omega
  refine Cs.of (n := 19) (args := [(.pointer (some ⟨ob, 0, none⟩)), (.agg ⟨key.map vu8⟩), (vi dm), (.slice (some ⟨bl, 0, none⟩) 1 1)]) Try.func21 rfl rfl rfl ?_
  refine WP.seq ?_
  refine WP.reg ?_
  refine WL.box (v := (.agg ⟨key.map vu8⟩)) (segs := [(32, key.map vu8)]) h_0 rfl rfl (SsOk.cons (SOk.u8 hk) SsOk.nil) rfl (fun b_1 w_2 h_3 => ?_)
  refine WL.alloc (segs := [(32, (List.replicate 32 (0 : UInt8)).map vu8)]) h_3 (zv Try.typeInfo23 rfl) rfl (SsOk.cons (SOk.u8 (List.length_replicate ..)) SsOk.nil) rfl (fun b_4 w_5 h_6 => ?_)
  refine WL.q (Wn.no rfl) rfl rfl (R.assign (v := (vi 0)) rfl) ?_
  refine WL.nil ?_
  refine thn_n ?_
  refine WP.seq ?_
  refine WP.drawT (SL w00.heap.size [.blk b_1 .nw 23 [(32, key.map vu8)], .blk bl .nw 37 [(1, [(.slice ra rk rc)])], .row ra rn rc2 5 1 (rb.map vu8)]) (.q 0 (.q 1 (.q 2 (.q 3 (.s 4 (.q 5 (.s 6 (.q 7 (.q 8 (.s 9 (.q 10 .nil))))))))))) (by kernel_rfl) (by kernel_rfl) rfl (by kernel_rfl) (fun w_7 hc_9 => (SL.cons ((h_6.same hc_9).ok _ (.tail _ (.head _))) (SL.cons ((h_6.same hc_9).ok _ (.tail _ (.tail _ (.tail _ (.tail _ (.tail _ (.tail _ (.tail _ (.head _))))))))) (SL.cons ((h_6.same hc_9).ok _ (.tail _ (.tail _ (.tail _ (.tail _ (.tail _ (.tail _ (.tail _ (.tail _ (.head _)))))))))) (SL.nil _ _))))) (fun w_7 hc_9 => ?_)
  have h_8 := h_6.same hc_9
  refine WT.q rfl (Wn.no rfl) rfl rfl (fun wq hS => R.move (v := (.pointer (some ⟨ob, 0, none⟩))) rfl) ?_
  refine WT.q rfl (Wn.no rfl) rfl rfl (fun wq hS => R.loadA (b := b_1) (off := 0) [] [(32, key.map vu8)] [] (cs := key.map vu8) rfl Try.isAgg23 Try.sizeOf23 (hS _ (.head _)) rfl rfl rfl rfl) ?_
  refine WT.q rfl (Wn.no rfl) rfl rfl (fun wq hS => R.move (v := (vi dm)) rfl) ?_
  refine WT.q rfl (Wn.no rfl) rfl rfl (fun wq hS => R.move (v := (.slice (some ⟨bl, 0, none⟩) 1 1)) rfl) ?_
  refine WT.s ?_
  refine Op1.one rfl (Wn.no rfl) ?_
  refine WL.call (al := [(.slice (some ⟨bl, 0, none⟩) 1 1)]) Try.call53 rfl rfl (c_joined (some ⟨bl, 0, none⟩) 1 1 [(.slice ra rk rc)] [rb.take rk] rfl (by omega) (by omega) _ (viewB (h_8.ok _ (.tail _ (.tail _ (.tail _ (.tail _ (.tail _ (.tail _ (.tail _ (.head _))))))))) Sg.h) (Sls.cons (by rw [List.length_take, hrb]; omega) hkc (View.pfx rk (ownView (h_8.ok _ (.tail _ (.tail _ (.tail _ (.tail _ (.tail _ (.tail _ (.tail _ (.tail _ (.head _)))))))))))) Sls.nil)) rfl ?_
  rintro _ w_12 ⟨a_10, cap_11, rfl, hc_13, ho_14⟩
  have h_15 := h_8.gotRow hc_13 ho_14
  refine WL.nil ?_
  refine ⟨(SL.cons (h_15.ok _ (.tail _ (.tail _ (.head _)))) (SL.cons (h_15.ok _ (.tail _ (.tail _ (.tail _ (.tail _ (.tail _ (.tail _ (.tail _ (.tail _ (.head _)))))))))) (SL.cons (h_15.ok _ (.tail _ (.tail _ (.tail _ (.tail _ (.tail _ (.tail _ (.tail _ (.tail _ (.tail _ (.head _))))))))))) (SL.nil _ _)))), ?_⟩
  refine WT.q rfl (Wn.no rfl) rfl rfl (fun wq hS => R.buildS (pl := [(0, 1), (1, 32), (33, 1), (34, 1)]) (zs := [(1, [(vi 0)]), (32, (List.replicate 32 (0 : UInt8)).map vu8), (1, [(vi 0)]), (1, [(.slice none 0 0)])]) (vs := [(0, (vi 2)), (1, (.agg ⟨key.map vu8⟩)), (2, (vi dm)), (3, (.slice a_10 ([rb.take rk].flatten.length) cap_11))]) (out := [(1, [(vi 2)]), (32, key.map vu8), (1, [(vi dm)]), (1, [(.slice a_10 ([rb.take rk].flatten.length) cap_11)])]) (cs := flat [(1, [(vi 2)]), (32, key.map vu8), (1, [(vi dm)]), (1, [(.slice a_10 ([rb.take rk].flatten.length) cap_11)])]) Try.underlying103 (zv Try.typeInfo103 rfl) rfl (SsOk.cons (SOk.v rfl) (SsOk.cons (SOk.u8 (List.length_replicate ..)) (SsOk.cons (SOk.v rfl) (SsOk.cons (SOk.v rfl) SsOk.nil)))) (pl103 _ Try.underlying103) rfl (FillR.cons [] [(1, [(vi 0)])] [(1, [(vi 2)])] [(32, (List.replicate 32 (0 : UInt8)).map vu8), (1, [(vi 0)]), (1, [(.slice none 0 0)])] rfl rfl rfl rfl (SsOk.cons (SOk.v rfl) SsOk.nil) rfl rfl rfl (FillR.cons [(1, [(vi 2)])] [(32, (List.replicate 32 (0 : UInt8)).map vu8)] [(32, key.map vu8)] [(1, [(vi 0)]), (1, [(.slice none 0 0)])] rfl rfl rfl rfl (SsOk.cons (SOk.u8 hk) SsOk.nil) rfl rfl rfl (FillR.cons [(1, [(vi 2)]), (32, key.map vu8)] [(1, [(vi 0)])] [(1, [(vi dm)])] [(1, [(.slice none 0 0)])] rfl rfl rfl rfl (SsOk.cons (SOk.v rfl) SsOk.nil) rfl rfl rfl (FillR.cons [(1, [(vi 2)]), (32, key.map vu8), (1, [(vi dm)])] [(1, [(.slice none 0 0)])] [(1, [(.slice a_10 ([rb.take rk].flatten.length) cap_11)])] [] rfl rfl rfl rfl (SsOk.cons (SOk.v rfl) SsOk.nil) rfl rfl rfl FillR.nil)))) rfl) ?_
  refine WT.s ?_
  refine Op1.one rfl (Wn.no rfl) ?_
  have h_17 := h_15.rowView
  have h_18 := h_17.up (Pick.t (Pick.t (Pick.t (Pick.t (Pick.t (Pick.t (Pick.t Pick.h)))))))
  have h_19 := h_18.up (Pick.t (Pick.t (Pick.t (Pick.t (Pick.t (Pick.t (Pick.t Pick.h)))))))
  have h_20 := h_19.up (Pick.t (Pick.t (Pick.t (Pick.t (Pick.t (Pick.t (Pick.t Pick.h)))))))
  have h_21 := h_20.up (Pick.t (Pick.t (Pick.t (Pick.t (Pick.t (Pick.t (Pick.t Pick.h)))))))
  have h_22 := h_21.up (Pick.t (Pick.t (Pick.t (Pick.t (Pick.t (Pick.t (Pick.t Pick.h)))))))
  have h32_w_26 := (Lgs.ok32 (h_22.ok _ (.tail _ (.tail _ (.tail _ (.head _))))).1)
  refine WL.call (al := [(.pointer (some ⟨ob, 0, none⟩)), (.agg ⟨flat [(1, [(vi 2)]), (32, key.map vu8), (1, [(vi dm)]), (1, [(.slice a_10 ([rb.take rk].flatten.length) cap_11)])]⟩)]) Try.call48 rfl rfl (c_oAsk id ob mp ms df hms da dn dc u hdf la lc lx lg hu hlg 2 dm key ([rb.take rk].flatten) a_10 ([rb.take rk].flatten.length) cap_11 ⟨hk, by show (1 : Int) ≤ 2 ∧ (2 : Int) ≤ 4; omega, by show (1 : Int) ≤ dm ∧ (dm : Int) ≤ 16; omega, by show List.length ([rb.take rk].flatten) ≤ 1000000000; first | decide | (simp only [List.length_append, leN_len]; omega) | omega⟩ (rfl : List.length ([rb.take rk].flatten) = [rb.take rk].flatten.length) (by decide) (fun h => by omega) _ h_22) rfl ?_
  rintro _ w_26 ⟨la_23, lc_24, lx_25, rfl, h_27⟩
  refine WL.nil ?_
  refine ⟨(SL.cons (h_27.ok _ (.tail _ (.tail _ (.tail _ (.tail _ (.tail _ (.tail _ (.tail _ (.head _))))))))) (SL.cons (h_27.ok _ (.tail _ (.tail _ (.tail _ (.tail _ (.tail _ (.tail _ (.tail _ (.tail _ (.head _)))))))))) (SL.cons (h_27.ok _ (.tail _ (.tail _ (.tail _ (.tail _ (.tail _ (.tail _ (.tail _ (.tail _ (.tail _ (.head _))))))))))) (SL.nil _ _)))), ?_⟩
  refine WT.q rfl (Wn.no rfl) rfl rfl (fun wq hS => R.extract (l := [(.agg ⟨(anD id df dn u lg (2, key, dm, ([rb.take rk].flatten))).map vu8⟩), (vi 0)]) (v := (.agg ⟨(anD id df dn u lg (2, key, dm, ([rb.take rk].flatten))).map vu8⟩)) rfl rfl) ?_
  refine WT.q rfl (Wn.no rfl) rfl rfl (fun wq hS => R.extract (l := [(.agg ⟨(anD id df dn u lg (2, key, dm, ([rb.take rk].flatten))).map vu8⟩), (vi 0)]) (v := (vi 0)) rfl rfl) ?_
  refine WT.s ?_
  refine Op1.one rfl (Wn.no rfl) ?_
  refine WL.storeA (b := b_4) (off := 0) [] [(32, (List.replicate 32 (0 : UInt8)).map vu8)] [(32, (anD id df dn u lg (2, key, dm, ([rb.take rk].flatten))).map vu8)] [] (ys := (anD id df dn u lg (2, key, dm, ([rb.take rk].flatten))).map vu8) h_27 rfl rfl Try.sizeOf23 (At.t (At.t (At.t (At.t (At.t (At.t At.h)))))) (by decide) rfl rfl rfl rfl rfl rfl (SsOk.cons (SOk.u8 (anD_len hdf h32_w_26)) SsOk.nil) (fun w_28 h_29 => ?_)
  refine WL.nil ?_
  refine ⟨(SL.cons (h_29.ok _ (.tail _ (.tail _ (.tail _ (.tail _ (.tail _ (.tail _ (.tail _ (.head _))))))))) (SL.cons (h_29.ok _ (.tail _ (.tail _ (.tail _ (.tail _ (.tail _ (.tail _ (.tail _ (.tail _ (.head _)))))))))) (SL.cons (h_29.ok _ (.tail _ (.tail _ (.tail _ (.tail _ (.tail _ (.tail _ (.tail _ (.tail _ (.tail _ (.head _))))))))))) (SL.nil _ _)))), ?_⟩
  refine WT.q rfl (Wn.no rfl) rfl rfl (fun wq hS => R.assign (v := (vi 0)) rfl) ?_
  refine WT.nil ?_
  refine thn_n ?_
  refine WP.ret ?_
  refine ret_of Try.results21 (RV.cell rfl (h_29.loadA (cs := (anD id df dn u lg (2, key, dm, ([rb.take rk].flatten))).map vu8) Try.isAgg23 Try.sizeOf23 (.tail _ (.tail _ (.tail _ (.tail _ (.tail _ (.tail _ (.head _))))))) rfl rfl) (RV.tmp (v := (vi 0)) rfl RV.nil)) ?_
  have h_30 := h_29.up (Pick.t (Pick.t (Pick.t (Pick.t (Pick.t Pick.h)))))
  have h_31 := h_30.drop rfl
  have h_32 := h_31.up (Pick.t (Pick.t (Pick.t (Pick.t (Pick.t Pick.h)))))
  have h_33 := h_32.drop rfl
  have h_34 := h_33.up (Pick.t (Pick.t (Pick.t (Pick.t (Pick.t Pick.h)))))
  have h_35 := h_34.drop rfl
  have h_36 := h_35.up (Pick.t (Pick.t (Pick.t (Pick.t (Pick.t (Pick.t Pick.h))))))
  have h_37 := h_36.up (Pick.t (Pick.t (Pick.t (Pick.t (Pick.t (Pick.t Pick.h))))))
  have h_38 := h_37.up (Pick.t (Pick.t (Pick.t (Pick.t (Pick.t (Pick.t Pick.h))))))
  have h_39 := h_38.up (Pick.t (Pick.t (Pick.t (Pick.t (Pick.t (Pick.t Pick.h))))))
  have h_40 := h_39.up (Pick.t (Pick.t (Pick.t (Pick.t (Pick.t (Pick.t Pick.h))))))
  have h_41 := h_40.up (Pick.t (Pick.t (Pick.t (Pick.t (Pick.t (Pick.t Pick.h))))))
  have h_42 := h_41.up (Pick.t (Pick.t (Pick.t (Pick.t (Pick.t (Pick.t Pick.h))))))
  exact ⟨_, _, _, rfl, h_42⟩

theorem c_rB1 {w00 : World} {L : List Ent} (a : Option Addr) (n cap : Nat) (bs : List UInt8) (hl : bs.length = n) (bo : Nat) (oa : Option Addr) (on oc : Nat) (cur : List UInt8) (hcur : cur.length = on) (hn : n ≤ 1000) (hon : on ≤ 1000) (w : World) (hv : View w a (bs.map vu8)) (h_0 : HP w00 w (Ent.blk bo .nw 37 [(1, [(.slice oa on oc)])] :: Ent.row oa on oc 5 1 ((cur).map vu8) :: L)) :
    Cs Try.prog 77 [(.slice a n cap), (.pointer (some ⟨bo, 0, none⟩))].toArray w (fun v w1 => ∃ oa' oc', v = .tuple [].toArray ∧ HP w00 w1 (Ent.blk bo .nw 37 [(1, [(.slice oa' (on + n) oc')])] :: Ent.row oa' (on + n) oc' 5 1 ((cur ++ bs).map vu8) :: L)) := by
  refine Cs.of (n := 6) (args := [(.slice a n cap), (.pointer (some ⟨bo, 0, none⟩))]) Try.func77 rfl rfl rfl ?_
  refine WP.reg ?_
  refine WL.q (Wn.no rfl) rfl rfl (R.load1 (b := bo) (off := 0) (v := (.slice oa on oc)) rfl Try.isAgg37 (h_0.ok _ (.head _)) Sg.h) ?_
  refine WL.q (Wn.no rfl) rfl rfl (R.move (v := (.slice a n cap)) rfl) ?_
  refine WL.append (km := on + n) (xs := (cur).map vu8) (ys := bs.map vu8) (zs := (cur ++ bs).map vu8) h_0 rfl rfl el37 hv ((len_map hl).trans (Nat.mul_one _).symm) (one_u8 _) (by simp only [List.map_append, List.map_nil]) (by omega) (by omega) (by omega) (fun _ _ => (At.t At.h)) rfl (fun a_1 c_2 w_3 h_4 => ?_)
  refine WL.store1 (b := bo) (off := 0) (v := (.slice a_1 (on + n) c_2)) h_4 rfl rfl Try.sizeOf37 rfl At.h (by decide) Sg.h (fun w_5 h_6 => ?_)
  refine WL.nil ?_
  refine ret_n ?_
  refine ret_of Try.results77 RV.nil ?_
  have h_7 := h_6.up (Pick.t Pick.h)
  have h_8 := h_7.up (Pick.t Pick.h)
  exact ⟨_, _, rfl, h_8⟩

theorem c_rBytes (ins : UInt64) (me ch : List UInt8) (hme : me.length = 32) (hch : ch.length = 32) (w : World) :
    Cs Try.prog 46 [(.agg ⟨flat [(1, [(vu64 ins)]), (32, me.map vu8), (32, ch.map vu8)]⟩)].toArray w (fun v w1 => ∃ a cap, v = .slice a 80 cap ∧ Chg w w1 [] ∧ Own w.heap.size w1 5 1 a 80 cap ((repB ins me ch).map vu8)) := by
  refine Cs.of (n := 34) (args := [(.agg ⟨flat [(1, [(vu64 ins)]), (32, me.map vu8), (32, ch.map vu8)]⟩)]) Try.func46 rfl rfl rfl ?_
  have h_0 := HP.init w
  refine WP.seq ?_
  refine WP.reg ?_
  refine WL.box (v := (.agg ⟨flat [(1, [(vu64 ins)]), (32, me.map vu8), (32, ch.map vu8)]⟩)) (segs := [(1, [(vu64 ins)]), (32, me.map vu8), (32, ch.map vu8)]) h_0 rfl rfl (SsOk.cons (SOk.v rfl) (SsOk.cons (SOk.u8 hme) (SsOk.cons (SOk.u8 hch) SsOk.nil))) rfl (fun b_1 w_2 h_3 => ?_)
  refine WL.q (Wn.no rfl) rfl rfl (R.assign (v := (.slice none 0 0)) rfl) ?_
  refine WL.nil ?_
  refine thn_n ?_
  refine WP.seq ?_
  refine WP.reg ?_
  refine WL.q (Wn.no rfl) rfl rfl (R.fieldAddr (b := b_1) (off := 0) (off' := 0) rfl Try.underlying30 rfl Try.sizeOf28 rfl rfl) ?_
  refine WL.q (Wn.no rfl) rfl rfl (R.load1 (b := b_1) (off := 0) (v := (vu64 ins)) rfl Try.isAgg28 (h_3.ok _ (.head _)) Sg.h) ?_
  refine WL.call (al := [(vu64 ins), (vi 8)]) Try.call76 rfl rfl (c_Put_b ins 8 rfl _) rfl ?_
  rintro _ w_6 ⟨a_4, cap_5, rfl, hc_7, ho_8⟩
  have h_9 := h_3.gotRow hc_7 ho_8
  refine WL.q (Wn.no rfl) rfl rfl (R.move (v := (.tuple [(.slice a_4 8 cap_5), (vi 0)].toArray)) rfl) ?_
  refine WL.q (Wn.no rfl) rfl rfl (R.extract (l := [(.slice a_4 8 cap_5), (vi 0)]) (v := (.slice a_4 8 cap_5)) rfl rfl) ?_
  refine WL.q (Wn.no rfl) rfl rfl (R.extract (l := [(.slice a_4 8 cap_5), (vi 0)]) (v := (vi 0)) rfl rfl) ?_
  refine WL.q (Wn.no rfl) rfl rfl (R.assign (v := (.slice a_4 8 cap_5)) rfl) ?_
  refine WL.q (Wn.no rfl) rfl rfl (R.assign (v := (vi 0)) rfl) ?_
  refine WL.nil ?_
  refine thn_n ?_
  refine WP.seq ?_
  refine WP.reg ?_
  refine WL.alloc (segs := [(1, [(.slice none 0 0)])]) h_9 (zv Try.typeInfo37 rfl) rfl (SsOk.cons (SOk.v rfl) SsOk.nil) rfl (fun b_10 w_11 h_12 => ?_)
  refine WL.nil ?_
  refine thn_n ?_
  refine WP.seq ?_
  refine WP.reg ?_
  refine WL.q (Wn.no rfl) rfl rfl (R.makeFuncL (fi := []) (ca := [(.pointer (some ⟨b_10, 0, none⟩))]) rfl rfl) ?_
  refine WL.q (Wn.no rfl) rfl rfl (R.assign (v := (Value.func (Fn.func 77) [].toArray [(Value.pointer (some ⟨b_10, 0, none⟩))].toArray)) rfl) ?_
  refine WL.nil ?_
  refine thn_n ?_
  refine WP.seq ?_
  refine WP.seq ?_
  refine WP.drawT (SL w.heap.size [.blk b_10 .nw 37 [(1, [(.slice none 0 0)])], .row a_4 8 cap_5 5 1 ((leN 8 ins.toNat).map vu8), .blk b_1 .nw 30 [(1, [(vu64 ins)]), (32, me.map vu8), (32, ch.map vu8)]]) (.q 2 (.q 3 (.q 4 (.q 5 (.q 6 (.q 9 (.s 0 (.s 1 (.s 7 (.q 8 .nil)))))))))) (by kernel_rfl) (by kernel_rfl) rfl (by kernel_rfl) (fun w_13 hc_15 => (SL.cons ((h_12.same hc_15).ok _ (.head _)) (SL.cons ((h_12.same hc_15).ok _ (.tail _ (.head _))) (SL.cons ((h_12.same hc_15).ok _ (.tail _ (.tail _ (.head _)))) (SL.nil _ _))))) (fun w_13 hc_15 => ?_)
  have h_14 := h_12.same hc_15
  refine WT.q rfl (Wn.no rfl) rfl rfl (fun wq hS => R.move (v := (.slice a_4 8 cap_5)) rfl) ?_
  refine WT.q rfl (Wn.no rfl) rfl rfl (fun wq hS => R.fieldAddr (b := b_1) (off := 0) (off' := 1) rfl Try.underlying30 rfl Try.sizeOf23 rfl rfl) ?_
  refine WT.q rfl (Wn.no rfl) rfl rfl (fun wq hS => R.sliceA (b := b_1) (off := 1) (off' := 1) (l := 0) (h := 32) rfl EvB.dflt EvB.dflt (by decide) (by decide) Try.underlying23 Try.sizeOf5 rfl) ?_
  refine WT.q rfl (Wn.no rfl) rfl rfl (fun wq hS => R.fieldAddr (b := b_1) (off := 0) (off' := 33) rfl Try.underlying30 rfl Try.sizeOf23 rfl rfl) ?_
  refine WT.q rfl (Wn.no rfl) rfl rfl (fun wq hS => R.sliceA (b := b_1) (off := 33) (off' := 33) (l := 0) (h := 32) rfl EvB.dflt EvB.dflt (by decide) (by decide) Try.underlying23 Try.sizeOf5 rfl) ?_
  refine WT.q rfl (Wn.no rfl) rfl rfl (fun wq hS => R.move (v := (vi 0)) rfl) ?_
  refine WT.s ?_
  refine Op1.one rfl (Wn.no rfl) ?_
  refine WL.buildSl (vs := [(0, (vu8 114)), (1, (vu8 101)), (2, (vu8 112)), (3, (vu8 111)), (4, (vu8 114)), (5, (vu8 116)), (6, (vu8 0)), (7, (vu8 0))]) (cs := ([114, 101, 112, 111, 114, 116, 0, 0] : List UInt8).map vu8) h_14 Try.underlying37 Try.sizeOf5 (zv Try.typeInfo5 rfl) rfl rfl (by kernel_rfl) rfl (one_u8 _) rfl rfl (fun b_16 w_17 h_18 => ?_)
  refine WL.nil ?_
  refine ⟨(SL.cons (h_18.ok _ (.tail _ (.head _))) (SL.cons (h_18.ok _ (.tail _ (.tail _ (.head _)))) (SL.cons (h_18.ok _ (.tail _ (.tail _ (.tail _ (.head _))))) (SL.nil _ _)))), ?_⟩
  refine WT.s ?_
  refine Op1.one rfl (Wn.no rfl) ?_
  refine WL.convSl h_18 rfl Try.underlying37 Try.underlying5 At.h (by decide) rfl (fun w_19 h_20 => ?_)
  refine WL.nil ?_
  refine ⟨(SL.cons (h_20.ok _ (.tail _ (.head _))) (SL.cons (h_20.ok _ (.tail _ (.tail _ (.head _)))) (SL.cons (h_20.ok _ (.tail _ (.tail _ (.tail _ (.head _))))) (SL.nil _ _)))), ?_⟩
  refine WT.s ?_
  refine Op1.one rfl (Wn.no rfl) ?_
  refine WL.buildSl (vs := [(0, (.slice (some ⟨b_16, 0, none⟩) 8 8)), (1, (.slice a_4 8 cap_5)), (2, (.slice (some ⟨b_1, 1, none⟩) 32 32)), (3, (.slice (some ⟨b_1, 33, none⟩) 32 32))]) (cs := [(.slice (some ⟨b_16, 0, none⟩) 8 8), (.slice a_4 8 cap_5), (.slice (some ⟨b_1, 1, none⟩) 32 32), (.slice (some ⟨b_1, 33, none⟩) 32 32)]) h_20 Try.underlying36 Try.sizeOf37 (zv Try.typeInfo37 rfl) rfl rfl (by kernel_rfl) rfl (by simp [Value.oneCell']) rfl rfl (fun b_21 w_22 h_23 => ?_)
  refine WL.nil ?_
  refine ⟨(SL.cons (h_23.ok _ (.tail _ (.tail _ (.head _)))) (SL.cons (h_23.ok _ (.tail _ (.tail _ (.tail _ (.head _))))) (SL.cons (h_23.ok _ (.tail _ (.tail _ (.tail _ (.tail _ (.head _)))))) (SL.nil _ _)))), ?_⟩
  refine WT.q rfl (Wn.no rfl) rfl rfl (fun wq hS => R.lenS (a := some ⟨b_21, 0, none⟩) (m := 4) rfl rfl Try.underlying36) ?_
  refine WT.nil ?_
  refine thn_n ?_
  refine WP.block ?_
  refine WP.loopU (WI.round ?_)
  refine WP.seq ?_
  refine WP.reg ?_
  refine WL.q (Wn.no rfl) rfl rfl (R.bin (v := (.bool true)) rfl rfl (bi_lss (r := true) (by decide))) ?_
  refine WL.nil ?_
  refine thn_n ?_
  refine WP.seq ?_
  refine WP.condT rfl ?_
  refine WP.skip ?_
  refine thn_n ?_
  refine WP.seq ?_
  refine WP.block ?_
  refine WP.seq ?_
  refine WP.reg ?_
  refine WL.q (Wn.no rfl) rfl rfl (R.indexP (b := b_21) (off := 0) (off' := 0) (i := 0) rfl rfl rfl (by decide) Try.underlying36 Try.sizeOf37 rfl) ?_
  refine WL.q (Wn.no rfl) rfl rfl (R.loadE (b := b_21) (off := 0) (i := 0) (v := (.slice (some ⟨b_16, 0, none⟩) 8 8)) rfl Try.isAgg37 (h_23.ok _ (.head _)) Sg.h rfl rfl) ?_
  refine WL.q (Wn.no rfl) rfl rfl (R.assign (v := (.slice (some ⟨b_16, 0, none⟩) 8 8)) rfl) ?_
  refine WL.nil ?_
  refine thn_n ?_
  refine WP.reg ?_
  refine WL.q (Wn.no rfl) rfl rfl (R.move (v := (Value.func (Fn.func 77) [].toArray [(Value.pointer (some ⟨b_10, 0, none⟩))].toArray)) rfl) ?_
  refine WL.q (Wn.no rfl) rfl rfl (R.move (v := (.slice (some ⟨b_16, 0, none⟩) 8 8)) rfl) ?_
  have h_24 := h_23.rowNil 5 1
  have h_25 := h_24.up (Pick.t (Pick.t (Pick.t Pick.h)))
  refine WL.call (al := [(.slice (some ⟨b_16, 0, none⟩) 8 8), (.pointer (some ⟨b_10, 0, none⟩))]) Try.call77 rfl rfl (c_rB1 (some ⟨b_16, 0, none⟩) 8 8 ([114, 101, 112, 111, 114, 116, 0, 0] : List UInt8) (rfl : List.length ([114, 101, 112, 111, 114, 116, 0, 0] : List UInt8) = 8) b_10 none 0 0 ([] : List UInt8) (rfl : List.length ([] : List UInt8) = 0) (by omega) (by omega) _ (viewB (h_25.ok _ (.tail _ (.tail _ (.tail _ (.head _))))) Sg.h) h_25) rfl ?_
  rintro _ w_28 ⟨a_26, c_27, rfl, h_29⟩
  refine WL.nil ?_
  refine inb_n ?_
  refine thn_n ?_
  refine WP.reg ?_
  refine WL.q (Wn.no rfl) rfl rfl (R.bin (v := (vi 1)) rfl rfl (bi_add (c := 1) (by omega) (by omega))) ?_
  refine WL.q (Wn.no rfl) rfl rfl (R.move (v := (vi 1)) rfl) ?_
  refine WL.nil ?_
  refine thn_n ?_
  refine WI.round ?_
  refine WP.seq ?_
  refine WP.reg ?_
  refine WL.q (Wn.no rfl) rfl rfl (R.bin (v := (.bool true)) rfl rfl (bi_lss (r := true) (by decide))) ?_
  refine WL.nil ?_
  refine thn_n ?_
  refine WP.seq ?_
  refine WP.condT rfl ?_
  refine WP.skip ?_
  refine thn_n ?_
  refine WP.seq ?_
  refine WP.block ?_
  refine WP.seq ?_
  refine WP.reg ?_
  refine WL.q (Wn.no rfl) rfl rfl (R.indexP (b := b_21) (off := 0) (off' := 1) (i := 1) rfl rfl rfl (by decide) Try.underlying36 Try.sizeOf37 rfl) ?_
  refine WL.q (Wn.no rfl) rfl rfl (R.loadE (b := b_21) (off := 1) (i := 1) (v := (.slice a_4 8 cap_5)) rfl Try.isAgg37 (h_29.ok _ (.tail _ (.tail _ (.head _)))) Sg.h rfl rfl) ?_
  refine WL.q (Wn.no rfl) rfl rfl (R.assign (v := (.slice a_4 8 cap_5)) rfl) ?_
  refine WL.nil ?_
  refine thn_n ?_
  refine WP.reg ?_
  refine WL.q (Wn.no rfl) rfl rfl (R.move (v := (Value.func (Fn.func 77) [].toArray [(Value.pointer (some ⟨b_10, 0, none⟩))].toArray)) rfl) ?_
  refine WL.q (Wn.no rfl) rfl rfl (R.move (v := (.slice a_4 8 cap_5)) rfl) ?_
  have h_30 := h_29.up (Pick.t Pick.h)
  have h_31 := h_30.up (Pick.t Pick.h)
  refine WL.call (al := [(.slice a_4 8 cap_5), (.pointer (some ⟨b_10, 0, none⟩))]) Try.call77 rfl rfl (c_rB1 a_4 8 cap_5 (leN 8 ins.toNat) (leN_len ..) b_10 a_26 8 c_27 (([] : List UInt8) ++ ([114, 101, 112, 111, 114, 116, 0, 0] : List UInt8)) (lenApp (a := 0) (b := 8) (rfl : List.length ([] : List UInt8) = 0) (rfl : List.length ([114, 101, 112, 111, 114, 116, 0, 0] : List UInt8) = 8) (by omega) : List.length (([] : List UInt8) ++ ([114, 101, 112, 111, 114, 116, 0, 0] : List UInt8)) = 8) (by omega) (by omega) _ (ownView (h_31.ok _ (.tail _ (.tail _ (.tail _ (.tail _ (.head _))))))) h_31) rfl ?_
  rintro _ w_34 ⟨a_32, c_33, rfl, h_35⟩
  refine WL.nil ?_
  refine inb_n ?_
  refine thn_n ?_
  refine WP.reg ?_
  refine WL.q (Wn.no rfl) rfl rfl (R.bin (v := (vi 2)) rfl rfl (bi_add (c := 2) (by omega) (by omega))) ?_
  refine WL.q (Wn.no rfl) rfl rfl (R.move (v := (vi 2)) rfl) ?_
  refine WL.nil ?_
  refine thn_n ?_
  refine WI.round ?_
  refine WP.seq ?_
  refine WP.reg ?_
  refine WL.q (Wn.no rfl) rfl rfl (R.bin (v := (.bool true)) rfl rfl (bi_lss (r := true) (by decide))) ?_
  refine WL.nil ?_
  refine thn_n ?_
  refine WP.seq ?_
  refine WP.condT rfl ?_
  refine WP.skip ?_
  refine thn_n ?_
  refine WP.seq ?_
  refine WP.block ?_
  refine WP.seq ?_
  refine WP.reg ?_
  refine WL.q (Wn.no rfl) rfl rfl (R.indexP (b := b_21) (off := 0) (off' := 2) (i := 2) rfl rfl rfl (by decide) Try.underlying36 Try.sizeOf37 rfl) ?_
  refine WL.q (Wn.no rfl) rfl rfl (R.loadE (b := b_21) (off := 2) (i := 2) (v := (.slice (some ⟨b_1, 1, none⟩) 32 32)) rfl Try.isAgg37 (h_35.ok _ (.tail _ (.tail _ (.head _)))) Sg.h rfl rfl) ?_
  refine WL.q (Wn.no rfl) rfl rfl (R.assign (v := (.slice (some ⟨b_1, 1, none⟩) 32 32)) rfl) ?_
  refine WL.nil ?_
  refine thn_n ?_
  refine WP.reg ?_
  refine WL.q (Wn.no rfl) rfl rfl (R.move (v := (Value.func (Fn.func 77) [].toArray [(Value.pointer (some ⟨b_10, 0, none⟩))].toArray)) rfl) ?_
  refine WL.q (Wn.no rfl) rfl rfl (R.move (v := (.slice (some ⟨b_1, 1, none⟩) 32 32)) rfl) ?_
  have h_36 := h_35.up (Pick.t Pick.h)
  have h_37 := h_36.up (Pick.t Pick.h)
  refine WL.call (al := [(.slice (some ⟨b_1, 1, none⟩) 32 32), (.pointer (some ⟨b_10, 0, none⟩))]) Try.call77 rfl rfl (c_rB1 (some ⟨b_1, 1, none⟩) 32 32 me hme b_10 a_32 16 c_33 ((([] : List UInt8) ++ ([114, 101, 112, 111, 114, 116, 0, 0] : List UInt8)) ++ (leN 8 ins.toNat)) (lenApp (a := 8) (b := 8) (lenApp (a := 0) (b := 8) (rfl : List.length ([] : List UInt8) = 0) (rfl : List.length ([114, 101, 112, 111, 114, 116, 0, 0] : List UInt8) = 8) (by omega) : List.length (([] : List UInt8) ++ ([114, 101, 112, 111, 114, 116, 0, 0] : List UInt8)) = 8) (leN_len ..) (by omega) : List.length ((([] : List UInt8) ++ ([114, 101, 112, 111, 114, 116, 0, 0] : List UInt8)) ++ (leN 8 ins.toNat)) = 16) (by omega) (by omega) _ (viewB (h_37.ok _ (.tail _ (.tail _ (.tail _ (.tail _ (.tail _ (.head _))))))) (Sg.t rfl Sg.h)) h_37) rfl ?_
  rintro _ w_40 ⟨a_38, c_39, rfl, h_41⟩
  refine WL.nil ?_
  refine inb_n ?_
  refine thn_n ?_
  refine WP.reg ?_
  refine WL.q (Wn.no rfl) rfl rfl (R.bin (v := (vi 3)) rfl rfl (bi_add (c := 3) (by omega) (by omega))) ?_
  refine WL.q (Wn.no rfl) rfl rfl (R.move (v := (vi 3)) rfl) ?_
  refine WL.nil ?_
  refine thn_n ?_
  refine WI.round ?_
  refine WP.seq ?_
  refine WP.reg ?_
  refine WL.q (Wn.no rfl) rfl rfl (R.bin (v := (.bool true)) rfl rfl (bi_lss (r := true) (by decide))) ?_
  refine WL.nil ?_
  refine thn_n ?_
  refine WP.seq ?_
  refine WP.condT rfl ?_
  refine WP.skip ?_
  refine thn_n ?_
  refine WP.seq ?_
  refine WP.block ?_
  refine WP.seq ?_
  refine WP.reg ?_
  refine WL.q (Wn.no rfl) rfl rfl (R.indexP (b := b_21) (off := 0) (off' := 3) (i := 3) rfl rfl rfl (by decide) Try.underlying36 Try.sizeOf37 rfl) ?_
  refine WL.q (Wn.no rfl) rfl rfl (R.loadE (b := b_21) (off := 3) (i := 3) (v := (.slice (some ⟨b_1, 33, none⟩) 32 32)) rfl Try.isAgg37 (h_41.ok _ (.tail _ (.tail _ (.head _)))) Sg.h rfl rfl) ?_
  refine WL.q (Wn.no rfl) rfl rfl (R.assign (v := (.slice (some ⟨b_1, 33, none⟩) 32 32)) rfl) ?_
  refine WL.nil ?_
  refine thn_n ?_
  refine WP.reg ?_
  refine WL.q (Wn.no rfl) rfl rfl (R.move (v := (Value.func (Fn.func 77) [].toArray [(Value.pointer (some ⟨b_10, 0, none⟩))].toArray)) rfl) ?_
  refine WL.q (Wn.no rfl) rfl rfl (R.move (v := (.slice (some ⟨b_1, 33, none⟩) 32 32)) rfl) ?_
  have h_42 := h_41.up (Pick.t Pick.h)
  have h_43 := h_42.up (Pick.t Pick.h)
  refine WL.call (al := [(.slice (some ⟨b_1, 33, none⟩) 32 32), (.pointer (some ⟨b_10, 0, none⟩))]) Try.call77 rfl rfl (c_rB1 (some ⟨b_1, 33, none⟩) 32 32 ch hch b_10 a_38 48 c_39 (((([] : List UInt8) ++ ([114, 101, 112, 111, 114, 116, 0, 0] : List UInt8)) ++ (leN 8 ins.toNat)) ++ me) (lenApp (a := 16) (b := 32) (lenApp (a := 8) (b := 8) (lenApp (a := 0) (b := 8) (rfl : List.length ([] : List UInt8) = 0) (rfl : List.length ([114, 101, 112, 111, 114, 116, 0, 0] : List UInt8) = 8) (by omega) : List.length (([] : List UInt8) ++ ([114, 101, 112, 111, 114, 116, 0, 0] : List UInt8)) = 8) (leN_len ..) (by omega) : List.length ((([] : List UInt8) ++ ([114, 101, 112, 111, 114, 116, 0, 0] : List UInt8)) ++ (leN 8 ins.toNat)) = 16) hme (by omega) : List.length (((([] : List UInt8) ++ ([114, 101, 112, 111, 114, 116, 0, 0] : List UInt8)) ++ (leN 8 ins.toNat)) ++ me) = 48) (by omega) (by omega) _ (viewB (h_43.ok _ (.tail _ (.tail _ (.tail _ (.tail _ (.tail _ (.head _))))))) (Sg.t rfl (Sg.t rfl Sg.h))) h_43) rfl ?_
  rintro _ w_46 ⟨a_44, c_45, rfl, h_47⟩
  refine WL.nil ?_
  refine inb_n ?_
  refine thn_n ?_
  refine WP.reg ?_
  refine WL.q (Wn.no rfl) rfl rfl (R.bin (v := (vi 4)) rfl rfl (bi_add (c := 4) (by omega) (by omega))) ?_
  refine WL.q (Wn.no rfl) rfl rfl (R.move (v := (vi 4)) rfl) ?_
  refine WL.nil ?_
  refine thn_n ?_
  refine WI.round ?_
  refine WP.seq ?_
  refine WP.reg ?_
  refine WL.q (Wn.no rfl) rfl rfl (R.bin (v := (.bool false)) rfl rfl (bi_lss (r := false) (by decide))) ?_
  refine WL.nil ?_
  refine thn_n ?_
  refine WP.seq ?_
  refine WP.condF rfl ?_
  refine WP.exit ?_
  refine thn_x ?_
  refine thn_x ?_
  refine inb_hit ?_
  refine thn_n ?_
  refine WP.seq ?_
  refine WP.reg ?_
  refine WL.q (Wn.no rfl) rfl rfl (R.load1 (b := b_10) (off := 0) (v := (.slice a_44 80 c_45)) rfl Try.isAgg37 (h_47.ok _ (.head _)) Sg.h) ?_
  refine WL.q (Wn.no rfl) rfl rfl (R.assign (v := (.slice a_44 80 c_45)) rfl) ?_
  refine WL.nil ?_
  refine thn_n ?_
  refine WP.ret ?_
  refine ret_of Try.results46 (RV.tmp (v := (.slice a_44 80 c_45)) rfl RV.nil) ?_
  exact ⟨_, _, rfl, h_47.chgS, by first | exact h_47.ok _ (.tail _ (.head _)) | (have hx := h_47.own (.tail _ (.head _)); simpa [repB, markB] using hx)⟩

theorem me_len {bs : List UInt8} (h : 80 ≤ bs.length) : (me_of bs).length = 32 := by simp only [me_of, List.length_take, List.length_drop]; omega
theorem ch_len {bs : List UInt8} (h : 80 ≤ bs.length) : (ch_of bs).length = 32 := by simp only [ch_of, List.length_take, List.length_drop]; omega
theorem me_eq (bs : List UInt8) : (cutR bs).getD 2 [] = me_of bs := by simp [cutR, me_of]
theorem ch_eq (bs : List UInt8) : (cutR bs).getD 3 [] = ch_of bs := by simp [cutR, ch_of]
end Go.Proofs.Ytnhppjimimhlkaa
