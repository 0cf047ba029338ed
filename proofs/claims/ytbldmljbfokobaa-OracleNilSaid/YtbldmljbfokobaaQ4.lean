/- An oracle: new ones, streams. Conditions: those that each theorem states. -/
import Derived.Test.YtbldmljbfokobaaQ3
namespace Go.Proofs.Ytbldmljbfokobaa
open Go.Vc Go.Orc Go.RowKit
set_option linter.unusedVariables false
set_option linter.unusedSimpArgs false
set_option maxRecDepth 20000
theorem pl47 : ∀ fs, Try.prog.underlying 47 = some (.struct fs) → Places Try.prog fs [(0, 1), (1, 32), (33, 1), (34, 1), (35, 1), (36, 1)] := by
  intro fs h w; rw [Try.underlying47] at h; cases h; simp
theorem c_ONew {w00 : World} {L : List Ent} (ms df : List UInt8) (hms : ms.length = 32) (a : Option Addr) (n cap : Nat) (hl : df.length = 32 * n) (hn : n ≤ 1000000) (w : World) (h_0 : HP w00 w (Ent.view a (df.map vu8) :: L)) :
    Cs Try.prog 12 [(.bool true), (.agg ⟨ms.map vu8⟩), (.slice a n cap)].toArray w (fun v w1 => ∃ ob mp da dc, v = .pointer (some ⟨ob, 0, none⟩) ∧ HP w00 w1 (Ent.blk ob .nw 47 [(1, [(.bool true)]), (32, ms.map vu8), (1, [(.slice da n dc)]), (1, [(vi 0)]), (1, [(.map (some mp))]), (1, [(.slice none 0 0)])] :: Ent.row none 0 0 71 67 [] :: Ent.obj mp .nw (.map (mArr ([] : Lg)) 0) :: Ent.pin (sblks []) (fun w => Lgs w [] ([] : Lg)) :: Ent.view da (df.map vu8) :: Ent.view a (df.map vu8) :: L)) := by
  refine Cs.of (n := 14) (args := [(.bool true), (.agg ⟨ms.map vu8⟩), (.slice a n cap)]) Try.func12 rfl rfl rfl ?_
  refine WP.seq ?_
  refine WP.reg ?_
  refine WL.box (v := (.agg ⟨ms.map vu8⟩)) (segs := [(32, ms.map vu8)]) h_0 rfl rfl (SsOk.cons (SOk.u8 hms) SsOk.nil) rfl (fun b_1 w_2 h_3 => ?_)
  refine WL.q (Wn.no rfl) rfl rfl (R.assign (v := (.pointer none)) rfl) ?_
  refine WL.nil ?_
  refine thn_n ?_
  refine WP.seq ?_
  refine WP.cutG (G := Nat × Option Addr × Nat × Nat) [6, 7, 8, 9, 10, 11, 12, 13] (fun (bY1Y6Y0Y0, aY1Y3Y0Y0, capY1Y3Y0Y0, bY1Y4Y0Y0) => [(6, (.pointer (some ⟨bY1Y6Y0Y0, 0, none⟩))), (7, (.bool true)), (8, (.agg ⟨ms.map vu8⟩)), (9, (.slice a n cap)), (10, (.slice aY1Y3Y0Y0 n capY1Y3Y0Y0)), (11, (.map (some bY1Y4Y0Y0))), (12, (.agg ⟨flat [(1, [(.bool true)]), (32, ms.map vu8), (1, [(.slice aY1Y3Y0Y0 n capY1Y3Y0Y0)]), (1, [(vi 0)]), (1, [(.map (some bY1Y4Y0Y0))]), (1, [(.slice none 0 0)])]⟩)), (13, (.pointer (some ⟨bY1Y6Y0Y0, 0, none⟩)))]) (fun (bY1Y6Y0Y0, aY1Y3Y0Y0, capY1Y3Y0Y0, bY1Y4Y0Y0) w1 => HP w00 w1 (Ent.blk bY1Y6Y0Y0 .nw 47 [(1, [(.bool true)]), (32, ms.map vu8), (1, [(.slice aY1Y3Y0Y0 n capY1Y3Y0Y0)]), (1, [(vi 0)]), (1, [(.map (some bY1Y4Y0Y0))]), (1, [(.slice none 0 0)])] :: Ent.obj bY1Y4Y0Y0 .nw (.map (#[]) 0) :: Ent.row aY1Y3Y0Y0 n capY1Y3Y0Y0 29 32 (df.map vu8) :: Ent.blk b_1 .nw 29 [(32, ms.map vu8)] :: Ent.view a (df.map vu8) :: L)) ?_ ?_
  · refine WP.drawT (SL w00.heap.size [.blk b_1 .nw 29 [(32, ms.map vu8)], .view a (df.map vu8)]) (.q 0 (.q 1 (.q 2 (.s2 3 4 (.s 4 (.q 5 (.s 6 (.q 7 .nil)))) (.s 3 (.q 5 (.s 6 (.q 7 .nil)))))))) (by kernel_rfl) (by kernel_rfl) rfl (by kernel_rfl) (fun w_4 hc_6 => (SL.cons ((h_3.same hc_6).ok _ (.head _)) (SL.cons ((h_3.same hc_6).ok _ (.tail _ (.head _))) (SL.nil _ _)))) (fun w_4 hc_6 => ?_)
    have h_5 := h_3.same hc_6
    refine WT.q rfl (Wn.no rfl) rfl rfl (fun wq hS => R.move (v := (.bool true)) rfl) ?_
    refine WT.q rfl (Wn.no rfl) rfl rfl (fun wq hS => R.loadA (b := b_1) (off := 0) [] [(32, ms.map vu8)] [] (cs := ms.map vu8) rfl Try.isAgg29 Try.sizeOf29 (hS _ (.head _)) rfl rfl rfl rfl) ?_
    refine WT.q rfl (Wn.no rfl) rfl rfl (fun wq hS => R.move (v := (.slice a n cap)) rfl) ?_
    refine WT.s2 ?_ ?_
    · refine Op1.one rfl (Wn.no rfl) ?_
      refine WL.call (al := [(.slice a n cap)]) Try.call46 rfl rfl (c_CloneD a n cap df hl (by omega) _ (viewV (h_5.ok _ (.tail _ (.head _))))) rfl ?_
      rintro _ w_9 ⟨a_7, cap_8, rfl, hc_10, ho_11⟩
      have h_12 := h_5.gotRow hc_10 ho_11
      refine WL.nil ?_
      refine ⟨(SL.cons (h_12.ok _ (.tail _ (.head _))) (SL.cons (h_12.ok _ (.tail _ (.tail _ (.head _)))) (SL.nil _ _))), ?_⟩
      refine WT.s ?_
      refine Op1.one rfl (Wn.no rfl) ?_
      refine WL.makeMap h_12 rfl (fun b_13 w_14 h_15 => ?_)
      refine WL.nil ?_
      refine ⟨(SL.cons (h_15.ok _ (.tail _ (.tail _ (.head _)))) (SL.cons (h_15.ok _ (.tail _ (.tail _ (.tail _ (.head _))))) (SL.nil _ _))), ?_⟩
      refine WT.q rfl (Wn.no rfl) rfl rfl (fun wq hS => R.buildS (pl := [(0, 1), (1, 32), (33, 1), (34, 1), (35, 1), (36, 1)]) (zs := [(1, [(.bool false)]), (32, (List.replicate 32 (0 : UInt8)).map vu8), (1, [(.slice none 0 0)]), (1, [(vi 0)]), (1, [(.map none)]), (1, [(.slice none 0 0)])]) (vs := [(0, (.bool true)), (1, (.agg ⟨ms.map vu8⟩)), (2, (.slice a_7 n cap_8)), (4, (.map (some b_13)))]) (out := [(1, [(.bool true)]), (32, ms.map vu8), (1, [(.slice a_7 n cap_8)]), (1, [(vi 0)]), (1, [(.map (some b_13))]), (1, [(.slice none 0 0)])]) (cs := flat [(1, [(.bool true)]), (32, ms.map vu8), (1, [(.slice a_7 n cap_8)]), (1, [(vi 0)]), (1, [(.map (some b_13))]), (1, [(.slice none 0 0)])]) Try.underlying47 (zv Try.typeInfo47 rfl) rfl (SsOk.cons (SOk.v rfl) (SsOk.cons (SOk.u8 (List.length_replicate ..)) (SsOk.cons (SOk.v rfl) (SsOk.cons (SOk.v rfl) (SsOk.cons (SOk.v rfl) (SsOk.cons (SOk.v rfl) SsOk.nil)))))) (pl47 _ Try.underlying47) rfl (FillR.cons [] [(1, [(.bool false)])] [(1, [(.bool true)])] [(32, (List.replicate 32 (0 : UInt8)).map vu8), (1, [(.slice none 0 0)]), (1, [(vi 0)]), (1, [(.map none)]), (1, [(.slice none 0 0)])] rfl rfl rfl rfl (SsOk.cons (SOk.v rfl) SsOk.nil) rfl rfl rfl (FillR.cons [(1, [(.bool true)])] [(32, (List.replicate 32 (0 : UInt8)).map vu8)] [(32, ms.map vu8)] [(1, [(.slice none 0 0)]), (1, [(vi 0)]), (1, [(.map none)]), (1, [(.slice none 0 0)])] rfl rfl rfl rfl (SsOk.cons (SOk.u8 hms) SsOk.nil) rfl rfl rfl (FillR.cons [(1, [(.bool true)]), (32, ms.map vu8)] [(1, [(.slice none 0 0)])] [(1, [(.slice a_7 n cap_8)])] [(1, [(vi 0)]), (1, [(.map none)]), (1, [(.slice none 0 0)])] rfl rfl rfl rfl (SsOk.cons (SOk.v rfl) SsOk.nil) rfl rfl rfl (FillR.cons [(1, [(.bool true)]), (32, ms.map vu8), (1, [(.slice a_7 n cap_8)]), (1, [(vi 0)])] [(1, [(.map none)])] [(1, [(.map (some b_13))])] [(1, [(.slice none 0 0)])] rfl rfl rfl rfl (SsOk.cons (SOk.v rfl) SsOk.nil) rfl rfl rfl FillR.nil)))) rfl) ?_
      refine WT.s ?_
      refine Op1.one rfl (Wn.no rfl) ?_
      refine WL.box (v := (.agg ⟨flat [(1, [(.bool true)]), (32, ms.map vu8), (1, [(.slice a_7 n cap_8)]), (1, [(vi 0)]), (1, [(.map (some b_13))]), (1, [(.slice none 0 0)])]⟩)) (segs := [(1, [(.bool true)]), (32, ms.map vu8), (1, [(.slice a_7 n cap_8)]), (1, [(vi 0)]), (1, [(.map (some b_13))]), (1, [(.slice none 0 0)])]) h_15 rfl rfl (SsOk.cons (SOk.v rfl) (SsOk.cons (SOk.u8 hms) (SsOk.cons (SOk.v rfl) (SsOk.cons (SOk.v rfl) (SsOk.cons (SOk.v rfl) (SsOk.cons (SOk.v rfl) SsOk.nil)))))) rfl (fun b_17 w_18 h_19 => ?_)
      refine WL.nil ?_
      refine ⟨(SL.cons (h_19.ok _ (.tail _ (.tail _ (.tail _ (.head _))))) (SL.cons (h_19.ok _ (.tail _ (.tail _ (.tail _ (.tail _ (.head _)))))) (SL.nil _ _))), ?_⟩
      refine WT.q rfl (Wn.no rfl) rfl rfl (fun wq hS => R.assign (v := (.pointer (some ⟨b_17, 0, none⟩))) rfl) ?_
      refine WT.nil ?_
      refine thn_n ?_
      exact ⟨(b_17, a_7, cap_8, b_13), (Ag.upd rfl (Ag.upd rfl (Ag.upd rfl (Ag.upd rfl (Ag.upd rfl (Ag.upd rfl (Ag.upd rfl (Ag.upd rfl (Ag.refl _ _))))))))), ⟨rfl, rfl, rfl, rfl, rfl, rfl, rfl, rfl, trivial⟩, h_19⟩
    · refine Op1.one rfl (Wn.no rfl) ?_
      refine WL.makeMap h_5 rfl (fun b_20 w_21 h_22 => ?_)
      refine WL.nil ?_
      refine ⟨(SL.cons (h_22.ok _ (.tail _ (.head _))) (SL.cons (h_22.ok _ (.tail _ (.tail _ (.head _)))) (SL.nil _ _))), ?_⟩
      refine WT.s ?_
      refine Op1.one rfl (Wn.no rfl) ?_
      refine WL.call (al := [(.slice a n cap)]) Try.call46 rfl rfl (c_CloneD a n cap df hl (by omega) _ (viewV (h_22.ok _ (.tail _ (.tail _ (.head _)))))) rfl ?_
      rintro _ w_25 ⟨a_23, cap_24, rfl, hc_26, ho_27⟩
      have h_28 := h_22.gotRow hc_26 ho_27
      refine WL.nil ?_
      refine ⟨(SL.cons (h_28.ok _ (.tail _ (.tail _ (.head _)))) (SL.cons (h_28.ok _ (.tail _ (.tail _ (.tail _ (.head _))))) (SL.nil _ _))), ?_⟩
      refine WT.q rfl (Wn.no rfl) rfl rfl (fun wq hS => R.buildS (pl := [(0, 1), (1, 32), (33, 1), (34, 1), (35, 1), (36, 1)]) (zs := [(1, [(.bool false)]), (32, (List.replicate 32 (0 : UInt8)).map vu8), (1, [(.slice none 0 0)]), (1, [(vi 0)]), (1, [(.map none)]), (1, [(.slice none 0 0)])]) (vs := [(0, (.bool true)), (1, (.agg ⟨ms.map vu8⟩)), (2, (.slice a_23 n cap_24)), (4, (.map (some b_20)))]) (out := [(1, [(.bool true)]), (32, ms.map vu8), (1, [(.slice a_23 n cap_24)]), (1, [(vi 0)]), (1, [(.map (some b_20))]), (1, [(.slice none 0 0)])]) (cs := flat [(1, [(.bool true)]), (32, ms.map vu8), (1, [(.slice a_23 n cap_24)]), (1, [(vi 0)]), (1, [(.map (some b_20))]), (1, [(.slice none 0 0)])]) Try.underlying47 (zv Try.typeInfo47 rfl) rfl (SsOk.cons (SOk.v rfl) (SsOk.cons (SOk.u8 (List.length_replicate ..)) (SsOk.cons (SOk.v rfl) (SsOk.cons (SOk.v rfl) (SsOk.cons (SOk.v rfl) (SsOk.cons (SOk.v rfl) SsOk.nil)))))) (pl47 _ Try.underlying47) rfl (FillR.cons [] [(1, [(.bool false)])] [(1, [(.bool true)])] [(32, (List.replicate 32 (0 : UInt8)).map vu8), (1, [(.slice none 0 0)]), (1, [(vi 0)]), (1, [(.map none)]), (1, [(.slice none 0 0)])] rfl rfl rfl rfl (SsOk.cons (SOk.v rfl) SsOk.nil) rfl rfl rfl (FillR.cons [(1, [(.bool true)])] [(32, (List.replicate 32 (0 : UInt8)).map vu8)] [(32, ms.map vu8)] [(1, [(.slice none 0 0)]), (1, [(vi 0)]), (1, [(.map none)]), (1, [(.slice none 0 0)])] rfl rfl rfl rfl (SsOk.cons (SOk.u8 hms) SsOk.nil) rfl rfl rfl (FillR.cons [(1, [(.bool true)]), (32, ms.map vu8)] [(1, [(.slice none 0 0)])] [(1, [(.slice a_23 n cap_24)])] [(1, [(vi 0)]), (1, [(.map none)]), (1, [(.slice none 0 0)])] rfl rfl rfl rfl (SsOk.cons (SOk.v rfl) SsOk.nil) rfl rfl rfl (FillR.cons [(1, [(.bool true)]), (32, ms.map vu8), (1, [(.slice a_23 n cap_24)]), (1, [(vi 0)])] [(1, [(.map none)])] [(1, [(.map (some b_20))])] [(1, [(.slice none 0 0)])] rfl rfl rfl rfl (SsOk.cons (SOk.v rfl) SsOk.nil) rfl rfl rfl FillR.nil)))) rfl) ?_
      refine WT.s ?_
      refine Op1.one rfl (Wn.no rfl) ?_
      refine WL.box (v := (.agg ⟨flat [(1, [(.bool true)]), (32, ms.map vu8), (1, [(.slice a_23 n cap_24)]), (1, [(vi 0)]), (1, [(.map (some b_20))]), (1, [(.slice none 0 0)])]⟩)) (segs := [(1, [(.bool true)]), (32, ms.map vu8), (1, [(.slice a_23 n cap_24)]), (1, [(vi 0)]), (1, [(.map (some b_20))]), (1, [(.slice none 0 0)])]) h_28 rfl rfl (SsOk.cons (SOk.v rfl) (SsOk.cons (SOk.u8 hms) (SsOk.cons (SOk.v rfl) (SsOk.cons (SOk.v rfl) (SsOk.cons (SOk.v rfl) (SsOk.cons (SOk.v rfl) SsOk.nil)))))) rfl (fun b_30 w_31 h_32 => ?_)
      refine WL.nil ?_
      refine ⟨(SL.cons (h_32.ok _ (.tail _ (.tail _ (.tail _ (.head _))))) (SL.cons (h_32.ok _ (.tail _ (.tail _ (.tail _ (.tail _ (.head _)))))) (SL.nil _ _))), ?_⟩
      refine WT.q rfl (Wn.no rfl) rfl rfl (fun wq hS => R.assign (v := (.pointer (some ⟨b_30, 0, none⟩))) rfl) ?_
      refine WT.nil ?_
      refine thn_n ?_
      have h_33 := h_32.up (Pick.t (Pick.t (Pick.t (Pick.t Pick.h))))
      have h_34 := h_33.up (Pick.t (Pick.t (Pick.t (Pick.t Pick.h))))
      have h_35 := h_34.up (Pick.t (Pick.t (Pick.t Pick.h)))
      have h_36 := h_35.up (Pick.t (Pick.t (Pick.t (Pick.t Pick.h))))
      have h_37 := h_36.up (Pick.t (Pick.t (Pick.t (Pick.t Pick.h))))
      exact ⟨(b_30, a_23, cap_24, b_20), (Ag.upd rfl (Ag.upd rfl (Ag.upd rfl (Ag.upd rfl (Ag.upd rfl (Ag.upd rfl (Ag.upd rfl (Ag.upd rfl (Ag.refl _ _))))))))), ⟨rfl, rfl, rfl, rfl, rfl, rfl, rfl, rfl, trivial⟩, h_37⟩
  · rintro ⟨b_41, a_42, cap_43, b_44⟩ J_38 w_39 h_40
    refine thn_n ?_
    refine WP.ret ?_
    refine ret_of Try.results12 (RV.tmp (v := (.pointer (some ⟨b_41, 0, none⟩))) rfl RV.nil) ?_
    have h_45 := h_40.up (Pick.t (Pick.t Pick.h))
    have h_46 := h_45.rowView
    have h_47 := h_46.rowNil 71 67
    have h_48 := HP_logNil h_47
    have h_49 := h_48.up (Pick.t (Pick.t (Pick.t (Pick.t (Pick.t Pick.h)))))
    have h_50 := h_49.drop rfl
    have h_51 := h_50.up (Pick.t (Pick.t (Pick.t (Pick.t (Pick.t Pick.h)))))
    have h_52 := h_51.up (Pick.t (Pick.t (Pick.t Pick.h)))
    have h_53 := h_52.up (Pick.t (Pick.t Pick.h))
    have h_54 := h_53.up (Pick.t (Pick.t (Pick.t (Pick.t (Pick.t Pick.h)))))
    have h_55 := h_54.up (Pick.t (Pick.t (Pick.t (Pick.t Pick.h))))
    have h_56 := h_55.up (Pick.t (Pick.t (Pick.t (Pick.t (Pick.t Pick.h)))))
    exact ⟨_, _, _, _, rfl, h_56⟩

theorem c_oStream {w00 : World} {L : List Ent} (ob mp : Nat) (ms df : List UInt8) (hms : ms.length = 32) (da : Option Addr) (dn dc u : Nat) (hdf : df.length = 32 * dn) (la : Option Addr) (lc : Nat) (lx : List Value) (lg : Lg) (hu : u ≤ 500000) (hlg : lg.length ≤ 500000) (dm : Int) (key data : List UInt8) (qa : Option Addr) (qn qc : Nat) (hk : key.length = 32) (hdm : 1 ≤ dm ∧ dm ≤ 16) (hdl : data.length = qn) (hqn : qn ≤ 100000) (sn : Nat) (hsn : sn ≤ 1024) (w : World) (h_0 : HP w00 w (Ent.blk ob .nw 47 [(1, [(.bool true)]), (32, ms.map vu8), (1, [(.slice da dn dc)]), (1, [(vi ((u : Nat) : Int))]), (1, [(.map (some mp))]), (1, [(.slice la lg.length lc)])] :: Ent.row la lg.length lc 71 67 lx :: Ent.obj mp .nw (.map (mArr lg) lg.length) :: Ent.pin (sblks lx) (fun w => Lgs w lx lg) :: Ent.view da (df.map vu8) :: Ent.view qa (data.map vu8) :: L)) :
    Cs Try.prog 40 [(.pointer (some ⟨ob, 0, none⟩)), (.agg ⟨flat [(1, [(vi 4)]), (32, key.map vu8), (1, [(vi dm)]), (1, [(.slice qa qn qc)])]⟩), (vi ((sn : Nat) : Int))].toArray w (fun v w1 => ∃ a la' lc' lx', v = .tuple [.slice a sn sn, vi 0].toArray ∧ HP w00 w1 (.row a sn sn 5 1 ((((sS df dn key dm data u lg ((sn + 31) / 32)).2.2).take sn).map vu8) :: Ent.blk ob .nw 47 [(1, [(.bool true)]), (32, ms.map vu8), (1, [(.slice da dn dc)]), (1, [(vi (((sS df dn key dm data u lg ((sn + 31) / 32)).1 : Nat) : Int))]), (1, [(.map (some mp))]), (1, [(.slice la' ((sS df dn key dm data u lg ((sn + 31) / 32)).2.1.length) lc')])] :: Ent.row la' ((sS df dn key dm data u lg ((sn + 31) / 32)).2.1.length) lc' 71 67 lx' :: Ent.obj mp .nw (.map (mArr ((sS df dn key dm data u lg ((sn + 31) / 32)).2.1)) ((sS df dn key dm data u lg ((sn + 31) / 32)).2.1.length)) :: Ent.pin (sblks lx') (fun w => Lgs w lx' ((sS df dn key dm data u lg ((sn + 31) / 32)).2.1)) :: Ent.view da (df.map vu8) :: Ent.view qa (data.map vu8) :: L)) := by
  have h32 : ok32 lg := Lgs.ok32 (h_0.ok _ (.tail _ (.tail _ (.tail _ (.head _))))).1
  refine Cs.of (n := 88) (args := [(.pointer (some ⟨ob, 0, none⟩)), (.agg ⟨flat [(1, [(vi 4)]), (32, key.map vu8), (1, [(vi dm)]), (1, [(.slice qa qn qc)])]⟩), (vi ((sn : Nat) : Int))]) Try.func40 rfl rfl rfl ?_
  refine WP.seq ?_
  refine WP.reg ?_
  refine WL.box (v := (.agg ⟨flat [(1, [(vi 4)]), (32, key.map vu8), (1, [(vi dm)]), (1, [(.slice qa qn qc)])]⟩)) (segs := [(1, [(vi 4)]), (32, key.map vu8), (1, [(vi dm)]), (1, [(.slice qa qn qc)])]) h_0 rfl rfl (SsOk.cons (SOk.v rfl) (SsOk.cons (SOk.u8 hk) (SsOk.cons (SOk.v rfl) (SsOk.cons (SOk.v rfl) SsOk.nil)))) rfl (fun b_1 w_2 h_3 => ?_)
  refine WL.box (v := (vi ((sn : Nat) : Int))) (segs := [(1, [(vi ((sn : Nat) : Int))])]) h_3 rfl rfl (SsOk.cons (SOk.v rfl) SsOk.nil) rfl (fun b_4 w_5 h_6 => ?_)
  refine WL.q (Wn.no rfl) rfl rfl (R.assign (v := (.slice none 0 0)) rfl) ?_
  refine WL.q (Wn.no rfl) rfl rfl (R.assign (v := (vi 0)) rfl) ?_
  refine WL.nil ?_
  refine thn_n ?_
  refine WP.seq ?_
  refine WP.block ?_
  refine WP.seq ?_
  refine WP.reg ?_
  refine WL.q (Wn.no rfl) rfl rfl (R.move (v := (.pointer (some ⟨ob, 0, none⟩))) rfl) ?_
  refine WL.call (al := [(.pointer (some ⟨ob, 0, none⟩))]) Try.call53 rfl rfl (c_othere ob mp ms hms da dn dc u la lg.length lc _ (h_6.argR (.tail _ (.tail _ (.head _))))) rfl ?_
  rintro _ w_8 ⟨rfl, hc_7⟩
  have h_9 := h_6.same hc_7
  refine WL.q (Wn.no rfl) rfl rfl (R.not (b := true) rfl) ?_
  refine WL.q (Wn.no rfl) rfl rfl (R.assign (v := (.bool false)) rfl) ?_
  refine WL.nil ?_
  refine thn_n ?_
  refine WP.condF rfl ?_
  refine WP.seq ?_
  refine WP.reg ?_
  refine WL.q (Wn.no rfl) rfl rfl (R.loadA (b := b_1) (off := 0) [] [(1, [(vi 4)]), (32, key.map vu8), (1, [(vi dm)]), (1, [(.slice qa qn qc)])] [] (cs := flat [(1, [(vi 4)]), (32, key.map vu8), (1, [(vi dm)]), (1, [(.slice qa qn qc)])]) rfl Try.isAgg64 Try.sizeOf64 (h_9.ok _ (.tail _ (.head _))) rfl rfl rfl rfl) ?_
  refine WL.call (al := [(.agg ⟨flat [(1, [(vi 4)]), (32, key.map vu8), (1, [(vi dm)]), (1, [(.slice qa qn qc)])]⟩)]) Try.call54 rfl rfl (c_may 4 dm key qa qn qc hk (by omega) hdm (fun h => by omega) _ ) rfl ?_
  rintro _ w_11 ⟨rfl, hc_10⟩
  have h_12 := h_9.same hc_10
  refine WL.q (Wn.no rfl) rfl rfl (R.not (b := true) rfl) ?_
  refine WL.q (Wn.no rfl) rfl rfl (R.move (v := (.bool false)) rfl) ?_
  refine WL.want rfl rfl ?_
  refine WL.q (Wn.no rfl) rfl rfl (R.fieldAddr (b := b_1) (off := 0) (off' := 0) rfl Try.underlying64 rfl Try.sizeOf60 rfl rfl) ?_
  refine WL.want rfl rfl ?_
  refine WL.q (Wn.no rfl) rfl rfl (R.load1 (b := b_1) (off := 0) (v := (vi 4)) rfl Try.isAgg60 (h_12.ok _ (.tail _ (.head _))) Sg.h) ?_
  refine WL.want rfl rfl ?_
  refine WL.q (Wn.no rfl) rfl rfl (R.bin (v := (.bool false)) rfl rfl (bi_neq (r := false) (by decide))) ?_
  refine WL.q (Wn.no rfl) rfl rfl (R.pickF (v := (.bool false)) rfl rfl) ?_
  refine WL.q (Wn.no rfl) rfl rfl (R.move (v := (.bool false)) rfl) ?_
  refine WL.want rfl rfl ?_
  refine WL.q (Wn.no rfl) rfl rfl (R.load1 (b := b_4) (off := 0) (v := (vi ((sn : Nat) : Int))) rfl Try.isAgg3 (h_12.ok _ (.head _)) Sg.h) ?_
  refine WL.want rfl rfl ?_
  refine WL.q (Wn.no rfl) rfl rfl (R.bin (v := (.bool (decide ((((sn : Nat) : Int) : Int) < 0)))) rfl rfl (bi_lss (r := decide ((((sn : Nat) : Int) : Int) < 0)) rfl)) ?_
  refine WL.q (Wn.no rfl) rfl rfl (R.pickF (v := (.bool (decide ((((sn : Nat) : Int) : Int) < 0)))) rfl rfl) ?_
  refine WL.q (Wn.no rfl) rfl rfl (R.move (v := (.bool (decide ((((sn : Nat) : Int) : Int) < 0)))) rfl) ?_
  refine WL.want rfl (congrArg Value.bool (decide_eq_false (by omega))) ?_
  refine WL.q (Wn.no rfl) rfl rfl (R.load1 (b := b_4) (off := 0) (v := (vi ((sn : Nat) : Int))) rfl Try.isAgg3 (h_12.ok _ (.head _)) Sg.h) ?_
  refine WL.want rfl (congrArg Value.bool (decide_eq_false (by omega))) ?_
  refine WL.q (Wn.no rfl) rfl rfl (R.bin (v := (.bool (decide ((((sn : Nat) : Int) : Int) > 1024)))) rfl rfl (bi_gtr (r := decide ((((sn : Nat) : Int) : Int) > 1024)) rfl)) ?_
  refine WL.q (Wn.no rfl) rfl rfl (R.pickF (v := (.bool (decide ((((sn : Nat) : Int) : Int) > 1024)))) (congrArg Value.bool (decide_eq_false (by omega))) rfl) ?_
  refine WL.q (Wn.no rfl) rfl rfl (R.assign (v := (.bool (decide ((((sn : Nat) : Int) : Int) > 1024)))) rfl) ?_
  refine WL.nil ?_
  refine thn_n ?_
  refine WP.condF (congrArg Value.bool (decide_eq_false (by omega))) ?_
  refine WP.skip ?_
  refine inb_n ?_
  refine thn_n ?_
  refine WP.seq ?_
  refine WP.seq ?_
  refine WP.reg ?_
  refine WL.q (Wn.no rfl) rfl rfl (R.move (v := (.pointer (some ⟨ob, 0, none⟩))) rfl) ?_
  refine WL.q (Wn.no rfl) rfl rfl (R.nilCheck rfl) ?_
  refine WL.q (Wn.no rfl) rfl rfl (R.fieldAddr (b := ob) (off := 0) (off' := 0) rfl Try.underlying47 rfl Try.sizeOf4 rfl rfl) ?_
  refine WL.q (Wn.no rfl) rfl rfl (R.load1 (b := ob) (off := 0) (v := (.bool true)) rfl Try.isAgg4 (h_12.ok _ (.tail _ (.tail _ (.head _)))) Sg.h) ?_
  refine WL.nil ?_
  refine thn_n ?_
  refine WP.condT rfl ?_
  refine WP.seq ?_
  refine WP.reg ?_
  refine WL.q (Wn.no rfl) rfl rfl (R.assign (v := (.slice none 0 0)) rfl) ?_
  refine WL.nil ?_
  refine thn_n ?_
  refine WP.seq ?_
  refine WP.seq ?_
  refine WP.reg ?_
  refine WL.q (Wn.no rfl) rfl rfl (R.assign (v := (vu64 0)) rfl) ?_
  refine WL.nil ?_
  refine thn_n ?_
  refine WP.block ?_
  have h_13 := h_12.rowNil 5 1
  have h_14 := h_13.up (Pick.t (Pick.t (Pick.t (Pick.t (Pick.t (Pick.t (Pick.t (Pick.t Pick.h))))))))
  have h_15 := h_14.up (Pick.t (Pick.t (Pick.t Pick.h)))
  have h_16 := h_15.up (Pick.t (Pick.t (Pick.t Pick.h)))
  have h_17 := h_16.up (Pick.t (Pick.t (Pick.t Pick.h)))
  have h_18 := h_17.up (Pick.t (Pick.t (Pick.t (Pick.t (Pick.t (Pick.t (Pick.t (Pick.t Pick.h))))))))
  have h_19 := h_18.up (Pick.t (Pick.t (Pick.t (Pick.t (Pick.t (Pick.t (Pick.t (Pick.t Pick.h))))))))
  have h_20 := h_19.up (Pick.t (Pick.t (Pick.t (Pick.t (Pick.t (Pick.t (Pick.t (Pick.t Pick.h))))))))
  have h_21 := h_20.up (Pick.t (Pick.t (Pick.t (Pick.t (Pick.t (Pick.t (Pick.t (Pick.t Pick.h))))))))
  have h_22 := h_21.up (Pick.t (Pick.t (Pick.t (Pick.t (Pick.t (Pick.t (Pick.t (Pick.t Pick.h))))))))
  refine WP.loopG (G := Nat × Option Addr × Nat × Option Addr × Nat × List Value) [8, 9, 10, 11, 40, 41, 42, 43, 44, 45, 46, 47, 48, 49, 50, 51, 52, 53, 54, 55, 56, 57, 58, 59] (fun (k, oa, oc, la2, lc2, lx2) => [(8, (.slice oa (32 * k) oc)), (9, (vu64 (UInt64.ofNat k)))]) (fun (k, oa, oc, la2, lc2, lx2) m w1 => HP w00 w1 (Ent.blk ob .nw 47 [(1, [(.bool true)]), (32, ms.map vu8), (1, [(.slice da dn dc)]), (1, [(vi (((sS df dn key dm data u lg k).1 : Nat) : Int))]), (1, [(.map (some mp))]), (1, [(.slice la2 ((sS df dn key dm data u lg k).2.1.length) lc2)])] :: Ent.row la2 ((sS df dn key dm data u lg k).2.1.length) lc2 71 67 lx2 :: Ent.obj mp .nw (.map (mArr ((sS df dn key dm data u lg k).2.1)) ((sS df dn key dm data u lg k).2.1.length)) :: Ent.pin (sblks lx2) (fun w => Lgs w lx2 ((sS df dn key dm data u lg k).2.1)) :: Ent.view da (df.map vu8) :: Ent.row oa (32 * k) oc 5 1 (((sS df dn key dm data u lg k).2.2).map vu8) :: Ent.blk b_4 .nw 3 [(1, [(vi ((sn : Nat) : Int))])] :: Ent.blk b_1 .nw 64 [(1, [(vi 4)]), (32, key.map vu8), (1, [(vi dm)]), (1, [(.slice qa qn qc)])] :: Ent.view qa (data.map vu8) :: L) ∧ (32 * k ≤ sn + 31) ∧ m = sn + 32 - 32 * k) ⟨(0, none, 0, la, lc, lx), _, ⟨rfl, rfl, trivial⟩, h_22, (by omega), rfl⟩ ?_
  rintro ⟨k, oa, oc, la2, lc2, lx2⟩ m_25 J_26 w_23 ⟨h_24, hkk, rfl⟩
  have hsu := sS_u (df := df) (dn := dn) (key := key) (dm := dm) (data := data) (u := u) (lg := lg) k
  have hsl := sS_l (df := df) (dn := dn) (key := key) (dm := dm) (data := data) (u := u) (lg := lg) k
  have hs32 := sS_32 (key := key) (dm := dm) (data := data) (u := u) hdf h32 k
  have hk8 : k < 100 → (UInt64.ofNat k).toNat = k := fun _ => by simp; omega
  refine WP.seq ?_
  refine WP.seq ?_
  refine WP.reg ?_
  refine WL.q (Wn.no rfl) rfl rfl (R.move (v := (.slice oa (32 * k) oc)) rfl) ?_
  refine WL.q (Wn.no rfl) rfl rfl (R.lenS (a := oa) (m := 32 * k) rfl rfl Try.underlying62) ?_
  refine WL.q (Wn.no rfl) rfl rfl (R.load1 (b := b_4) (off := 0) (v := (vi ((sn : Nat) : Int))) rfl Try.isAgg3 (h_24.ok _ (.tail _ (.tail _ (.tail _ (.tail _ (.tail _ (.tail _ (.head _)))))))) Sg.h) ?_
  refine WL.q (Wn.no rfl) rfl rfl (R.bin (v := (.bool (decide ((((32 * k : Nat) : Int) : Int) < ((sn : Nat) : Int))))) rfl rfl (bi_lss (r := decide ((((32 * k : Nat) : Int) : Int) < ((sn : Nat) : Int))) rfl)) ?_
  refine WL.nil ?_
  refine thn_n ?_
  refine WP.cond (b := decide ((((32 * k : Nat) : Int) : Int) < ((sn : Nat) : Int))) rfl (fun c_27 => ?_) (fun c_27 => ?_)
  · have p_28 := of_decide_eq_true c_27
    refine WP.skip ?_
    refine thn_n ?_
    refine WP.seq ?_
    refine WP.block ?_
    refine WP.seq ?_
    refine WP.reg ?_
    refine WL.q (Wn.no rfl) rfl rfl (R.loadA (b := b_1) (off := 0) [] [(1, [(vi 4)]), (32, key.map vu8), (1, [(vi dm)]), (1, [(.slice qa qn qc)])] [] (cs := flat [(1, [(vi 4)]), (32, key.map vu8), (1, [(vi dm)]), (1, [(.slice qa qn qc)])]) rfl Try.isAgg64 Try.sizeOf64 (h_24.ok _ (.tail _ (.tail _ (.tail _ (.tail _ (.tail _ (.tail _ (.tail _ (.head _))))))))) rfl rfl rfl rfl) ?_
    refine WL.alloc (segs := [(1, [(vi 0)]), (32, (List.replicate 32 (0 : UInt8)).map vu8), (1, [(vi 0)]), (1, [(.slice none 0 0)])]) h_24 (zv Try.typeInfo64 rfl) rfl (SsOk.cons (SOk.v rfl) (SsOk.cons (SOk.u8 (List.length_replicate ..)) (SsOk.cons (SOk.v rfl) (SsOk.cons (SOk.v rfl) SsOk.nil)))) rfl (fun b_29 w_30 h_31 => ?_)
    refine WL.storeA (b := b_29) (off := 0) [] [(1, [(vi 0)]), (32, (List.replicate 32 (0 : UInt8)).map vu8), (1, [(vi 0)]), (1, [(.slice none 0 0)])] [(1, [(vi 4)]), (32, key.map vu8), (1, [(vi dm)]), (1, [(.slice qa qn qc)])] [] (ys := flat [(1, [(vi 4)]), (32, key.map vu8), (1, [(vi dm)]), (1, [(.slice qa qn qc)])]) h_31 rfl rfl Try.sizeOf64 At.h (by decide) rfl rfl rfl rfl rfl rfl (SsOk.cons (SOk.v rfl) (SsOk.cons (SOk.u8 hk) (SsOk.cons (SOk.v rfl) (SsOk.cons (SOk.v rfl) SsOk.nil)))) (fun w_32 h_33 => ?_)
    refine WL.nil ?_
    refine thn_n ?_
    refine WP.seq ?_
    refine WP.reg ?_
    refine WL.q (Wn.no rfl) rfl rfl (R.fieldAddr (b := b_1) (off := 0) (off' := 34) rfl Try.underlying64 rfl Try.sizeOf62 rfl rfl) ?_
    refine WL.q (Wn.no rfl) rfl rfl (R.load1 (b := b_1) (off := 34) (v := (.slice qa qn qc)) rfl Try.isAgg62 (h_33.ok _ (.tail _ (.tail _ (.tail _ (.tail _ (.tail _ (.tail _ (.tail _ (.tail _ (.head _)))))))))) (Sg.t rfl (Sg.t rfl (Sg.t rfl Sg.h)))) ?_
    refine WL.call (al := [(.slice qa qn qc)]) Try.call62 rfl rfl (c_Clone qa qn qc data hdl (by omega) _ (viewV (h_33.ok _ (.tail _ (.tail _ (.tail _ (.tail _ (.tail _ (.tail _ (.tail _ (.tail _ (.tail _ (.head _))))))))))))) rfl ?_
    rintro _ w_36 ⟨a_34, cap_35, rfl, hc_37, ho_38⟩
    have h_39 := h_33.gotRow hc_37 ho_38
    refine WL.q (Wn.no rfl) rfl rfl (R.move (v := (vu64 (UInt64.ofNat k))) rfl) ?_
    refine WL.call (al := [(vu64 (UInt64.ofNat k))]) Try.call70 rfl rfl (c_oword (UInt64.ofNat k) _) rfl ?_
    rintro _ w_42 ⟨a_40, cap_41, rfl, hc_43, ho_44⟩
    have h_45 := h_39.gotRow hc_43 ho_44
    refine WL.append (km := qn + 8) (xs := data.map vu8) (ys := (leN 8 (UInt64.ofNat k).toNat).map vu8) (zs := (data ++ (leN 8 (UInt64.ofNat k).toNat)).map vu8) h_45 rfl rfl el62 (ownView (h_45.ok _ (.head _))) ((len_map (leN_len ..)).trans (Nat.mul_one _).symm) (one_u8 _) (by simp only [List.map_append, List.map_nil]) (by omega) (by omega) (by omega) (fun _ _ => (At.t At.h)) rfl (fun a_46 c_47 w_48 h_49 => ?_)
    refine WL.q (Wn.no rfl) rfl rfl (R.fieldAddr (b := b_29) (off := 0) (off' := 34) rfl Try.underlying64 rfl Try.sizeOf62 rfl rfl) ?_
    refine WL.store1 (b := b_29) (off := 34) (v := (.slice a_46 (qn + 8) c_47)) h_49 rfl rfl Try.sizeOf62 rfl (At.t (At.t At.h)) (by decide) (Sg.t rfl (Sg.t rfl (Sg.t rfl Sg.h))) (fun w_50 h_51 => ?_)
    refine WL.nil ?_
    refine thn_n ?_
    refine WP.seq ?_
    refine WP.reg ?_
    refine WL.q (Wn.no rfl) rfl rfl (R.move (v := (.pointer (some ⟨ob, 0, none⟩))) rfl) ?_
    refine WL.q (Wn.no rfl) rfl rfl (R.loadA (b := b_29) (off := 0) [] [(1, [(vi 4)]), (32, key.map vu8), (1, [(vi dm)]), (1, [(.slice a_46 (qn + 8) c_47)])] [] (cs := flat [(1, [(vi 4)]), (32, key.map vu8), (1, [(vi dm)]), (1, [(.slice a_46 (qn + 8) c_47)])]) rfl Try.isAgg64 Try.sizeOf64 (h_51.ok _ (.tail _ (.tail _ (.head _)))) rfl rfl rfl rfl) ?_
    have h_52 := h_51.up (Pick.t Pick.h)
    have h_53 := h_52.rowView
    have h_54 := h_53.up (Pick.t (Pick.t (Pick.t (Pick.t (Pick.t (Pick.t (Pick.t Pick.h)))))))
    have h_55 := h_54.up (Pick.t (Pick.t (Pick.t (Pick.t (Pick.t (Pick.t (Pick.t Pick.h)))))))
    have h_56 := h_55.up (Pick.t (Pick.t (Pick.t (Pick.t (Pick.t (Pick.t (Pick.t Pick.h)))))))
    have h_57 := h_56.up (Pick.t (Pick.t (Pick.t (Pick.t (Pick.t (Pick.t (Pick.t Pick.h)))))))
    have h_58 := h_57.up (Pick.t (Pick.t (Pick.t (Pick.t (Pick.t (Pick.t (Pick.t Pick.h)))))))
    have h32_w_62 := hs32
    refine WL.call (al := [(.pointer (some ⟨ob, 0, none⟩)), (.agg ⟨flat [(1, [(vi 4)]), (32, key.map vu8), (1, [(vi dm)]), (1, [(.slice a_46 (qn + 8) c_47)])]⟩), .nilFunc]) Try.call55 rfl rfl (c_ans ob mp ms df hms da dn dc ((sS df dn key dm data u lg k).1) hdf la2 lc2 lx2 ((sS df dn key dm data u lg k).2.1) (by omega) (by omega) 4 dm key (data ++ (leN 8 (UInt64.ofNat k).toNat)) a_46 (qn + 8) c_47 ⟨hk, by show (1 : Int) ≤ 4 ∧ (4 : Int) ≤ 4; decide, hdm, by simp only [List.length_append, leN_len]; omega⟩ (lenApp (a := qn) (b := 8) hdl (leN_len ..) (by omega) : List.length (data ++ (leN 8 (UInt64.ofNat k).toNat)) = qn + 8) .nilFunc _ h_58) rfl ?_
    rintro _ w_62 ⟨la_59, lc_60, lx_61, rfl, h_63⟩
    refine WL.alloc (segs := [(32, (List.replicate 32 (0 : UInt8)).map vu8)]) h_63 (zv Try.typeInfo29 rfl) rfl (SsOk.cons (SOk.u8 (List.length_replicate ..)) SsOk.nil) rfl (fun b_64 w_65 h_66 => ?_)
    refine WL.storeA (b := b_64) (off := 0) [] [(32, (List.replicate 32 (0 : UInt8)).map vu8)] [(32, (ansD df dn ((sS df dn key dm data u lg k).1) ((sS df dn key dm data u lg k).2.1) (4, key, dm, (data ++ (leN 8 (UInt64.ofNat k).toNat)))).map vu8)] [] (ys := (ansD df dn ((sS df dn key dm data u lg k).1) ((sS df dn key dm data u lg k).2.1) (4, key, dm, (data ++ (leN 8 (UInt64.ofNat k).toNat)))).map vu8) h_66 rfl rfl Try.sizeOf29 At.h (by decide) rfl rfl rfl rfl rfl rfl (SsOk.cons (SOk.u8 (ansD_len hdf h32_w_62)) SsOk.nil) (fun w_67 h_68 => ?_)
    refine WL.nil ?_
    refine thn_n ?_
    refine WP.reg ?_
    refine WL.q (Wn.no rfl) rfl rfl (R.move (v := (.slice oa (32 * k) oc)) rfl) ?_
    refine WL.q (Wn.no rfl) rfl rfl (R.sliceA (b := b_64) (off := 0) (off' := 0) (l := 0) (h := 32) rfl EvB.dflt EvB.dflt (by decide) (by decide) Try.underlying29 Try.sizeOf5 rfl) ?_
    refine WL.append (km := 32 * k + 32) (xs := ((sS df dn key dm data u lg k).2.2).map vu8) (ys := (ansD df dn ((sS df dn key dm data u lg k).1) ((sS df dn key dm data u lg k).2.1) (4, key, dm, (data ++ (leN 8 (UInt64.ofNat k).toNat)))).map vu8) (zs := (((sS df dn key dm data u lg k).2.2) ++ (ansD df dn ((sS df dn key dm data u lg k).1) ((sS df dn key dm data u lg k).2.1) (4, key, dm, (data ++ (leN 8 (UInt64.ofNat k).toNat))))).map vu8) h_68 rfl rfl el62 (viewB (h_68.ok _ (.head _)) Sg.h) ((len_map (ansD_len hdf h32_w_62)).trans (Nat.mul_one _).symm) (one_u8 _) (by simp only [List.map_append, List.map_nil]) (by omega) (by omega) (by omega) (fun _ _ => (At.t (At.t (At.t (At.t (At.t (At.t (At.t (At.t (At.t At.h)))))))))) rfl (fun a_69 c_70 w_71 h_72 => ?_)
    refine WL.q (Wn.no rfl) rfl rfl (R.assign (v := (.slice a_69 (32 * k + 32) c_70)) rfl) ?_
    refine WL.nil ?_
    refine inb_n ?_
    refine thn_n ?_
    refine WP.reg ?_
    refine WL.q (Wn.no rfl) rfl rfl (R.move (v := (vu64 (UInt64.ofNat k))) rfl) ?_
    refine WL.q (Wn.no rfl) rfl rfl (R.bin (v := (vu64 ((UInt64.ofNat k) + 1))) rfl rfl (b64_add (UInt64.ofNat k) 1)) ?_
    refine WL.q (Wn.no rfl) rfl rfl (R.assign (v := (vu64 ((UInt64.ofNat k) + 1))) rfl) ?_
    refine WL.nil ?_
    refine thn_n ?_
    have h_73 := h_72.drop rfl
    have h_74 := h_73.up (Pick.t (Pick.t (Pick.t (Pick.t (Pick.t Pick.h)))))
    have h_75 := h_74.drop rfl
    have h_76 := h_75.up (Pick.t (Pick.t (Pick.t (Pick.t (Pick.t Pick.h)))))
    have h_77 := h_76.drop rfl
    have h_78 := h_77.up (Pick.t (Pick.t (Pick.t (Pick.t (Pick.t Pick.h)))))
    have h_79 := h_78.drop rfl
    have h_80 := h_79.up (Pick.t (Pick.t (Pick.t (Pick.t (Pick.t (Pick.t (Pick.t (Pick.t Pick.h))))))))
    have h_81 := h_80.up (Pick.t (Pick.t (Pick.t (Pick.t (Pick.t (Pick.t (Pick.t (Pick.t Pick.h))))))))
    have h_82 := h_81.up (Pick.t (Pick.t (Pick.t (Pick.t (Pick.t (Pick.t (Pick.t (Pick.t Pick.h))))))))
    have h_83 := h_82.up (Pick.t (Pick.t (Pick.t (Pick.t (Pick.t (Pick.t (Pick.t (Pick.t Pick.h))))))))
    have h_84 := h_83.up (Pick.t (Pick.t (Pick.t (Pick.t (Pick.t (Pick.t (Pick.t (Pick.t Pick.h))))))))
    have h_85 := h_84.up (Pick.t (Pick.t (Pick.t (Pick.t (Pick.t (Pick.t (Pick.t (Pick.t Pick.h))))))))
    have h_86 := h_85.up (Pick.t (Pick.t (Pick.t (Pick.t (Pick.t (Pick.t (Pick.t (Pick.t Pick.h))))))))
    have h_87 := h_86.up (Pick.t (Pick.t (Pick.t (Pick.t (Pick.t (Pick.t (Pick.t (Pick.t Pick.h))))))))
    have h_88 := h_87.up (Pick.t (Pick.t (Pick.t (Pick.t (Pick.t (Pick.t (Pick.t (Pick.t Pick.h))))))))
    rw [hk8 (by omega)] at h_88
    exact ⟨(k + 1, a_69, c_70, la_59, lc_60, lx_61), _, (by omega), (Ag.upd rfl (Ag.upd rfl (Ag.upd rfl (Ag.upd rfl (Ag.upd rfl (Ag.upd rfl (Ag.upd rfl (Ag.upd rfl (Ag.upd rfl (Ag.upd rfl (Ag.upd rfl (Ag.upd rfl (Ag.upd rfl (Ag.upd rfl (Ag.upd rfl (Ag.upd rfl (Ag.upd rfl (Ag.upd rfl (Ag.upd rfl (Ag.upd rfl (Ag.upd rfl (Ag.upd rfl (Ag.upd rfl (Ag.upd rfl (Ag.updL rfl (Ag.mix _ _ _)))))))))))))))))))))))))), ⟨rfl, congrArg vu64 (by simp [UInt64.ofNat_add]), trivial⟩, h_88, (by omega), rfl⟩
  · have p_89 := of_decide_eq_false c_27
    refine WP.exit ?_
    refine thn_x ?_
    refine thn_x ?_
    refine inb_hit ?_
    refine thn_n ?_
    refine WP.seq ?_
    refine WP.reg ?_
    refine WL.q (Wn.no rfl) rfl rfl (R.move (v := (.slice oa (32 * k) oc)) rfl) ?_
    refine WL.q (Wn.no rfl) rfl rfl (R.load1 (b := b_4) (off := 0) (v := (vi ((sn : Nat) : Int))) rfl Try.isAgg3 (h_24.ok _ (.tail _ (.tail _ (.tail _ (.tail _ (.tail _ (.tail _ (.head _)))))))) Sg.h) ?_
    refine WL.q (Wn.no rfl) rfl rfl (R.load1 (b := b_4) (off := 0) (v := (vi ((sn : Nat) : Int))) rfl Try.isAgg3 (h_24.ok _ (.tail _ (.tail _ (.tail _ (.tail _ (.tail _ (.tail _ (.head _)))))))) Sg.h) ?_
    refine WL.q (Wn.no rfl) rfl rfl (R.sliceR3 (h := sn) rfl EvB.dflt rfl rfl rfl rfl (Nat.le_trans (by omega) (h_24.own (.tail _ (.tail _ (.tail _ (.tail _ (.tail _ (.head _))))))).2.2.1) Try.underlying62 Try.sizeOf5 (h_24.ok _ (.tail _ (.tail _ (.tail _ (.tail _ (.tail _ (.head _)))))))) ?_
    have h_90 := HP.rowCap (k := sn) (ys := (((sS df dn key dm data u lg k).2.2).take sn).map vu8) h_24 (At.t (At.t (At.t (At.t (At.t At.h))))) (by omega) (by rw [Nat.mul_one, ← List.map_take])
    refine WL.q (Wn.no rfl) rfl rfl (R.assign (v := (.slice oa sn sn)) rfl) ?_
    refine WL.q (Wn.no rfl) rfl rfl (R.assign (v := (vi 0)) rfl) ?_
    refine WL.nil ?_
    refine thn_n ?_
    refine WP.ret ?_
    refine thn_r ?_
    refine ret_of Try.results40 (RV.tmp (v := (.slice oa sn sn)) rfl (RV.tmp (v := (vi 0)) rfl RV.nil)) ?_
    have h_91 := h_90.up (Pick.t (Pick.t (Pick.t (Pick.t (Pick.t (Pick.t Pick.h))))))
    have h_92 := h_91.drop rfl
    have h_93 := h_92.up (Pick.t (Pick.t (Pick.t (Pick.t (Pick.t (Pick.t Pick.h))))))
    have h_94 := h_93.drop rfl
    have h_95 := h_94.up (Pick.t (Pick.t (Pick.t (Pick.t (Pick.t (Pick.t Pick.h))))))
    have h_96 := h_95.up (Pick.t (Pick.t (Pick.t (Pick.t (Pick.t Pick.h)))))
    have h_97 := h_96.up (Pick.t (Pick.t (Pick.t (Pick.t (Pick.t Pick.h)))))
    have h_98 := h_97.up (Pick.t (Pick.t (Pick.t (Pick.t (Pick.t Pick.h)))))
    have h_99 := h_98.up (Pick.t (Pick.t (Pick.t (Pick.t (Pick.t Pick.h)))))
    have h_100 := h_99.up (Pick.t (Pick.t (Pick.t (Pick.t (Pick.t Pick.h)))))
    have h_101 := h_100.up (Pick.t (Pick.t (Pick.t (Pick.t (Pick.t (Pick.t Pick.h))))))
    have hkn : k = (sn + 31) / 32 := by omega
    subst hkn
    exact ⟨_, _, _, _, rfl, by first | exact h_101 | (have hx := h_101; rwa [List.take_of_length_le (by rw [sS_len hdf h32]; omega)])⟩
end Go.Proofs.Ytbldmljbfokobaa
