/- An oracle: digests; zero ones: contracts. Conditions: those that each theorem states. -/
import Derived.Test.YtbldmljbfokobaaQ6
import Derived.Test.YtbldmljbfokobaaO4
namespace Go.Proofs.Ytbldmljbfokobaa
open Go.Vc Go.Orc Go.RowKit
set_option linter.unusedVariables false
set_option linter.unusedSimpArgs false
set_option maxRecDepth 20000

theorem c_othere_z (bc : Nat) (w : World) (hcb : (Ent.blk bc .ro 47 [(1, [(.bool false)]), (32, (List.replicate 32 (0 : UInt8)).map vu8), (1, [(.slice none 0 0)]), (1, [(vi 0)]), (1, [(.map none)]), (1, [(.slice none 0 0)])]).ok w.heap.size w) :
    Cs Try.prog 53 [(.pointer (some ⟨bc, 0, none⟩))].toArray w (fun v w1 => v = (.bool false) ∧ Chg w w1 []) := by
  refine Cs.of (n := 12) (args := [(.pointer (some ⟨bc, 0, none⟩))]) Try.func53 rfl rfl rfl ?_
  have h_0 := HP.init w
  have h_00 := h_0.old hcb (fun f hf => by cases hf)
  refine WP.seq ?_
  refine WP.reg ?_
  refine WL.q (Wn.no rfl) rfl rfl (R.assign (v := (.bool false)) rfl) ?_
  refine WL.nil ?_
  refine thn_n ?_
  refine WP.seq ?_
  refine WP.reg ?_
  refine WL.q (Wn.no rfl) rfl rfl (R.move (v := (.pointer (some ⟨bc, 0, none⟩))) rfl) ?_
  refine WL.q (Wn.no rfl) rfl rfl (R.neNilP rfl rfl Try.underlying26) ?_
  refine WL.q (Wn.no rfl) rfl rfl (R.move (v := (.bool true)) rfl) ?_
  refine WL.want rfl rfl ?_
  refine WL.q (Wn.no rfl) rfl rfl (R.move (v := (.pointer (some ⟨bc, 0, none⟩))) rfl) ?_
  refine WL.want rfl rfl ?_
  refine WL.q (Wn.no rfl) rfl rfl (R.nilCheck rfl) ?_
  refine WL.want rfl rfl ?_
  refine WL.q (Wn.no rfl) rfl rfl (R.fieldAddr (b := bc) (off := 0) (off' := 35) rfl Try.underlying47 rfl Try.sizeOf44 rfl rfl) ?_
  refine WL.want rfl rfl ?_
  refine WL.q (Wn.no rfl) rfl rfl (R.load1 (b := bc) (off := 35) (v := (.map none)) rfl Try.isAgg44 (h_00.ok _ (.head _)) (Sg.t rfl (Sg.t rfl (Sg.t rfl (Sg.t rfl Sg.h))))) ?_
  refine WL.want rfl rfl ?_
  refine WL.q (Wn.no rfl) rfl rfl (R.neNilM rfl rfl Try.underlying44) ?_
  refine WL.q (Wn.no rfl) rfl rfl (R.pickT (v := (.bool false)) rfl rfl) ?_
  refine WL.q (Wn.no rfl) rfl rfl (R.assign (v := (.bool false)) rfl) ?_
  refine WL.nil ?_
  refine thn_n ?_
  refine WP.ret ?_
  refine ret_of Try.results53 (RV.tmp (v := (.bool false)) rfl RV.nil) ?_
  exact ⟨rfl, h_00.chgS⟩

theorem c_oAsk_z (bc : Nat) (kd dm : Int) (key : List UInt8) (qa : Option Addr) (qn qc : Nat) (hk : key.length = 32) (w : World) (hcb : (Ent.blk bc .ro 47 [(1, [(.bool false)]), (32, (List.replicate 32 (0 : UInt8)).map vu8), (1, [(.slice none 0 0)]), (1, [(vi 0)]), (1, [(.map none)]), (1, [(.slice none 0 0)])]).ok w.heap.size w) :
    Cs Try.prog 25 [(.pointer (some ⟨bc, 0, none⟩)), (.agg ⟨flat [(1, [(vi kd)]), (32, key.map vu8), (1, [(vi dm)]), (1, [(.slice qa qn qc)])]⟩)].toArray w (fun v w1 => v = (.tuple [(.agg ⟨(List.replicate 32 (0 : UInt8)).map vu8⟩), (vi 1)].toArray) ∧ Chg w w1 []) := by
  refine Cs.of (n := 25) (args := [(.pointer (some ⟨bc, 0, none⟩)), (.agg ⟨flat [(1, [(vi kd)]), (32, key.map vu8), (1, [(vi dm)]), (1, [(.slice qa qn qc)])]⟩)]) Try.func25 rfl rfl rfl ?_
  have h_0 := HP.init w
  have h_00 := h_0.old hcb (fun f hf => by cases hf)
  refine WP.seq ?_
  refine WP.reg ?_
  refine WL.box (v := (.agg ⟨flat [(1, [(vi kd)]), (32, key.map vu8), (1, [(vi dm)]), (1, [(.slice qa qn qc)])]⟩)) (segs := [(1, [(vi kd)]), (32, key.map vu8), (1, [(vi dm)]), (1, [(.slice qa qn qc)])]) h_00 rfl rfl (SsOk.cons (SOk.v rfl) (SsOk.cons (SOk.u8 hk) (SsOk.cons (SOk.v rfl) (SsOk.cons (SOk.v rfl) SsOk.nil)))) rfl (fun b_1 w_2 h_3 => ?_)
  refine WL.alloc (segs := [(32, (List.replicate 32 (0 : UInt8)).map vu8)]) h_3 (zv Try.typeInfo29 rfl) rfl (SsOk.cons (SOk.u8 (List.length_replicate ..)) SsOk.nil) rfl (fun b_4 w_5 h_6 => ?_)
  refine WL.q (Wn.no rfl) rfl rfl (R.assign (v := (vi 0)) rfl) ?_
  refine WL.nil ?_
  refine thn_n ?_
  refine WP.seq ?_
  refine WP.block ?_
  refine WP.seq ?_
  refine WP.reg ?_
  refine WL.q (Wn.no rfl) rfl rfl (R.move (v := (.pointer (some ⟨bc, 0, none⟩))) rfl) ?_
  refine WL.call (al := [(.pointer (some ⟨bc, 0, none⟩))]) Try.call53 rfl rfl (c_othere_z bc _ (h_6.argR (.tail _ (.tail _ (.head _))))) rfl ?_
  rintro _ w_8 ⟨rfl, hc_7⟩
  have h_9 := h_6.same hc_7
  refine WL.q (Wn.no rfl) rfl rfl (R.not (b := false) rfl) ?_
  refine WL.q (Wn.no rfl) rfl rfl (R.assign (v := (.bool true)) rfl) ?_
  refine WL.nil ?_
  refine thn_n ?_
  refine WP.condT rfl ?_
  refine WP.seq ?_
  refine WP.reg ?_
  refine WL.q (Wn.no rfl) rfl rfl (R.buildA (vs := []) (cs := (List.replicate 32 (0 : UInt8)).map vu8) Try.underlying29 Try.sizeOf5 (zv Try.typeInfo29 rfl) rfl rfl) ?_
  refine WL.storeA (b := b_4) (off := 0) [] [(32, (List.replicate 32 (0 : UInt8)).map vu8)] [(32, (List.replicate 32 (0 : UInt8)).map vu8)] [] (ys := (List.replicate 32 (0 : UInt8)).map vu8) h_9 rfl rfl Try.sizeOf29 At.h (by decide) rfl rfl rfl rfl rfl rfl (SsOk.cons (SOk.u8 (List.length_replicate ..)) SsOk.nil) (fun w_10 h_11 => ?_)
  refine WL.q (Wn.no rfl) rfl rfl (R.assign (v := (vi 1)) rfl) ?_
  refine WL.nil ?_
  refine thn_n ?_
  refine WP.ret ?_
  refine inb_r ?_
  refine thn_r ?_
  refine ret_of Try.results25 (RV.cell rfl (h_11.loadA (cs := (List.replicate 32 (0 : UInt8)).map vu8) Try.isAgg29 Try.sizeOf29 (.head _) rfl rfl) (RV.tmp (v := (vi 1)) rfl RV.nil)) ?_
  exact ⟨rfl, h_11.chgS⟩

theorem c_joined (a : Option Addr) (n cap : Nat) (xs : List Value) (ls : List (List UInt8)) (hln : ls.length = n) (hb : ls.flatten.length ≤ 1099511627776) (hnb : n ≤ 1099511627776) (w : World) (hv : View w a xs) (hs : Sls w xs ls) :
    Cs Try.prog 60 [(.slice a n cap)].toArray w (fun v w1 => ∃ a cap, v = .slice a ls.flatten.length cap ∧ Chg w w1 [] ∧ Own w.heap.size w1 5 1 a ls.flatten.length cap ((ls.flatten).map vu8)) := by
  refine Cs.of (n := 5) (args := [(.slice a n cap)]) Try.func60 rfl rfl rfl ?_
  have h_0 := HP.init w
  have h_01 := h_0.old (View.arg hv) (fun f hf => by cases hf)
  have h_00 := h_01.old hs.pin (fun f hf => by rw [List.mem_singleton] at hf; subst hf; intro hm; simp [Ent.mut] at hm)
  have hxl : xs.length = n := hs.len.trans hln
  refine WP.seq ?_
  refine WP.reg ?_
  refine WL.q (Wn.no rfl) rfl rfl (R.assign (v := (.slice none 0 0)) rfl) ?_
  refine WL.nil ?_
  refine thn_n ?_
  refine WP.seq ?_
  refine WP.reg ?_
  refine WL.q (Wn.no rfl) rfl rfl (R.move (v := (.slice a n cap)) rfl) ?_
  refine WL.call (al := [(.slice a n cap)]) Try.call83 rfl rfl (c_Concat a n cap xs ls hln (by omega) (by omega) _ (viewV (h_00.ok _ (.tail _ (.head _)))) (h_00.ok _ (.head _)).1) rfl ?_
  rintro _ w_3 ⟨a_1, cap_2, rfl, hc_4, ho_5⟩
  have h_6 := h_00.gotRow hc_4 ho_5
  refine WL.q (Wn.no rfl) rfl rfl (R.assign (v := (.slice a_1 ls.flatten.length cap_2)) rfl) ?_
  refine WL.nil ?_
  refine thn_n ?_
  refine WP.ret ?_
  refine ret_of Try.results60 (RV.tmp (v := (.slice a_1 ls.flatten.length cap_2)) rfl RV.nil) ?_
  exact ⟨_, _, rfl, h_6.chgS, h_6.ok _ (.head _)⟩

theorem c_oDigest {w00 : World} {L : List Ent} (ob mp : Nat) (ms df : List UInt8) (hms : ms.length = 32) (da : Option Addr) (dn dc u : Nat) (hdf : df.length = 32 * dn) (la : Option Addr) (lc : Nat) (lx : List Value) (lg : Lg) (hu : u ≤ 1000000) (hlg : lg.length ≤ 1000000) (a : Option Addr) (n cap : Nat) (xs : List Value) (ls : List (List UInt8)) (hln : ls.length = n) (dm : Int) (hdm : 1 ≤ dm ∧ dm ≤ 16) (hb : ls.flatten.length ≤ 1000000000) (hnb : n ≤ 1000000) (w : World) (h_0 : HP w00 w (Ent.blk ob .nw 47 [(1, [(.bool true)]), (32, ms.map vu8), (1, [(.slice da dn dc)]), (1, [(vi ((u : Nat) : Int))]), (1, [(.map (some mp))]), (1, [(.slice la lg.length lc)])] :: Ent.row la lg.length lc 71 67 lx :: Ent.obj mp .nw (.map (mArr lg) lg.length) :: Ent.pin (sblks lx) (fun w => Lgs w lx lg) :: Ent.view da (df.map vu8) :: Ent.pin (sblks xs) (fun w => Sls w xs ls) :: Ent.view a xs :: L)) :
    Cs Try.prog 41 [(.pointer (some ⟨ob, 0, none⟩)), (vi dm), (.slice a n cap)].toArray w (fun v w1 => ∃ la' lc' lx', v = (.tuple [(.agg ⟨(ansD df dn u lg (1, (List.replicate 32 (0 : UInt8)), dm, ls.flatten)).map vu8⟩), (vi 0)].toArray) ∧ HP w00 w1 (Ent.blk ob .nw 47 [(1, [(.bool true)]), (32, ms.map vu8), (1, [(.slice da dn dc)]), (1, [(vi (((ansU u lg (1, (List.replicate 32 (0 : UInt8)), dm, ls.flatten)) : Nat) : Int))]), (1, [(.map (some mp))]), (1, [(.slice la' ((ansL df dn u lg (1, (List.replicate 32 (0 : UInt8)), dm, ls.flatten)).length) lc')])] :: Ent.row la' ((ansL df dn u lg (1, (List.replicate 32 (0 : UInt8)), dm, ls.flatten)).length) lc' 71 67 lx' :: Ent.obj mp .nw (.map (mArr (ansL df dn u lg (1, (List.replicate 32 (0 : UInt8)), dm, ls.flatten))) ((ansL df dn u lg (1, (List.replicate 32 (0 : UInt8)), dm, ls.flatten)).length)) :: Ent.pin (sblks lx') (fun w => Lgs w lx' (ansL df dn u lg (1, (List.replicate 32 (0 : UInt8)), dm, ls.flatten))) :: Ent.view da (df.map vu8) :: Ent.pin (sblks xs) (fun w => Sls w xs ls) :: Ent.view a xs :: L)) := by
  have hxs := (h_0.ok _ (.tail _ (.tail _ (.tail _ (.tail _ (.tail _ (.head _))))))).1
  have hxl : xs.length = n := (Sls.len hxs).trans hln
  refine Cs.of (n := 16) (args := [(.pointer (some ⟨ob, 0, none⟩)), (vi dm), (.slice a n cap)]) Try.func41 rfl rfl rfl ?_
  refine WP.seq ?_
  refine WP.reg ?_
  refine WL.alloc (segs := [(32, (List.replicate 32 (0 : UInt8)).map vu8)]) h_0 (zv Try.typeInfo29 rfl) rfl (SsOk.cons (SOk.u8 (List.length_replicate ..)) SsOk.nil) rfl (fun b_1 w_2 h_3 => ?_)
  refine WL.q (Wn.no rfl) rfl rfl (R.assign (v := (vi 0)) rfl) ?_
  refine WL.nil ?_
  refine thn_n ?_
  refine WP.seq ?_
  refine WP.reg ?_
  refine WL.q (Wn.no rfl) rfl rfl (R.move (v := (.pointer (some ⟨ob, 0, none⟩))) rfl) ?_
  refine WL.q (Wn.no rfl) rfl rfl (R.move (v := (vi dm)) rfl) ?_
  refine WL.q (Wn.no rfl) rfl rfl (R.move (v := (.slice a n cap)) rfl) ?_
  refine WL.call (al := [(.slice a n cap)]) Try.call60 rfl rfl (c_joined a n cap xs ls hln (by omega) (by omega) _ (viewV (h_3.ok _ (.tail _ (.tail _ (.tail _ (.tail _ (.tail _ (.tail _ (.tail _ (.head _)))))))))) (h_3.ok _ (.tail _ (.tail _ (.tail _ (.tail _ (.tail _ (.tail _ (.head _)))))))).1) rfl ?_
  rintro _ w_6 ⟨a_4, cap_5, rfl, hc_7, ho_8⟩
  have h_9 := h_3.gotRow hc_7 ho_8
  refine WL.q (Wn.no rfl) rfl rfl (R.buildS (pl := [(0, 1), (1, 32), (33, 1), (34, 1)]) (zs := [(1, [(vi 0)]), (32, (List.replicate 32 (0 : UInt8)).map vu8), (1, [(vi 0)]), (1, [(.slice none 0 0)])]) (vs := [(0, (vi 1)), (2, (vi dm)), (3, (.slice a_4 ls.flatten.length cap_5))]) (out := [(1, [(vi 1)]), (32, (List.replicate 32 (0 : UInt8)).map vu8), (1, [(vi dm)]), (1, [(.slice a_4 ls.flatten.length cap_5)])]) (cs := flat [(1, [(vi 1)]), (32, (List.replicate 32 (0 : UInt8)).map vu8), (1, [(vi dm)]), (1, [(.slice a_4 ls.flatten.length cap_5)])]) Try.underlying64 (zv Try.typeInfo64 rfl) rfl (SsOk.cons (SOk.v rfl) (SsOk.cons (SOk.u8 (List.length_replicate ..)) (SsOk.cons (SOk.v rfl) (SsOk.cons (SOk.v rfl) SsOk.nil)))) (pl64 _ Try.underlying64) rfl (FillR.cons [] [(1, [(vi 0)])] [(1, [(vi 1)])] [(32, (List.replicate 32 (0 : UInt8)).map vu8), (1, [(vi 0)]), (1, [(.slice none 0 0)])] rfl rfl rfl rfl (SsOk.cons (SOk.v rfl) SsOk.nil) rfl rfl rfl (FillR.cons [(1, [(vi 1)]), (32, (List.replicate 32 (0 : UInt8)).map vu8)] [(1, [(vi 0)])] [(1, [(vi dm)])] [(1, [(.slice none 0 0)])] rfl rfl rfl rfl (SsOk.cons (SOk.v rfl) SsOk.nil) rfl rfl rfl (FillR.cons [(1, [(vi 1)]), (32, (List.replicate 32 (0 : UInt8)).map vu8), (1, [(vi dm)])] [(1, [(.slice none 0 0)])] [(1, [(.slice a_4 ls.flatten.length cap_5)])] [] rfl rfl rfl rfl (SsOk.cons (SOk.v rfl) SsOk.nil) rfl rfl rfl FillR.nil))) rfl) ?_
  have h_11 := h_9.rowView
  have h_12 := h_11.up (Pick.t (Pick.t (Pick.t (Pick.t (Pick.t (Pick.t Pick.h))))))
  have h_13 := h_12.up (Pick.t (Pick.t (Pick.t (Pick.t (Pick.t (Pick.t Pick.h))))))
  have h_14 := h_13.up (Pick.t (Pick.t (Pick.t (Pick.t (Pick.t (Pick.t Pick.h))))))
  have h_15 := h_14.up (Pick.t (Pick.t (Pick.t (Pick.t (Pick.t (Pick.t Pick.h))))))
  have h_16 := h_15.up (Pick.t (Pick.t (Pick.t (Pick.t (Pick.t (Pick.t Pick.h))))))
  have h32_w_20 := (Lgs.ok32 (h_16.ok _ (.tail _ (.tail _ (.tail _ (.head _))))).1)
  refine WL.call (al := [(.pointer (some ⟨ob, 0, none⟩)), (.agg ⟨flat [(1, [(vi 1)]), (32, (List.replicate 32 (0 : UInt8)).map vu8), (1, [(vi dm)]), (1, [(.slice a_4 ls.flatten.length cap_5)])]⟩)]) Try.call25 rfl rfl (c_oAsk ob mp ms df hms da dn dc u hdf la lc lx lg hu hlg 1 dm (List.replicate 32 (0 : UInt8)) ls.flatten a_4 ls.flatten.length cap_5 ⟨(List.length_replicate ..), by show (1 : Int) ≤ 1 ∧ (1 : Int) ≤ 4; omega, by show (1 : Int) ≤ dm ∧ (dm : Int) ≤ 16; omega, by show List.length ls.flatten ≤ 1000000000; first | decide | (simp only [List.length_append, leN_len]; omega) | omega⟩ (rfl : List.length ls.flatten = ls.flatten.length) (by decide) (fun _ => rfl) _ h_16) rfl ?_
  rintro _ w_20 ⟨la_17, lc_18, lx_19, rfl, h_21⟩
  refine WL.q (Wn.no rfl) rfl rfl (R.extract (l := [(.agg ⟨(ansD df dn u lg (1, List.replicate 32 (0 : UInt8), dm, ls.flatten)).map vu8⟩), (vi 0)]) (v := (.agg ⟨(ansD df dn u lg (1, List.replicate 32 (0 : UInt8), dm, ls.flatten)).map vu8⟩)) rfl rfl) ?_
  refine WL.q (Wn.no rfl) rfl rfl (R.extract (l := [(.agg ⟨(ansD df dn u lg (1, List.replicate 32 (0 : UInt8), dm, ls.flatten)).map vu8⟩), (vi 0)]) (v := (vi 0)) rfl rfl) ?_
  refine WL.storeA (b := b_1) (off := 0) [] [(32, (List.replicate 32 (0 : UInt8)).map vu8)] [(32, (ansD df dn u lg (1, List.replicate 32 (0 : UInt8), dm, ls.flatten)).map vu8)] [] (ys := (ansD df dn u lg (1, List.replicate 32 (0 : UInt8), dm, ls.flatten)).map vu8) h_21 rfl rfl Try.sizeOf29 (At.t (At.t (At.t (At.t (At.t (At.t At.h)))))) (by decide) rfl rfl rfl rfl rfl rfl (SsOk.cons (SOk.u8 (ansD_len hdf h32_w_20)) SsOk.nil) (fun w_22 h_23 => ?_)
  refine WL.q (Wn.no rfl) rfl rfl (R.assign (v := (vi 0)) rfl) ?_
  refine WL.nil ?_
  refine thn_n ?_
  refine WP.ret ?_
  refine ret_of Try.results41 (RV.cell rfl (h_23.loadA (cs := (ansD df dn u lg (1, List.replicate 32 (0 : UInt8), dm, ls.flatten)).map vu8) Try.isAgg29 Try.sizeOf29 (.tail _ (.tail _ (.tail _ (.tail _ (.tail _ (.tail _ (.head _))))))) rfl rfl) (RV.tmp (v := (vi 0)) rfl RV.nil)) ?_
  have h_24 := h_23.up (Pick.t (Pick.t (Pick.t (Pick.t (Pick.t Pick.h)))))
  have h_25 := h_24.drop rfl
  have h_26 := h_25.up (Pick.t (Pick.t (Pick.t (Pick.t (Pick.t Pick.h)))))
  have h_27 := h_26.drop rfl
  have h_28 := h_27.up (Pick.t (Pick.t (Pick.t (Pick.t (Pick.t (Pick.t Pick.h))))))
  have h_29 := h_28.up (Pick.t (Pick.t (Pick.t (Pick.t (Pick.t (Pick.t Pick.h))))))
  have h_30 := h_29.up (Pick.t (Pick.t (Pick.t (Pick.t (Pick.t (Pick.t Pick.h))))))
  have h_31 := h_30.up (Pick.t (Pick.t (Pick.t (Pick.t (Pick.t (Pick.t Pick.h))))))
  have h_32 := h_31.up (Pick.t (Pick.t (Pick.t (Pick.t (Pick.t (Pick.t Pick.h))))))
  have h_33 := h_32.up (Pick.t (Pick.t (Pick.t (Pick.t (Pick.t (Pick.t Pick.h))))))
  have h_34 := h_33.up (Pick.t (Pick.t (Pick.t (Pick.t (Pick.t (Pick.t Pick.h))))))
  exact ⟨_, _, _, rfl, h_34⟩
end Go.Proofs.Ytbldmljbfokobaa
