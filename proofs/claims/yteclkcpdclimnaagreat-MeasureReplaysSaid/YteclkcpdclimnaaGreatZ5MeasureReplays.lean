/- Rules for walks and contracts of the functions that the law reaches, one behind the other. Conditions: none beyond what each theorem states. -/
import Derived.Test.YteclkcpdclimnaaGreatZ4MeasureReplays
set_option linter.unusedVariables false
set_option linter.unusedSimpArgs false
set_option linter.unusedSectionVars false
namespace Go.Proofs.YteclkcpdclimnaaGreat
open Go.Proofs.Tryz
open Go.Vc Go.Orc Go.Sh Go.RowKit
set_option maxRecDepth 20000

theorem c_rLe (x : UInt64) (w : World) :
  Cs Tryz.prog 101 [(vu64 x)].toArray w (fun v w1 => ∃ a cap, v = .slice a 8 cap ∧ Chg w w1 [] ∧ Own w.heap.size w1 5 1 a 8 cap ((leN 8 x.toNat).map vu8)) := by
 refine Cs.of (n := 19) (args := [(vu64 x)]) Tryz.func101 rfl rfl rfl ?_
 have h_0 := HP.init w
 refine WP.seq (WP.reg ?_)
 refine qA (.slice none 0 0) rfl rfl ?_
 refine WL.nil (thn_n (WP.seq (WP.reg ?_)))
 refine qA (.slice none 0 0) rfl rfl ?_
 refine WL.nil (thn_n (WP.seq (WP.seq (WP.reg ?_))))
 refine qA (vi 0) rfl rfl ?_
 refine WL.nil (thn_n (WP.block ?_))
 have h_1 := h_0.rowNil 5 1
 refine WP.loopG (G := Nat × Option Addr × Nat) [3, 4, 5, 6, 7, 8, 9, 10, 11, 12, 13, 14, 15, 16, 17] (fun (k, ra, rc) => [(3, (.slice ra k rc)), (4, (vn k))]) (fun (k, ra, rc) m w1 => HP w w1 [.row ra k rc 5 1 ((leN k x.toNat).map vu8)] ∧ (k ≤ 8) ∧ m = 8 - k) ⟨(0, none, 0), _, ⟨rfl, rfl, trivial⟩, h_1, Nat.zero_le _, rfl⟩ ?_
 rintro ⟨k, ra, rc⟩ m_4 J_5 w_2 ⟨h_3, hk, rfl⟩
 refine WP.seq (WP.seq (WP.reg ?_))
 refine qM (vn k) rfl rfl (qV rfl (R.bin rfl rfl (bi_lss (r := decide ((((k : Nat) : Int) : Int) < 8)) rfl)) ?_)
 refine WL.nil (thn_n ?_)
 refine WP.cond (b := decide ((((k : Nat) : Int) : Int) < 8)) rfl (fun c_6 => ?_) (fun c_6 => ?_)
 ·have p_7 := of_decide_eq_true c_6
  refine WP.skip (thn_n (WP.seq (WP.block (WP.reg ?_))))
  refine qM (.slice ra k rc) rfl rfl (qM (vu64 x) rfl rfl (qM (vn k) rfl rfl (qV rfl (R.conv (b := ((UInt64.ofNat k) : UInt64).toNat) rfl underlying3 underlying168 (w64_nat k)) (qV rfl (R.bin rfl rfl (b64_mul 8 (UInt64.ofNat k))) (qV rfl (R.binR (v := vu64 (shr64 x (((8 : UInt64) * (UInt64.ofNat k)).toNat))) rfl rfl (run_shr64 _ _ _ x _ (((8 : UInt64) * (UInt64.ofNat k)).toNat))) (qV rfl (R.conv (b := ((UInt8.ofNat ((shr64 x (((8 : UInt64) * (UInt64.ofNat k)).toNat)).toNat)) : UInt8).toNat) rfl underlying27 underlying5 (w8_nat ((shr64 x (((8 : UInt64) * (UInt64.ofNat k)).toNat)).toNat))) ?_))))))
  refine WL.buildSl (vs := [(0, (vu8 (UInt8.ofNat ((shr64 x (((8 : UInt64) * (UInt64.ofNat k)).toNat)).toNat))))]) (cs := ([UInt8.ofNat ((shr64 x (((8 : UInt64) * (UInt64.ofNat k)).toNat)).toNat)] : List UInt8).map vu8) h_3 underlying88 sizeOf5 (zv typeInfo5 rfl) rfl rfl (by kernel_rfl) rfl (one_u8 _) rfl rfl (fun b_8 w_9 h_10 => ?_)
  refine WL.append (km := k + 1) (xs := (leN k x.toNat).map vu8) (ys := ([UInt8.ofNat ((shr64 x (((8 : UInt64) * (UInt64.ofNat k)).toNat)).toNat)] : List UInt8).map vu8) (zs := ((leN k x.toNat) ++ ([UInt8.ofNat ((shr64 x (((8 : UInt64) * (UInt64.ofNat k)).toNat)).toNat)] : List UInt8)).map vu8) h_10 rfl rfl el88 (viewB (h_10.ok _ M0) Sg.h) ((len_map (rfl : List.length ([UInt8.ofNat ((shr64 x (((8 : UInt64) * (UInt64.ofNat k)).toNat)).toNat)] : List UInt8) = 1)).trans (Nat.mul_one _).symm) (one_u8 _) (by simp only [List.map_append, List.map_nil]) (by omega) (by omega) (by omega) (fun _ _ => Y1) rfl (fun a_11 c_12 w_13 h_14 => ?_)
  refine qA (.slice a_11 (k + 1) c_12) rfl rfl ?_
  refine WL.nil (inb_n (thn_n (WP.reg ?_)))
  refine qM (vn k) rfl rfl (qV rfl (R.bin rfl rfl (bi_add (c := ((k + 1 : Nat) : Int)) (by omega) (by omega))) (qA (vn (k + 1)) rfl rfl ?_))
  refine WL.nil (thn_n ?_)
  have h_15 := h_14.drop rfl
  rw [le_step (by omega)] at h_15
  exact ⟨(k + 1, a_11, c_12), _, (by omega), (Ag.upd rfl (U2 rfl rfl (U4 rfl rfl rfl rfl (U4 rfl rfl rfl rfl (U4 rfl rfl rfl rfl (Ag.updL rfl (Ag.mix _ _ _))))))), ⟨rfl, rfl, trivial⟩, h_15, (by omega), rfl⟩
 ·have p_16 := of_decide_eq_false c_6
  refine WP.exit (thn_x (thn_x (inb_hit (thn_n (WP.seq (WP.reg ?_))))))
  refine qM (.slice ra k rc) rfl rfl (qA (.slice ra k rc) rfl rfl ?_)
  refine WL.nil (thn_n (WP.ret ?_))
  refine ret_of results101 (RV.tmp (v := (.slice ra k rc)) rfl RV.nil) ?_
  have hk8 : k = 8 := by omega
  subst hk8
  exact ⟨_, _, rfl, h_3.chgS, h_3.own M0⟩

theorem c_rDraw (id : Bool) (ob : Nat) (ms df : List UInt8) (hms : ms.length = 32) (da : Option Addr) (dn dc u u2 : Nat) (hdf : df.length = 32 * dn) (la : Option Addr) (ln lc : Nat) (hu : u ≤ 1000000) (w : World) (hv : View w da (df.map vu8)) (hcb : (Ent.blk ob .ro 47 [(1, [(.bool id)]), (32, ms.map vu8), (1, [(.slice da dn dc)]), (1, [(vi ((u2 : Nat) : Int))]), (1, [(.slice la ln lc)])]).ok w.heap.size w) :
  Cs Tryz.prog 92 [(.pointer (some ⟨ob, 0, none⟩)), (vi ((u : Nat) : Int))].toArray w (fun v w1 => v = (.agg ⟨(drawF df dn u).map vu8⟩) ∧ Chg w w1 []) := by
 refine Cs.of (n := 27) (args := [(pO ob 0), (vn u)]) Tryz.func92 rfl rfl rfl ?_
 have h_0 := HP.init w
 have h_01 := h_0.oldV (View.arg hv) rfl (by simp [Ent.mut])
 have h_00 := h_01.oldV hcb rfl (by simp [Ent.mut])
 refine WP.seq (WP.reg ?_)
 refine WL.alloc (segs := [(32, (zB 32).map vu8)]) h_00 (zv typeInfo23 rfl) rfl (sC (s8 lr) sN) rfl (fun b_1 w_2 h_3 => ?_)
 refine WL.nil (thn_n (WP.seq (WP.seq (WP.reg ?_))))
 refine qM (vn u) rfl rfl (qM (pO ob 0) rfl rfl (qV rfl (R.nilCheck rfl) (qV rfl (R.fieldAddr (off' := 33) rfl underlying47 rfl sizeOf24 rfl rfl) (qV rfl (R.load1 rfl isAgg24 (h_3.ok _ M1) (Sg.t rfl (Sg.t rfl Sg.h))) (qV rfl (R.lenS (a := da) (m := dn) rfl rfl underlying24) (qV rfl (R.bin rfl rfl (bi_lss (r := decide ((((u : Nat) : Int) : Int) < ((dn : Nat) : Int))) rfl)) ?_))))))
 refine WL.nil (thn_n ?_)
 refine WP.cond (b := decide ((((u : Nat) : Int) : Int) < ((dn : Nat) : Int))) rfl (fun c_4 => ?_) (fun c_4 => ?_)
 ·have p_5 := of_decide_eq_true c_4
  refine WP.seq (WP.reg ?_)
  refine qM (pO ob 0) rfl rfl (qV rfl (R.nilCheck rfl) (qV rfl (R.fieldAddr (off' := 33) rfl underlying47 rfl sizeOf24 rfl rfl) (qV rfl (R.load1 rfl isAgg24 (h_3.ok _ M1) (Sg.t rfl (Sg.t rfl Sg.h))) (qM (vn u) rfl rfl (qV rfl (R.indexS (a := da) (i := u) (off := u * 32) (xs := df.map vu8) rfl rfl rfl (by omega) (viewV (h_3.ok _ M2)) (lt_len (K := 32 * dn) (len_map hdf) (by omega)) underlying24 sizeOf23 rfl) (qV rfl (R.loadGA (a := da) (i := u * 32) (xs := df.map vu8) (cs := (((df).drop (u * 32)).take 32).map vu8) rfl (viewV (h_3.ok _ M2)) isAgg23 sizeOf23 (by rw [List.map_take, List.map_drop]) (len_map (subLen (K := 32 * dn) hdf (by omega) : List.length (((df).drop (u * 32)).take 32) = 32)) (by decide)) ?_))))))
  refine WL.storeA [] [(32, (zB 32).map vu8)] [(32, (((df).drop (u * 32)).take 32).map vu8)] [] h_3 rfl rfl sizeOf23 At.h (by decide) rfl rfl rfl rfl rfl rfl (sC (s8 (subLen (K := 32 * dn) hdf (by omega) : List.length (((df).drop (u * 32)).take 32) = 32)) sN) (fun w_6 h_7 => ?_)
  refine WL.nil (thn_n (WP.ret (thn_r ?_)))
  refine ret_of results92 (RV.cell rfl (h_7.loadA (cs := (((df).drop (u * 32)).take 32).map vu8) isAgg23 sizeOf23 M0 rfl rfl) RV.nil) ?_
  exact ⟨by rw [drawF, if_pos (by omega)]; rfl, h_7.chgS⟩
 ·have p_8 := of_decide_eq_false c_4
  refine WP.skip (thn_n (WP.seq (WP.reg ?_)))
  refine WL.alloc (segs := [(32, (zB 32).map vu8)]) h_3 (zv typeInfo23 rfl) rfl (sC (s8 lr) sN) rfl (fun b_9 w_10 h_11 => ?_)
  refine WL.nil (thn_n (WP.seq ?_))
  refine WP.drawT (SL w.heap.size [.blk b_1 .nw 23 [(32, (zB 32).map vu8)], .blk ob .ro 47 [(1, [(.bool id)]), (32, ms.map vu8), (1, [(.slice da dn dc)]), (1, [(vn u2)]), (1, [(.slice la ln lc)])], .view da (df.map vu8)]) (.q 0 (.q 1 (.q 2 (.s 3 (.s 4 .nil))))) (by kernel_rfl) (by kernel_rfl) rfl (by kernel_rfl) (fun w_12 hc_14 => (SL.cons ((h_11.same hc_14).ok _ M1) (SL.cons ((h_11.same hc_14).ok _ M2) (SL.cons ((h_11.same hc_14).ok _ M3) (SL.nil _ _))))) (fun w_12 hc_14 => ?_)
  have h_13 := h_11.same hc_14
  refine qT rfl rfl (fun wq hS => R.sliceA (b := b_9) (off := 0) (off' := 0) (l := 0) (h := 32) rfl EvB.dflt EvB.dflt (by decide) (by decide) underlying23 sizeOf5 rfl) ?_
  refine qT rfl rfl (fun wq hS => R.move (v := (vn u)) rfl) ?_
  refine qT rfl rfl (fun wq hS => R.conv (b := ((UInt64.ofNat u) : UInt64).toNat) rfl underlying3 underlying27 (w64_nat u)) ?_
  refine WT.s (oN rfl ?_)
  refine WL.call Tryz.call101 rfl rfl (c_rLe (UInt64.ofNat u) _) rfl ?_
  rintro _ w_17 ⟨a_15, cap_16, rfl, hc_18, ho_19⟩
  have h_20 := h_13.gotRow hc_18 ho_19
  refine WL.nil ?_
  refine ⟨(N2_3_4 h_20.ok), ?_⟩
  refine WT.s (oN rfl ?_)
  refine WL.copy (q := 8) (i := 0) (ys := (leN 8 (UInt64.ofNat u).toNat).map vu8) (cs' := ((leN 8 (UInt64.ofNat u).toNat) ++ (zB 32).drop 8).map vu8) h_20 rfl rfl underlying88 sizeOf5 (ownView (h_20.ok _ M0)) (len_map (leN_len ..)) (one_u8 _) Y1 (by decide) Sg.h rfl (by decide) (by rw [len_map lr]; decide) (cpPre (leN_len ..)) rfl (fun w_21 h_22 => ?_)
  refine WL.nil ?_
  refine ⟨(N2_3_4 h_22.ok), ?_⟩
  refine WT.nil (thn_n (WP.seq (WP.reg ?_)))
  refine qV rfl (R.indexA (b := b_9) (off := 0) (off' := 31) (i := 31) rfl rfl rfl (by decide) underlying23 sizeOf5 rfl) ?_
  refine WL.storeE (b := b_9) (off := 31) (i := 31) (v := (vu8 1)) (cs' := (((leN 8 (UInt64.ofNat u).toNat) ++ (zB 32).drop 8).set 31 1).map vu8) h_22 rfl rfl sizeOf5 rfl Y1 (by decide) Sg.h rfl (lt_len (K := 32) (len_map (cpLen (leN_len ..) lr (by decide))) (by decide)) (set_u8 _ _ _) (fun w_23 h_24 => ?_)
  refine WL.nil (thn_n (WP.seq (WP.reg ?_)))
  refine qV rfl (R.loadA [] [(32, (((leN 8 (UInt64.ofNat u).toNat) ++ (zB 32).drop 8).set 31 1).map vu8)] [] (cs := (((leN 8 (UInt64.ofNat u).toNat) ++ (zB 32).drop 8).set 31 1).map vu8) rfl isAgg23 sizeOf23 (h_24.ok _ M1) rfl rfl rfl rfl) ?_
  refine WL.storeA [] [(32, (zB 32).map vu8)] [(32, (((leN 8 (UInt64.ofNat u).toNat) ++ (zB 32).drop 8).set 31 1).map vu8)] [] h_24 rfl rfl sizeOf23 Y2 (by decide) rfl rfl rfl rfl rfl rfl (sC (s8 (len_set (cpLen (leN_len ..) lr (by decide)) _ _)) sN) (fun w_25 h_26 => ?_)
  refine WL.nil (thn_n (WP.ret ?_))
  refine ret_of results92 (RV.cell rfl (h_26.loadA (cs := (((leN 8 (UInt64.ofNat u).toNat) ++ (zB 32).drop 8).set 31 1).map vu8) isAgg23 sizeOf23 M2 rfl rfl) RV.nil) ?_
  exact ⟨by rw [drawF, if_neg (by omega), ← draw_tail (by omega)]; rfl, h_26.chgS⟩

theorem c_rText (kd dm : Int) (key data : List UInt8) (qa : Option Addr) (qn qc : Nat) (hq : okQ (kd, key, dm, data)) (hdl : data.length = qn) (w : World) (hv : View w qa (data.map vu8)) :
  Cs Tryz.prog 104 [(.agg ⟨flat [(1, [(vi kd)]), (32, key.map vu8), (1, [(vi dm)]), (1, [(.slice qa qn qc)])]⟩)].toArray w (fun v w1 => ∃ a cap, v = .slice a (34 + qn) cap ∧ Chg w w1 [] ∧ Own w.heap.size w1 5 1 a (34 + qn) cap ((cT (kd, key, dm, data)).map vu8)) := by
 have hk1 : 1 ≤ kd ∧ kd ≤ 4 := hq.2.1
 have hd1 : 1 ≤ dm ∧ dm ≤ 16 := hq.2.2.1
 have hqn : data.length ≤ 1000000000 := hq.2.2.2
 refine Cs.of (n := 22) (args := [(.agg ⟨flat [(1, [(vi kd)]), (32, key.map vu8), (1, [(vi dm)]), (1, [(.slice qa qn qc)])]⟩)]) Tryz.func104 rfl rfl rfl ?_
 have h_0 := HP.init w
 have h_00 := h_0.old (View.arg hv) (fun f hf => by cases hf)
 refine WP.seq (WP.reg ?_)
 refine WL.box (segs := [(1, [(vi kd)]), (32, key.map vu8), (1, [(vi dm)]), (1, [(.slice qa qn qc)])]) h_00 rfl rfl (sC sV (sC (s8 hq.1) (sC sV (sC sV sN)))) rfl (fun b_1 w_2 h_3 => ?_)
 refine qA (.slice none 0 0) rfl rfl ?_
 refine WL.nil (thn_n (WP.seq (WP.reg ?_)))
 refine qV rfl (R.fieldAddr (off' := 0) rfl underlying90 rfl sizeOf86 rfl rfl) (qV rfl (R.load1 rfl isAgg86 (h_3.ok _ M0) Sg.h) (qV rfl (R.conv (b := ((i2u8 kd) : UInt8).toNat) rfl underlying86 underlying5 (i2u8_w (by omega))) ?_))
 refine WL.buildSl (vs := [(0, (vu8 (i2u8 kd)))]) (cs := ([i2u8 kd] : List UInt8).map vu8) h_3 underlying88 sizeOf5 (zv typeInfo5 rfl) rfl rfl (by kernel_rfl) rfl (one_u8 _) rfl rfl (fun b_4 w_5 h_6 => ?_)
 refine qA (.slice (some ⟨b_4, 0, none⟩) 1 1) rfl rfl ?_
 refine WL.nil (thn_n (WP.seq (WP.reg ?_)))
 refine qM (.slice (some ⟨b_4, 0, none⟩) 1 1) rfl rfl (qV rfl (R.fieldAddr (off' := 1) rfl underlying90 rfl sizeOf23 rfl rfl) (qV rfl (R.sliceA (b := b_1) (off := 1) (off' := 1) (l := 0) (h := 32) rfl EvB.dflt EvB.dflt (by decide) (by decide) underlying23 sizeOf5 rfl) ?_))
 have h_7 := HP.blkRow (m := 1) (s := 1) h_6 At.h rfl (by simp only [maxLen]; decide)
 refine WL.append (km := 33) (xs := ([i2u8 kd] : List UInt8).map vu8) (ys := key.map vu8) (zs := (([i2u8 kd] : List UInt8) ++ key).map vu8) h_7 rfl rfl el88 (viewB (h_7.ok _ M1) (Sg.t rfl Sg.h)) ((len_map hq.1).trans (Nat.mul_one _).symm) (one_u8 _) (by simp only [List.map_append, List.map_nil]) rfl (by omega) (by omega) (fun _ _ => At.h) rfl (fun a_8 c_9 w_10 h_11 => ?_)
 refine qA (.slice a_8 33 c_9) rfl rfl ?_
 refine WL.nil (thn_n (WP.seq (WP.reg ?_)))
 refine qM (.slice a_8 33 c_9) rfl rfl (qV rfl (R.fieldAddr (off' := 33) rfl underlying90 rfl sizeOf87 rfl rfl) (qV rfl (R.load1 rfl isAgg87 (h_11.ok _ M1) (Sg.t rfl (Sg.t rfl Sg.h))) (qV rfl (R.conv (b := ((i2u8 dm) : UInt8).toNat) rfl underlying87 underlying5 (i2u8_w (by omega))) ?_)))
 refine WL.buildSl (vs := [(0, (vu8 (i2u8 dm)))]) (cs := ([i2u8 dm] : List UInt8).map vu8) h_11 underlying88 sizeOf5 (zv typeInfo5 rfl) rfl rfl (by kernel_rfl) rfl (one_u8 _) rfl rfl (fun b_12 w_13 h_14 => ?_)
 refine WL.append (km := 34) (xs := (([i2u8 kd] : List UInt8) ++ key).map vu8) (ys := ([i2u8 dm] : List UInt8).map vu8) (zs := ((([i2u8 kd] : List UInt8) ++ key) ++ ([i2u8 dm] : List UInt8)).map vu8) h_14 rfl rfl el88 (viewB (h_14.ok _ M0) Sg.h) ((len_map (rfl : List.length ([i2u8 dm] : List UInt8) = 1)).trans (Nat.mul_one _).symm) (one_u8 _) (by simp only [List.map_append, List.map_nil]) rfl (by omega) (by omega) (fun _ _ => Y1) rfl (fun a_15 c_16 w_17 h_18 => ?_)
 refine qA (.slice a_15 34 c_16) rfl rfl ?_
 refine WL.nil (thn_n (WP.seq (WP.reg ?_)))
 refine qM (.slice a_15 34 c_16) rfl rfl (qV rfl (R.fieldAddr (off' := 34) rfl underlying90 rfl sizeOf88 rfl rfl) (qV rfl (R.load1 rfl isAgg88 (h_18.ok _ M2) (Sg.t rfl (Sg.t rfl (Sg.t rfl Sg.h)))) ?_))
 refine WL.append (km := 34 + qn) (xs := ((([i2u8 kd] : List UInt8) ++ key) ++ ([i2u8 dm] : List UInt8)).map vu8) (ys := data.map vu8) (zs := (((([i2u8 kd] : List UInt8) ++ key) ++ ([i2u8 dm] : List UInt8)) ++ data).map vu8) h_18 rfl rfl el88 (viewV (h_18.ok _ M3)) ((len_map hdl).trans (Nat.mul_one _).symm) (one_u8 _) (by simp only [List.map_append, List.map_nil]) (by omega) (by omega) (by omega) (fun _ _ => Y1) rfl (fun a_19 c_20 w_21 h_22 => ?_)
 refine qA (.slice a_19 (34 + qn) c_20) rfl rfl ?_
 refine WL.nil (thn_n (WP.ret ?_))
 refine ret_of results104 (RV.tmp (v := (.slice a_19 (34 + qn) c_20)) rfl RV.nil) ?_
 exact ⟨_, _, by first | rfl | exact congrArg (fun n => Value.slice _ n _) (by omega), h_22.chgS, by first | exact h_22.ok _ M1 | (have hx := h_22.own M1; rwa [show 34 + qn = 34 + qn by omega] at hx)⟩

theorem c_rSame (p q : Qn) (hp : p.2.1.length = 32) (hq : q.2.1.length = 32) (a : Option Addr) (n cap : Nat) (hl : p.2.2.2.length = n) (a2 : Option Addr) (n2 cap2 : Nat) (hl2 : q.2.2.2.length = n2) (w : World) (hv : View w a (p.2.2.2.map vu8)) (hv2 : View w a2 (q.2.2.2.map vu8)) :
  Cs Tryz.prog 53 [(.agg ⟨flat [(1, [(vi p.1)]), (32, p.2.1.map vu8), (1, [(vi p.2.2.1)]), (1, [(.slice a n cap)])]⟩), (.agg ⟨flat [(1, [(vi q.1)]), (32, q.2.1.map vu8), (1, [(vi q.2.2.1)]), (1, [(.slice a2 n2 cap2)])]⟩)].toArray w (fun v w1 => v = .bool (decide (p = q)) ∧ Chg w w1 []) := by
 refine Cs.of (n := 33) (args := [(.agg ⟨flat [(1, [(vi p.1)]), (32, p.2.1.map vu8), (1, [(vi p.2.2.1)]), (1, [(.slice a n cap)])]⟩), (.agg ⟨flat [(1, [(vi q.1)]), (32, q.2.1.map vu8), (1, [(vi q.2.2.1)]), (1, [(.slice a2 n2 cap2)])]⟩)]) Tryz.func53 rfl rfl rfl ?_
 have h_0 := HP.init w
 have h_01 := h_0.old (View.arg hv) (fun f hf => by cases hf)
 have h_00 := h_01.old (View.arg hv2) (fun f hf => by rw [List.mem_singleton] at hf; subst hf; intro hm; simp [Ent.mut] at hm)
 refine WP.seq (WP.reg ?_)
 refine WL.box (segs := [(1, [(vi p.1)]), (32, p.2.1.map vu8), (1, [(vi p.2.2.1)]), (1, [(.slice a n cap)])]) h_00 rfl rfl (sC sV (sC (s8 hp) (sC sV (sC sV sN)))) rfl (fun b_1 w_2 h_3 => ?_)
 refine WL.box (segs := [(1, [(vi q.1)]), (32, q.2.1.map vu8), (1, [(vi q.2.2.1)]), (1, [(.slice a2 n2 cap2)])]) h_3 rfl rfl (sC sV (sC (s8 hq) (sC sV (sC sV sN)))) rfl (fun b_4 w_5 h_6 => ?_)
 refine qA (.bool false) rfl rfl ?_
 refine WL.nil (thn_n (WP.seq (WP.reg ?_)))
 refine qV rfl (R.fieldAddr (off' := 0) rfl underlying90 rfl sizeOf86 rfl rfl) (qV rfl (R.load1 rfl isAgg86 (h_6.ok _ M1) Sg.h) (qV rfl (R.fieldAddr (off' := 0) rfl underlying90 rfl sizeOf86 rfl rfl) (qV rfl (R.load1 rfl isAgg86 (h_6.ok _ M0) Sg.h) (qV rfl (R.bin rfl rfl (bi_eql (r := decide ((p.1 : Int) = q.1)) rfl)) (qM (.bool (decide ((p.1 : Int) = q.1))) rfl rfl ?_)))))
 rcases Bool.eq_false_or_eq_true (decide ((p.1 : Int) = q.1)) with c_7 | c_7
 ·have p_8 := of_decide_eq_true c_7
  refine WL.want rfl (congrArg Value.bool c_7) ?_
  refine qV rfl (R.fieldAddr (off' := 1) rfl underlying90 rfl sizeOf23 rfl rfl) ?_
  refine WL.want rfl (congrArg Value.bool c_7) ?_
  refine qV rfl (R.loadA [(1, [(vi p.1)])] [(32, p.2.1.map vu8)] [(1, [(vi p.2.2.1)]), (1, [(.slice a n cap)])] (cs := p.2.1.map vu8) rfl isAgg23 sizeOf23 (h_6.ok _ M1) rfl rfl rfl rfl) ?_
  refine WL.want rfl (congrArg Value.bool c_7) ?_
  refine qV rfl (R.fieldAddr (off' := 1) rfl underlying90 rfl sizeOf23 rfl rfl) ?_
  refine WL.want rfl (congrArg Value.bool c_7) ?_
  refine qV rfl (R.loadA [(1, [(vi q.1)])] [(32, q.2.1.map vu8)] [(1, [(vi q.2.2.1)]), (1, [(.slice a2 n2 cap2)])] (cs := q.2.1.map vu8) rfl isAgg23 sizeOf23 (h_6.ok _ M0) rfl rfl rfl rfl) ?_
  refine WL.want rfl (congrArg Value.bool c_7) ?_
  refine qV rfl (R.eqA (xs := p.2.1.map vu8) (ys := q.2.1.map vu8) (r := decide (p.2.1 = q.2.1)) rfl rfl eqGuardType23 kt23 (by decide) ag23 (Typ.u8s underlying23 ce23 underlying5 ce5 hp) (Typ.u8s underlying23 ce23 underlying5 ce5 hq) (map_inj_u8.trans (decT _))) (qV rfl (R.pickT (v := (.bool (decide (p.2.1 = q.2.1)))) (congrArg Value.bool c_7) rfl) (qM (.bool (decide (p.2.1 = q.2.1))) rfl rfl ?_))
  rcases Bool.eq_false_or_eq_true (decide (p.2.1 = q.2.1)) with c_9 | c_9
  ·have p_10 := of_decide_eq_true c_9
   refine WL.want rfl (congrArg Value.bool c_9) ?_
   refine qV rfl (R.fieldAddr (off' := 33) rfl underlying90 rfl sizeOf87 rfl rfl) ?_
   refine WL.want rfl (congrArg Value.bool c_9) ?_
   refine qV rfl (R.load1 rfl isAgg87 (h_6.ok _ M1) (Sg.t rfl (Sg.t rfl Sg.h))) ?_
   refine WL.want rfl (congrArg Value.bool c_9) ?_
   refine qV rfl (R.fieldAddr (off' := 33) rfl underlying90 rfl sizeOf87 rfl rfl) ?_
   refine WL.want rfl (congrArg Value.bool c_9) ?_
   refine qV rfl (R.load1 rfl isAgg87 (h_6.ok _ M0) (Sg.t rfl (Sg.t rfl Sg.h))) ?_
   refine WL.want rfl (congrArg Value.bool c_9) ?_
   refine qV rfl (R.bin rfl rfl (bi_eql (r := decide ((p.2.2.1 : Int) = q.2.2.1)) rfl)) (qV rfl (R.pickT (v := (.bool (decide ((p.2.2.1 : Int) = q.2.2.1)))) (congrArg Value.bool c_9) rfl) (qM (.bool (decide ((p.2.2.1 : Int) = q.2.2.1))) rfl rfl ?_))
   rcases Bool.eq_false_or_eq_true (decide ((p.2.2.1 : Int) = q.2.2.1)) with c_11 | c_11
   ·have p_12 := of_decide_eq_true c_11
    refine WL.want rfl (congrArg Value.bool c_11) ?_
    refine qV rfl (R.fieldAddr (off' := 34) rfl underlying90 rfl sizeOf88 rfl rfl) ?_
    refine WL.want rfl (congrArg Value.bool c_11) ?_
    refine qV rfl (R.load1 rfl isAgg88 (h_6.ok _ M1) (Sg.t rfl (Sg.t rfl (Sg.t rfl Sg.h)))) ?_
    refine WL.want rfl (congrArg Value.bool c_11) ?_
    refine qV rfl (R.toStr (bs := p.2.2.2) rfl underlying88 underlying5 underlying9 (viewV (h_6.ok _ M3)) hl) ?_
    refine WL.want rfl (congrArg Value.bool c_11) ?_
    refine qV rfl (R.fieldAddr (off' := 34) rfl underlying90 rfl sizeOf88 rfl rfl) ?_
    refine WL.want rfl (congrArg Value.bool c_11) ?_
    refine qV rfl (R.load1 rfl isAgg88 (h_6.ok _ M0) (Sg.t rfl (Sg.t rfl (Sg.t rfl Sg.h)))) ?_
    refine WL.want rfl (congrArg Value.bool c_11) ?_
    refine qV rfl (R.toStr (bs := q.2.2.2) rfl underlying88 underlying5 underlying9 (viewV (h_6.ok _ M2)) hl2) ?_
    refine WL.want rfl (congrArg Value.bool c_11) ?_
    refine qV rfl (R.eqStr (a := p.2.2.2) (b := q.2.2.2) (r := decide (p.2.2.2 = q.2.2.2)) rfl rfl rfl) (qV rfl (R.pickT (v := (.bool (decide (p.2.2.2 = q.2.2.2)))) (congrArg Value.bool c_11) rfl) (qA (.bool (decide (p.2.2.2 = q.2.2.2))) rfl rfl ?_))
    refine WL.nil (thn_n (WP.ret ?_))
    refine ret_of results53 (RV.tmp (v := (.bool (decide (p.2.2.2 = q.2.2.2)))) rfl RV.nil) ?_
    exact ⟨congrArg Value.bool (by rw [same4]; simp [c_7, c_9, c_11]), h_6.chgS⟩
   ·have p_13 := of_decide_eq_false c_11
    refine WL.skip rfl (congrArg Value.bool c_11) rfl ?_
    refine WL.skip rfl (congrArg Value.bool c_11) rfl ?_
    refine WL.skip rfl (congrArg Value.bool c_11) rfl ?_
    refine WL.skip rfl (congrArg Value.bool c_11) rfl ?_
    refine WL.skip rfl (congrArg Value.bool c_11) rfl ?_
    refine WL.skip rfl (congrArg Value.bool c_11) rfl ?_
    refine WL.skip rfl (congrArg Value.bool c_11) rfl ?_
    refine qV rfl (R.pickF (v := (.bool false)) (congrArg Value.bool c_11) rfl) (qA (.bool false) rfl rfl ?_)
    refine WL.nil (thn_n (WP.ret ?_))
    refine ret_of results53 (RV.tmp (v := (.bool false)) rfl RV.nil) ?_
    exact ⟨congrArg Value.bool (by rw [same4]; simp [c_7, c_9, c_11]), h_6.chgS⟩
  ·have p_14 := of_decide_eq_false c_9
   refine WL.skip rfl (congrArg Value.bool c_9) rfl ?_
   refine WL.skip rfl (congrArg Value.bool c_9) rfl ?_
   refine WL.skip rfl (congrArg Value.bool c_9) rfl ?_
   refine WL.skip rfl (congrArg Value.bool c_9) rfl ?_
   refine WL.skip rfl (congrArg Value.bool c_9) rfl ?_
   refine qV rfl (R.pickF (v := (.bool false)) (congrArg Value.bool c_9) rfl) (qM (.bool false) rfl rfl ?_)
   refine WL.skip rfl rfl rfl ?_
   refine WL.skip rfl rfl rfl ?_
   refine WL.skip rfl rfl rfl ?_
   refine WL.skip rfl rfl rfl ?_
   refine WL.skip rfl rfl rfl ?_
   refine WL.skip rfl rfl rfl ?_
   refine WL.skip rfl rfl rfl ?_
   refine qV rfl (R.pickF (v := (.bool false)) rfl rfl) (qA (.bool false) rfl rfl ?_)
   refine WL.nil (thn_n (WP.ret ?_))
   refine ret_of results53 (RV.tmp (v := (.bool false)) rfl RV.nil) ?_
   exact ⟨congrArg Value.bool (by rw [same4]; simp [c_7, c_9]), h_6.chgS⟩
 ·have p_15 := of_decide_eq_false c_7
  refine WL.skip rfl (congrArg Value.bool c_7) rfl ?_
  refine WL.skip rfl (congrArg Value.bool c_7) rfl ?_
  refine WL.skip rfl (congrArg Value.bool c_7) rfl ?_
  refine WL.skip rfl (congrArg Value.bool c_7) rfl ?_
  refine WL.skip rfl (congrArg Value.bool c_7) rfl ?_
  refine qV rfl (R.pickF (v := (.bool false)) (congrArg Value.bool c_7) rfl) (qM (.bool false) rfl rfl ?_)
  refine WL.skip rfl rfl rfl ?_
  refine WL.skip rfl rfl rfl ?_
  refine WL.skip rfl rfl rfl ?_
  refine WL.skip rfl rfl rfl ?_
  refine WL.skip rfl rfl rfl ?_
  refine qV rfl (R.pickF (v := (.bool false)) rfl rfl) (qM (.bool false) rfl rfl ?_)
  refine WL.skip rfl rfl rfl ?_
  refine WL.skip rfl rfl rfl ?_
  refine WL.skip rfl rfl rfl ?_
  refine WL.skip rfl rfl rfl ?_
  refine WL.skip rfl rfl rfl ?_
  refine WL.skip rfl rfl rfl ?_
  refine WL.skip rfl rfl rfl ?_
  refine qV rfl (R.pickF (v := (.bool false)) rfl rfl) (qA (.bool false) rfl rfl ?_)
  refine WL.nil (thn_n (WP.ret ?_))
  refine ret_of results53 (RV.tmp (v := (.bool false)) rfl RV.nil) ?_
  exact ⟨congrArg Value.bool (by rw [same4]; simp [c_7]), h_6.chgS⟩
end Go.Proofs.YteclkcpdclimnaaGreat

namespace Go.Proofs.YteclkcpdclimnaaGreat
open Go.Proofs.Tryz
open Go.Vc Go.Orc Go.Sh Go.RowKit
set_option maxRecDepth 20000

theorem c_rAns {w00 : World} {L : List Ent} (id : Bool) (ob : Nat) (ms df : List UInt8) (hms : ms.length = 32) (da : Option Addr) (dn dc u : Nat) (hdf : df.length = 32 * dn) (la : Option Addr) (lc : Nat) (lx : List Value) (lg : Lg) (hu : u ≤ 1000000) (hlg : lg.length ≤ 1000000) (kd dm : Int) (key data : List UInt8) (qa : Option Addr) (qn qc : Nat) (hq : okQ (kd, key, dm, data)) (hdl : data.length = qn) (cd : List UInt8) (hcdl : cd.length = 32) (hcd : id = false → cd = cF (kd, key, dm, data)) (w : World) (h_0 : HP w00 w (Ent.blk ob .nw 47 [(1, [(.bool id)]), (32, ms.map vu8), (1, [(.slice da dn dc)]), (1, [(vi ((u : Nat) : Int))]), (1, [(.slice la lg.length lc)])] :: Ent.row la lg.length lc 96 67 lx :: Ent.pin (sblks lx) (fun w => Lgs w lx lg) :: Ent.view da (df.map vu8) :: Ent.view qa (data.map vu8) :: L)) :
  Cs Tryz.prog 102 [(.pointer (some ⟨ob, 0, none⟩)), (.agg ⟨flat [(1, [(vi kd)]), (32, key.map vu8), (1, [(vi dm)]), (1, [(.slice qa qn qc)])]⟩), (.agg ⟨cd.map vu8⟩)].toArray w (fun v w1 => ∃ la' lc' lx', v = (.agg ⟨(anD id df dn u lg (kd, key, dm, data)).map vu8⟩) ∧ HP w00 w1 (Ent.blk ob .nw 47 [(1, [(.bool id)]), (32, ms.map vu8), (1, [(.slice da dn dc)]), (1, [(vi (((anU id u lg (kd, key, dm, data)) : Nat) : Int))]), (1, [(.slice la' ((anL id df dn u lg (kd, key, dm, data)).length) lc')])] :: Ent.row la' ((anL id df dn u lg (kd, key, dm, data)).length) lc' 96 67 lx' :: Ent.pin (sblks lx') (fun w => Lgs w lx' (anL id df dn u lg (kd, key, dm, data))) :: Ent.view da (df.map vu8) :: Ent.view qa (data.map vu8) :: L)) := by
 have hlgs : Lgs w lx lg := (h_0.ok _ M2).1
 have hlo := hlgs.ok
 have hqn : data.length ≤ 1000000000 := hq.2.2.2
 refine Cs.of (n := 71) (args := [(pO ob 0), (.agg ⟨flat [(1, [(vi kd)]), (32, key.map vu8), (1, [(vi dm)]), (1, [(.slice qa qn qc)])]⟩), (.agg ⟨cd.map vu8⟩)]) Tryz.func102 rfl rfl rfl ?_
 refine WP.seq (WP.reg ?_)
 refine WL.box (segs := [(1, [(vi kd)]), (32, key.map vu8), (1, [(vi dm)]), (1, [(.slice qa qn qc)])]) h_0 rfl rfl (sC sV (sC (s8 hq.1) (sC sV (sC sV sN)))) rfl (fun b_1 w_2 h_3 => ?_)
 refine WL.box (segs := [(32, cd.map vu8)]) h_3 rfl rfl (sC (s8 hcdl) sN) rfl (fun b_4 w_5 h_6 => ?_)
 refine WL.alloc (segs := [(32, (zB 32).map vu8)]) h_6 (zv typeInfo23 rfl) rfl (sC (s8 lr) sN) rfl (fun b_7 w_8 h_9 => ?_)
 refine WL.nil (thn_n (WP.seq (WP.seq (WP.reg ?_))))
 refine qA (vi 0) rfl rfl ?_
 refine WL.nil (thn_n (WP.block ?_))
 refine WP.loopG (G := Nat) [7, 9, 10, 11, 12, 13, 14, 15, 16, 17, 18, 19, 20, 21, 22, 23, 24, 25, 26, 27, 28, 29, 30, 31, 32, 33, 34, 35] (fun k => [(7, (vn k))]) (fun k m w1 => HP w00 w1 (Ent.blk b_7 .nw 23 [(32, (zB 32).map vu8)] :: Ent.blk b_4 .nw 23 [(32, cd.map vu8)] :: Ent.blk b_1 .nw 90 [(1, [(vi kd)]), (32, key.map vu8), (1, [(vi dm)]), (1, [(.slice qa qn qc)])] :: Ent.blk ob .nw 47 [(1, [(.bool id)]), (32, ms.map vu8), (1, [(.slice da dn dc)]), (1, [(vn u)]), (1, [(.slice la lg.length lc)])] :: Ent.row la lg.length lc 96 67 lx :: Ent.pin (sblks lx) (fun w => Lgs w lx lg) :: Ent.view da (df.map vu8) :: Ent.view qa (data.map vu8) :: L) ∧ (k ≤ lg.length) ∧ (∀ j, j < k → (lg.getD j ((kd, key, dm, data), [])).1 ≠ (kd, key, dm, data)) ∧ m = lg.length + 1 - k) ⟨0, _, ⟨rfl, trivial⟩, h_9, Nat.zero_le _, (fun j hj => by omega), rfl⟩ ?_
 rintro k m_12 J_13 w_10 ⟨h_11, hk, hno, rfl⟩
 refine WP.seq (WP.seq (WP.reg ?_))
 refine qM (vn k) rfl rfl (qM (pO ob 0) rfl rfl (qV rfl (R.nilCheck rfl) (qV rfl (R.fieldAddr (off' := 35) rfl underlying47 rfl sizeOf44 rfl rfl) (qV rfl (R.load1 rfl isAgg44 (h_11.ok _ M3) (Sg.t rfl (Sg.t rfl (Sg.t rfl (Sg.t rfl Sg.h))))) (qV rfl (R.lenS (a := la) (m := lg.length) rfl rfl underlying44) (qV rfl (R.bin rfl rfl (bi_lss (r := decide ((((k : Nat) : Int) : Int) < ((lg.length : Nat) : Int))) rfl)) ?_))))))
 refine WL.nil (thn_n ?_)
 refine WP.cond (b := decide ((((k : Nat) : Int) : Int) < ((lg.length : Nat) : Int))) rfl (fun c_14 => ?_) (fun c_14 => ?_)
 ·have p_15 := of_decide_eq_true c_14
  refine WP.skip (thn_n (WP.seq (WP.block (WP.seq ?_))))
  have hkl : k < lg.length := by omega
  obtain ⟨ka, kn, kc, hkx, hkq, hkn, hkc, hkv, hkb⟩ := Lgs.qget (z := ((kd, key, dm, data), [])) (h_11.ok _ M5).1 hkl
  have h_16 := h_11.within (e' := .view ka ((lg.getD k ((kd, key, dm, data), [])).1.2.2.2.map vu8)) M5 rfl (View.arg hkv) rfl rfl (fun b hb_ => hkb _ (view_sblk hkn b hb_))
  refine WP.drawT (SL w00.heap.size [.view ka ((lg.getD k ((kd, key, dm, data), [])).1.2.2.2.map vu8), .blk b_7 .nw 23 [(32, (zB 32).map vu8)], .blk b_4 .nw 23 [(32, cd.map vu8)], .blk b_1 .nw 90 [(1, [(vi kd)]), (32, key.map vu8), (1, [(vi dm)]), (1, [(.slice qa qn qc)])], .blk ob .nw 47 [(1, [(.bool id)]), (32, ms.map vu8), (1, [(.slice da dn dc)]), (1, [(vn u)]), (1, [(.slice la lg.length lc)])], .row la lg.length lc 96 67 lx, .pin (sblks lx) (fun w => Lgs w lx lg), .view da (df.map vu8), .view qa (data.map vu8)]) (.q 0 (.q 1 (.q 2 (.q 3 (.q 4 (.q 5 (.q 6 (.q 7 (.q 8 (.s 9 .nil)))))))))) (by kernel_rfl) (by kernel_rfl) rfl (by kernel_rfl) (fun w_17 hc_19 => (SL.cons ((h_16.same hc_19).ok _ M0) (SL.cons ((h_16.same hc_19).ok _ M1) (SL.cons ((h_16.same hc_19).ok _ M2) (SL.cons ((h_16.same hc_19).ok _ M3) (SL.cons ((h_16.same hc_19).ok _ M4) (SL.cons ((h_16.same hc_19).ok _ M5) (SL.cons ((h_16.same hc_19).ok _ M6) (SL.cons ((h_16.same hc_19).ok _ M7) (SL.cons ((h_16.same hc_19).ok _ M8) (SL.nil _ _))))))))))) (fun w_17 hc_19 => ?_)
  have h_18 := h_16.same hc_19
  refine qT rfl rfl (fun wq hS => R.move (v := (pO ob 0)) rfl) ?_
  refine qT rfl rfl (fun wq hS => R.nilCheck rfl) ?_
  refine qT rfl rfl (fun wq hS => R.fieldAddr (off' := 35) rfl underlying47 rfl sizeOf44 rfl rfl) ?_
  refine qT rfl rfl (fun wq hS => R.load1 rfl isAgg44 (hS _ M4) (Sg.t rfl (Sg.t rfl (Sg.t rfl (Sg.t rfl Sg.h))))) ?_
  refine qT rfl rfl (fun wq hS => R.move (v := (vn k)) rfl) ?_
  refine qT rfl rfl (fun wq hS => R.indexS (a := la) (i := k) (off := k * 67) (xs := lx) rfl rfl rfl (by omega) (ownView (hS _ M5)) (by rw [Lgs.len hlgs]; omega) underlying44 sizeOf96 rfl) ?_
  refine qT rfl rfl (fun wq hS => R.fieldG (a := la) (i := k * 67) (off' := k * 67) rfl underlying96 rfl sizeOf90 rfl rfl) ?_
  refine qT rfl rfl (fun wq hS => R.loadGA (a := la) (i := k * 67) (xs := lx) (cs := flat [(1, [(vi (((lg.getD k ((kd, key, dm, data), [])).1).1))]), (32, (((lg.getD k ((kd, key, dm, data), [])).1).2.1).map vu8), (1, [(vi (((lg.getD k ((kd, key, dm, data), [])).1).2.2.1))]), (1, [(.slice ka kn kc)])]) rfl (ownView (hS _ M5)) isAgg90 sizeOf90 hkx ((sC sV (sC (s8 hkq.1) (sC sV (sC sV sN))))).len (by decide)) ?_
  refine qT rfl rfl (fun wq hS => R.loadA [] [(1, [(vi kd)]), (32, key.map vu8), (1, [(vi dm)]), (1, [(.slice qa qn qc)])] [] rfl isAgg90 sizeOf90 (hS _ M3) rfl rfl rfl rfl) ?_
  refine WT.s (oN rfl ?_)
  refine WL.call Tryz.call53 rfl rfl (c_rSame ((lg.getD k ((kd, key, dm, data), [])).1) (kd, key, dm, data) hkq.1 hq.1 ka kn kc hkn qa qn qc hdl _ (viewV (h_18.ok _ M0)) (viewV (h_18.ok _ M8))) rfl ?_
  rintro _ w_21 ⟨rfl, hc_20⟩
  have h_22 := h_18.same hc_20
  refine WL.nil ?_
  refine ⟨(N0_1_2_3_4_5_6_7_8 h_22.ok), ?_⟩
  refine WT.nil (thn_n ?_)
  refine WP.cond (b := decide ((lg.getD k ((kd, key, dm, data), [])).1 = (kd, key, dm, data))) rfl (fun c_23 => ?_) (fun c_23 => ?_)
  ·have p_24 := of_decide_eq_true c_23
   refine WP.seq ?_
   have hfd : fdq (kd, key, dm, data) lg 0 = some k := (fdq_at (s := 0) hkl hno p_24).trans (by rw [Nat.zero_add])
   refine WP.reg ?_
   refine qM (pO ob 0) rfl rfl (qV rfl (R.nilCheck rfl) (qV rfl (R.fieldAddr (off' := 35) rfl underlying47 rfl sizeOf44 rfl rfl) (qV rfl (R.load1 rfl isAgg44 (h_22.ok _ M4) (Sg.t rfl (Sg.t rfl (Sg.t rfl (Sg.t rfl Sg.h))))) (qM (vn k) rfl rfl (qV rfl (R.indexS (a := la) (i := k) (off := k * 67) (xs := lx) rfl rfl rfl (by omega) (ownView (h_22.ok _ M5)) (by rw [Lgs.len hlgs]; omega) underlying44 sizeOf96 rfl) (qV rfl (R.fieldG (a := la) (i := k * 67) (off' := k * 67 + 35) rfl underlying96 rfl sizeOf23 rfl rfl) (qV rfl (R.loadGA (a := la) (i := k * 67 + 35) (xs := lx) (cs := ((lg.getD k ((kd, key, dm, data), [])).2).map vu8) rfl (ownView (h_22.ok _ M5)) isAgg23 sizeOf23 (Lgs.ans (z := ((kd, key, dm, data), [])) hlgs (i := k) hkl).1 (len_map (Lgs.ans (z := ((kd, key, dm, data), [])) hlgs (i := k) hkl).2) (by decide)) ?_)))))))
   refine WL.storeA [] [(32, (zB 32).map vu8)] [(32, ((lg.getD k ((kd, key, dm, data), [])).2).map vu8)] [] h_22 rfl rfl sizeOf23 Y1 (by decide) rfl rfl rfl rfl rfl rfl (sC (s8 ((Lgs.ans (z := ((kd, key, dm, data), [])) hlgs (i := k) hkl).2)) sN) (fun w_25 h_26 => ?_)
   refine WL.nil (thn_n (WP.ret (inb_r (thn_r (thn_r (inb_r (thn_r ?_)))))))
   refine ret_of results102 (RV.cell rfl (h_26.loadA (cs := ((lg.getD k ((kd, key, dm, data), [])).2).map vu8) isAgg23 sizeOf23 M1 rfl rfl) RV.nil) ?_
   have h_35 := ((((((((h_26.drop rfl).drop rfl).drop rfl).drop rfl).up J4).up J4).up J4).up J4).up J4
   exact ⟨la, lc, lx, by rw [anD_hit hfd]; rfl, by rw [anU_hit hfd, anL_hit hfd]; exact h_35⟩
  ·have p_36 := of_decide_eq_false c_23
   refine WP.skip (inb_n (thn_n (WP.reg ?_)))
   refine qM (vn k) rfl rfl (qV rfl (R.bin rfl rfl (bi_add (c := ((k + 1 : Nat) : Int)) (by omega) (by omega))) (qA (vn (k + 1)) rfl rfl ?_))
   refine WL.nil (thn_n ?_)
   have h_45 := ((((((((h_22.drop rfl).up J7).up J7).up J7).up J7).up J7).up J7).up J7).up J7
   exact ⟨k + 1, _, (by omega), (U4 rfl rfl rfl rfl (U4 rfl rfl rfl rfl (U4 rfl rfl rfl rfl (U4 rfl rfl rfl rfl (U4 rfl rfl rfl rfl (Ag.updL rfl (Ag.mix _ _ _))))))), ⟨rfl, trivial⟩, h_45, (by omega), (fun j hj => (Nat.lt_or_eq_of_le (Nat.le_of_lt_succ hj)).elim (fun e => hno j e) (fun e => by rw [e]; exact p_36)), rfl⟩
 ·have p_46 := of_decide_eq_false c_14
  refine WP.exit (thn_x (thn_x (inb_hit (thn_n (WP.seq ?_)))))
  have hfd : fdq (kd, key, dm, data) lg 0 = none := fdq_no (z := ((kd, key, dm, data), [])) (fun j hj => hno j (by omega))
  refine WP.reg ?_
  refine qV rfl (R.loadA [] [(32, cd.map vu8)] [] (cs := cd.map vu8) rfl isAgg23 sizeOf23 (h_11.ok _ M1) rfl rfl rfl rfl) ?_
  refine WL.alloc (segs := [(32, (zB 32).map vu8)]) h_11 (zv typeInfo23 rfl) rfl (sC (s8 lr) sN) rfl (fun b_47 w_48 h_49 => ?_)
  refine WL.storeA [] [(32, (zB 32).map vu8)] [(32, cd.map vu8)] [] h_49 rfl rfl sizeOf23 At.h (by decide) rfl rfl rfl rfl rfl rfl (sC (s8 hcdl) sN) (fun w_50 h_51 => ?_)
  refine WL.nil (thn_n (WP.seq (WP.seq (WP.reg ?_))))
  refine qM (pO ob 0) rfl rfl (qV rfl (R.nilCheck rfl) (qV rfl (R.fieldAddr (off' := 0) rfl underlying47 rfl sizeOf4 rfl rfl) (qV rfl (R.load1 rfl isAgg4 (h_51.ok _ M4) Sg.h) ?_)))
  refine WL.nil (thn_n ?_)
  refine WP.cond (b := id) rfl (fun c_52 => ?_) (fun c_52 => ?_)
  ·refine WP.seq (WP.reg ?_)
   refine qM (pO ob 0) rfl rfl (qM (pO ob 0) rfl rfl (qV rfl (R.nilCheck rfl) (qV rfl (R.fieldAddr (off' := 34) rfl underlying47 rfl sizeOf3 rfl rfl) (qV rfl (R.load1 rfl isAgg3 (h_51.ok _ M4) (Sg.t rfl (Sg.t rfl (Sg.t rfl Sg.h)))) ?_))))
   refine WL.call Tryz.call92 rfl rfl (c_rDraw id ob ms df hms da dn dc u u hdf la lg.length lc (by omega) _ (viewV (h_51.ok _ M7)) (h_51.argR M4)) rfl ?_
   rintro _ w_54 ⟨rfl, hc_53⟩
   have h_55 := h_51.same hc_53
   refine WL.storeA [] [(32, cd.map vu8)] [(32, (drawF df dn u).map vu8)] [] h_55 rfl rfl sizeOf23 At.h (by decide) rfl rfl rfl rfl rfl rfl (sC (s8 (drawF_len hdf)) sN) (fun w_56 h_57 => ?_)
   refine WL.nil (thn_n (WP.reg ?_))
   refine qM (pO ob 0) rfl rfl (qV rfl (R.nilCheck rfl) (qV rfl (R.fieldAddr (off' := 34) rfl underlying47 rfl sizeOf3 rfl rfl) (qV rfl (R.load1 rfl isAgg3 (h_57.ok _ M4) (Sg.t rfl (Sg.t rfl (Sg.t rfl Sg.h)))) (qV rfl (R.bin rfl rfl (bi_add (c := ((u + 1 : Nat) : Int)) (by omega) (by omega))) (qV rfl (R.nilCheck rfl) (qV rfl (R.fieldAddr (off' := 34) rfl underlying47 rfl sizeOf3 rfl rfl) ?_))))))
   refine WL.store1 h_57 rfl rfl sizeOf3 rfl Y4 (by decide) (Sg.t rfl (Sg.t rfl (Sg.t rfl Sg.h))) (fun w_58 h_59 => ?_)
   refine WL.nil (thn_n (WP.seq (WP.reg ?_)))
   refine qV rfl (R.fieldAddr (off' := 34) rfl underlying90 rfl sizeOf88 rfl rfl) (qV rfl (R.load1 rfl isAgg88 (h_59.ok _ M3) (Sg.t rfl (Sg.t rfl (Sg.t rfl Sg.h)))) ?_)
   have h_60 := h_59.rowNil 5 1
   refine WL.append (km := qn) (xs := []) (ys := data.map vu8) (zs := (([] : List UInt8) ++ data).map vu8) h_60 rfl rfl el88 (viewV (h_60.ok _ M9)) ((len_map hdl).trans (Nat.mul_one _).symm) (one_u8 _) (by simp only [List.map_append, List.map_nil]) (by omega) (by omega) (by omega) (fun _ _ => At.h) rfl (fun a_61 c_62 w_63 h_64 => ?_)
   refine qV rfl (R.fieldAddr (off' := 34) rfl underlying90 rfl sizeOf88 rfl rfl) ?_
   refine WL.store1 h_64 rfl rfl sizeOf88 rfl Y4 (by decide) (Sg.t rfl (Sg.t rfl (Sg.t rfl Sg.h))) (fun w_65 h_66 => ?_)
   refine WL.nil (thn_n (WP.seq ?_))
   refine WP.cutG (G := Nat × Option Addr × Nat) [58, 59, 60, 61, 62, 63, 64, 65, 66, 67, 68, 69] (fun (bY11Y8Y0Y0, aY11Y9Y0Y0, cY11Y9Y0Y0) => [(58, (pO ob 0)), (59, (pO ob 0)), (60, (pO ob 0)), (61, (pO ob 35)), (63, (.agg ⟨flat [(1, [(vi kd)]), (32, key.map vu8), (1, [(vi dm)]), (1, [(.slice a_61 qn c_62)])]⟩)), (64, (.agg ⟨(drawF df dn u).map vu8⟩)), (65, (.agg ⟨flat [(1, [(vi kd)]), (32, key.map vu8), (1, [(vi dm)]), (1, [(.slice a_61 qn c_62)]), (32, (drawF df dn u).map vu8)]⟩)), (62, (.slice la lg.length lc)), (66, (.slice (some ⟨bY11Y8Y0Y0, 0, none⟩) 1 1)), (67, (.slice aY11Y9Y0Y0 (lg.length + 1) cY11Y9Y0Y0)), (68, (pO ob 0)), (69, (pO ob 35))]) (fun (bY11Y8Y0Y0, aY11Y9Y0Y0, cY11Y9Y0Y0) w1 => HP w00 w1 (Ent.blk bY11Y8Y0Y0 .nw 96 [(67, aC (kd, key, dm, data) (.slice a_61 qn c_62) (drawF df dn u))] :: Ent.row a_61 qn c_62 5 1 ((([] : List UInt8) ++ data).map vu8) :: Ent.blk b_47 .nw 23 [(32, (drawF df dn u).map vu8)] :: Ent.blk b_7 .nw 23 [(32, (zB 32).map vu8)] :: Ent.blk b_4 .nw 23 [(32, cd.map vu8)] :: Ent.blk b_1 .nw 90 [(1, [(vi kd)]), (32, key.map vu8), (1, [(vi dm)]), (1, [(.slice a_61 qn c_62)])] :: Ent.blk ob .nw 47 [(1, [(.bool id)]), (32, ms.map vu8), (1, [(.slice da dn dc)]), (1, [(vn (u + 1))]), (1, [(.slice aY11Y9Y0Y0 (lg.length + 1) cY11Y9Y0Y0)])] :: Ent.row aY11Y9Y0Y0 (lg.length + 1) cY11Y9Y0Y0 96 67 (lx ++ aC (kd, key, dm, data) (.slice a_61 qn c_62) (drawF df dn u)) :: Ent.pin (sblks lx) (fun w => Lgs w lx lg) :: Ent.view da (df.map vu8) :: Ent.view qa (data.map vu8) :: L)) ?_ ?_
   ·refine WP.drawT (SL w00.heap.size [.row a_61 qn c_62 5 1 ((([] : List UInt8) ++ data).map vu8), .blk b_47 .nw 23 [(32, (drawF df dn u).map vu8)], .blk b_7 .nw 23 [(32, (zB 32).map vu8)], .blk b_4 .nw 23 [(32, cd.map vu8)], .blk b_1 .nw 90 [(1, [(vi kd)]), (32, key.map vu8), (1, [(vi dm)]), (1, [(.slice a_61 qn c_62)])], .pin (sblks lx) (fun w => Lgs w lx lg), .view da (df.map vu8), .view qa (data.map vu8)]) (.q 0 (.q 1 (.q 2 (.q 3 (.q 5 (.q 6 (.q 7 (.s2 4 8 (.s 8 (.s 9 (.q 10 (.q 11 (.s 12 .nil))))) (.s 4 (.s 9 (.q 10 (.q 11 (.s 12 .nil))))))))))))) (by kernel_rfl) (by kernel_rfl) rfl (by kernel_rfl) (fun w_67 hc_69 => (SL.cons ((h_66.same hc_69).ok _ M0) (SL.cons ((h_66.same hc_69).ok _ M1) (SL.cons ((h_66.same hc_69).ok _ M2) (SL.cons ((h_66.same hc_69).ok _ M3) (SL.cons ((h_66.same hc_69).ok _ M4) (SL.cons ((h_66.same hc_69).ok _ M7) (SL.cons ((h_66.same hc_69).ok _ M8) (SL.cons ((h_66.same hc_69).ok _ M9) (SL.nil _ _)))))))))) (fun w_67 hc_69 => ?_)
    have h_68 := h_66.same hc_69
    refine qT rfl rfl (fun wq hS => R.move (v := (pO ob 0)) rfl) ?_
    refine qT rfl rfl (fun wq hS => R.move (v := (pO ob 0)) rfl) ?_
    refine qT rfl rfl (fun wq hS => R.nilCheck rfl) ?_
    refine qT rfl rfl (fun wq hS => R.fieldAddr (off' := 35) rfl underlying47 rfl sizeOf44 rfl rfl) ?_
    refine qT rfl rfl (fun wq hS => R.loadA [] [(1, [(vi kd)]), (32, key.map vu8), (1, [(vi dm)]), (1, [(.slice a_61 qn c_62)])] [] rfl isAgg90 sizeOf90 (hS _ M4) rfl rfl rfl rfl) ?_
    refine qT rfl rfl (fun wq hS => R.loadA [] [(32, (drawF df dn u).map vu8)] [] (cs := (drawF df dn u).map vu8) rfl isAgg23 sizeOf23 (hS _ M1) rfl rfl rfl rfl) ?_
    refine qT rfl rfl (fun wq hS => R.buildS (pl := [(0, 35), (35, 32)]) (zs := [(1, [(vi 0)]), (32, (zB 32).map vu8), (1, [(vi 0)]), (1, [(.slice none 0 0)]), (32, (zB 32).map vu8)]) (vs := [(0, (.agg ⟨flat [(1, [(vi kd)]), (32, key.map vu8), (1, [(vi dm)]), (1, [(.slice a_61 qn c_62)])]⟩)), (1, (.agg ⟨(drawF df dn u).map vu8⟩))]) (out := [(1, [(vi kd)]), (32, key.map vu8), (1, [(vi dm)]), (1, [(.slice a_61 qn c_62)]), (32, (drawF df dn u).map vu8)]) underlying96 (zv typeInfo96 rfl) rfl (sC sV (sC (s8 lr) (sC sV (sC sV (sC (s8 lr) sN))))) (pl96 _ underlying96) rfl (FillR.cons [] [(1, [(vi 0)]), (32, (zB 32).map vu8), (1, [(vi 0)]), (1, [(.slice none 0 0)])] [(1, [(vi kd)]), (32, key.map vu8), (1, [(vi dm)]), (1, [(.slice a_61 qn c_62)])] [(32, (zB 32).map vu8)] rfl rfl rfl rfl (sC sV (sC (s8 hq.1) (sC sV (sC sV sN)))) rfl rfl rfl (FillR.cons [(1, [(vi kd)]), (32, key.map vu8), (1, [(vi dm)]), (1, [(.slice a_61 qn c_62)])] [(32, (zB 32).map vu8)] [(32, (drawF df dn u).map vu8)] [] rfl rfl rfl rfl (sC (s8 (drawF_len hdf)) sN) rfl rfl rfl FillR.nil)) rfl) ?_
    refine WT.s2 ?_ ?_
    ·refine oN rfl ?_
     refine qV rfl (R.load1 rfl isAgg44 (h_68.ok _ M5) (Sg.t rfl (Sg.t rfl (Sg.t rfl (Sg.t rfl Sg.h))))) ?_
     refine WL.nil ?_
     refine ⟨(N0_1_2_3_4_7_8_9 h_68.ok), ?_⟩
     refine WT.s (oN rfl ?_)
     refine WL.buildSl (vs := [(0, (.agg ⟨flat [(1, [(vi kd)]), (32, key.map vu8), (1, [(vi dm)]), (1, [(.slice a_61 qn c_62)]), (32, (drawF df dn u).map vu8)]⟩))]) (cs := aC (kd, key, dm, data) (.slice a_61 qn c_62) (drawF df dn u)) h_68 underlying44 sizeOf96 (zv typeInfo96 rfl) rfl rfl (fill_1 (zc := flat [(1, [vi 0]), (32, List.replicate 32 (vu8 0)), (1, [vi 0]), (1, [.slice none 0 0]), (32, List.replicate 32 (vu8 0))]) (by kernel_rfl) (sC (s := (67, flat [(1, [vi 0]), (32, List.replicate 32 (vu8 0)), (1, [vi 0]), (1, [.slice none 0 0]), (32, List.replicate 32 (vu8 0))])) ⟨by decide, SsOk.one (sC sV (sC (SOk.rep rfl) (sC sV (sC sV (sC (SOk.rep rfl) sN)))))⟩ sN) (aC_ok (q := (kd, key, dm, data)) (s := (.slice a_61 qn c_62)) (d := drawF df dn u) hq.1 (drawF_len hdf) rfl)) ((aC_ok (q := (kd, key, dm, data)) (s := (.slice a_61 qn c_62)) (d := drawF df dn u) hq.1 (drawF_len hdf) rfl)).head.len ((aC_ok (q := (kd, key, dm, data)) (s := (.slice a_61 qn c_62)) (d := drawF df dn u) hq.1 (drawF_len hdf) rfl)).head.one rfl rfl (fun b_71 w_72 h_73 => ?_)
     refine WL.nil ?_
     refine ⟨(N1_2_3_4_5_8_9_10 h_73.ok), ?_⟩
     refine WT.s (oN rfl ?_)
     refine WL.append (km := lg.length + 1) (xs := lx) (ys := aC (kd, key, dm, data) (.slice a_61 qn c_62) (drawF df dn u)) (zs := lx ++ aC (kd, key, dm, data) (.slice a_61 qn c_62) (drawF df dn u)) h_73 rfl rfl el44 (viewB (h_73.ok _ M0) Sg.h) ((aC_ok (q := (kd, key, dm, data)) (s := (.slice a_61 qn c_62)) (d := drawF df dn u) hq.1 (drawF_len hdf) rfl)).head.len ((aC_ok (q := (kd, key, dm, data)) (s := (.slice a_61 qn c_62)) (d := drawF df dn u) hq.1 (drawF_len hdf) rfl)).head.one rfl (by omega) (by omega) (by omega) (fun _ _ => Y7) rfl (fun a_74 c_75 w_76 h_77 => ?_)
     refine WL.nil ?_
     refine ⟨(N1_2_3_4_5_8_9_10 h_77.ok), ?_⟩
     refine qT rfl rfl (fun wq hS => R.nilCheck rfl) ?_
     refine qT rfl rfl (fun wq hS => R.fieldAddr (off' := 35) rfl underlying47 rfl sizeOf44 rfl rfl) ?_
     refine WT.s (oN rfl ?_)
     refine WL.store1 h_77 rfl rfl sizeOf44 rfl Y6 (by decide) (Sg.t rfl (Sg.t rfl (Sg.t rfl (Sg.t rfl Sg.h)))) (fun w_78 h_79 => ?_)
     refine WL.nil ?_
     refine ⟨(N1_2_3_4_5_8_9_10 h_79.ok), ?_⟩
     refine WT.nil (thn_n ?_)
     exact ⟨(b_71, a_74, c_75), (U4 rfl rfl rfl rfl (U4 rfl rfl rfl rfl (U4 rfl rfl rfl rfl (Ag.refl _ _)))), ⟨rfl, rfl, rfl, rfl, rfl, rfl, rfl, rfl, rfl, rfl, rfl, rfl, trivial⟩, h_79⟩
    ·refine oN rfl ?_
     refine WL.buildSl (vs := [(0, (.agg ⟨flat [(1, [(vi kd)]), (32, key.map vu8), (1, [(vi dm)]), (1, [(.slice a_61 qn c_62)]), (32, (drawF df dn u).map vu8)]⟩))]) (cs := aC (kd, key, dm, data) (.slice a_61 qn c_62) (drawF df dn u)) h_68 underlying44 sizeOf96 (zv typeInfo96 rfl) rfl rfl (fill_1 (zc := flat [(1, [vi 0]), (32, List.replicate 32 (vu8 0)), (1, [vi 0]), (1, [.slice none 0 0]), (32, List.replicate 32 (vu8 0))]) (by kernel_rfl) (sC (s := (67, flat [(1, [vi 0]), (32, List.replicate 32 (vu8 0)), (1, [vi 0]), (1, [.slice none 0 0]), (32, List.replicate 32 (vu8 0))])) ⟨by decide, SsOk.one (sC sV (sC (SOk.rep rfl) (sC sV (sC sV (sC (SOk.rep rfl) sN)))))⟩ sN) (aC_ok (q := (kd, key, dm, data)) (s := (.slice a_61 qn c_62)) (d := drawF df dn u) hq.1 (drawF_len hdf) rfl)) ((aC_ok (q := (kd, key, dm, data)) (s := (.slice a_61 qn c_62)) (d := drawF df dn u) hq.1 (drawF_len hdf) rfl)).head.len ((aC_ok (q := (kd, key, dm, data)) (s := (.slice a_61 qn c_62)) (d := drawF df dn u) hq.1 (drawF_len hdf) rfl)).head.one rfl rfl (fun b_80 w_81 h_82 => ?_)
     refine WL.nil ?_
     refine ⟨(N1_2_3_4_5_8_9_10 h_82.ok), ?_⟩
     refine WT.s (oN rfl ?_)
     refine qV rfl (R.load1 rfl isAgg44 (h_82.ok _ M6) (Sg.t rfl (Sg.t rfl (Sg.t rfl (Sg.t rfl Sg.h))))) ?_
     refine WL.nil ?_
     refine ⟨(N1_2_3_4_5_8_9_10 h_82.ok), ?_⟩
     refine WT.s (oN rfl ?_)
     refine WL.append (km := lg.length + 1) (xs := lx) (ys := aC (kd, key, dm, data) (.slice a_61 qn c_62) (drawF df dn u)) (zs := lx ++ aC (kd, key, dm, data) (.slice a_61 qn c_62) (drawF df dn u)) h_82 rfl rfl el44 (viewB (h_82.ok _ M0) Sg.h) ((aC_ok (q := (kd, key, dm, data)) (s := (.slice a_61 qn c_62)) (d := drawF df dn u) hq.1 (drawF_len hdf) rfl)).head.len ((aC_ok (q := (kd, key, dm, data)) (s := (.slice a_61 qn c_62)) (d := drawF df dn u) hq.1 (drawF_len hdf) rfl)).head.one rfl (by omega) (by omega) (by omega) (fun _ _ => Y7) rfl (fun a_83 c_84 w_85 h_86 => ?_)
     refine WL.nil ?_
     refine ⟨(N1_2_3_4_5_8_9_10 h_86.ok), ?_⟩
     refine qT rfl rfl (fun wq hS => R.nilCheck rfl) ?_
     refine qT rfl rfl (fun wq hS => R.fieldAddr (off' := 35) rfl underlying47 rfl sizeOf44 rfl rfl) ?_
     refine WT.s (oN rfl ?_)
     refine WL.store1 h_86 rfl rfl sizeOf44 rfl Y6 (by decide) (Sg.t rfl (Sg.t rfl (Sg.t rfl (Sg.t rfl Sg.h)))) (fun w_87 h_88 => ?_)
     refine WL.nil ?_
     refine ⟨(N1_2_3_4_5_8_9_10 h_88.ok), ?_⟩
     refine WT.nil (thn_n ?_)
     exact ⟨(b_80, a_83, c_84), (U4 rfl rfl rfl rfl (U4 rfl rfl rfl rfl (U4 rfl rfl rfl rfl (Ag.refl _ _)))), ⟨rfl, rfl, rfl, rfl, rfl, rfl, rfl, rfl, rfl, rfl, rfl, rfl, trivial⟩, h_88⟩
   ·rintro ⟨b_92, a_93, c_94⟩ J_89 w_90 h_91
    refine thn_n (WP.seq (WP.reg ?_))
    refine qV rfl (R.loadA [] [(32, (drawF df dn u).map vu8)] [] (cs := (drawF df dn u).map vu8) rfl isAgg23 sizeOf23 (h_91.ok _ M2) rfl rfl rfl rfl) ?_
    refine WL.storeA [] [(32, (zB 32).map vu8)] [(32, (drawF df dn u).map vu8)] [] h_91 rfl rfl sizeOf23 Y3 (by decide) rfl rfl rfl rfl rfl rfl (sC (s8 (drawF_len hdf)) sN) (fun w_95 h_96 => ?_)
    refine WL.nil (thn_n (WP.ret ?_))
    refine ret_of results102 (RV.cell rfl (h_96.loadA (cs := (drawF df dn u).map vu8) isAgg23 sizeOf23 M3 rfl rfl) RV.nil) ?_
    have h_111 := ((((((((((((((h_96.drop rfl).up J1).drop rfl).up J1).drop rfl).up J1).drop rfl).up J1).drop rfl).up J5).up J5).up J4).up J4).up J5).up J5
    have h_112 := HP_logPush (q := (kd, key, dm, data)) (d := drawF df dn u) h_111 hq (drawF_len hdf) (lenApp (a := 0) (b := qn) (rfl : List.length ([] : List UInt8) = 0) hdl (by omega) : List.length (([] : List UInt8) ++ data) = qn)
    have h_122 := ((((((((h_112.up J1).drop rfl).up J1).drop rfl).up J4).up J4).up J2).up J4).up J4
    have hmf : mF id df dn u (kd, key, dm, data) = drawF df dn u := by rw [mF, c_52]; rfl
    have hu2 : (bif id then u + 1 else u) = u + 1 := by rw [c_52]; rfl
    have hse : lg.length + 1 = (lg ++ [((kd, key, dm, data), drawF df dn u)]).length := snoc_len.symm
    have h_113 := h_122
    rw [hse] at h_113
    exact ⟨_, _, _, by rw [anD_miss hfd, hmf]; rfl, by rw [anU_miss hfd, anL_miss hfd, hmf, hu2]; exact h_113⟩
  ·refine WP.skip (thn_n (WP.seq (WP.reg ?_)))
   refine qV rfl (R.fieldAddr (off' := 34) rfl underlying90 rfl sizeOf88 rfl rfl) (qV rfl (R.load1 rfl isAgg88 (h_51.ok _ M3) (Sg.t rfl (Sg.t rfl (Sg.t rfl Sg.h)))) ?_)
   have h_123 := h_51.rowNil 5 1
   refine WL.append (km := qn) (xs := []) (ys := data.map vu8) (zs := (([] : List UInt8) ++ data).map vu8) h_123 rfl rfl el88 (viewV (h_123.ok _ M9)) ((len_map hdl).trans (Nat.mul_one _).symm) (one_u8 _) (by simp only [List.map_append, List.map_nil]) (by omega) (by omega) (by omega) (fun _ _ => At.h) rfl (fun a_124 c_125 w_126 h_127 => ?_)
   refine qV rfl (R.fieldAddr (off' := 34) rfl underlying90 rfl sizeOf88 rfl rfl) ?_
   refine WL.store1 h_127 rfl rfl sizeOf88 rfl Y4 (by decide) (Sg.t rfl (Sg.t rfl (Sg.t rfl Sg.h))) (fun w_128 h_129 => ?_)
   refine WL.nil (thn_n (WP.seq ?_))
   refine WP.cutG (G := Nat × Option Addr × Nat) [58, 59, 60, 61, 62, 63, 64, 65, 66, 67, 68, 69] (fun (bY11Y8Y0Y0, aY11Y9Y0Y0, cY11Y9Y0Y0) => [(58, (pO ob 0)), (59, (pO ob 0)), (60, (pO ob 0)), (61, (pO ob 35)), (63, (.agg ⟨flat [(1, [(vi kd)]), (32, key.map vu8), (1, [(vi dm)]), (1, [(.slice a_124 qn c_125)])]⟩)), (64, (.agg ⟨cd.map vu8⟩)), (65, (.agg ⟨flat [(1, [(vi kd)]), (32, key.map vu8), (1, [(vi dm)]), (1, [(.slice a_124 qn c_125)]), (32, cd.map vu8)]⟩)), (62, (.slice la lg.length lc)), (66, (.slice (some ⟨bY11Y8Y0Y0, 0, none⟩) 1 1)), (67, (.slice aY11Y9Y0Y0 (lg.length + 1) cY11Y9Y0Y0)), (68, (pO ob 0)), (69, (pO ob 35))]) (fun (bY11Y8Y0Y0, aY11Y9Y0Y0, cY11Y9Y0Y0) w1 => HP w00 w1 (Ent.blk bY11Y8Y0Y0 .nw 96 [(67, aC (kd, key, dm, data) (.slice a_124 qn c_125) cd)] :: Ent.row a_124 qn c_125 5 1 ((([] : List UInt8) ++ data).map vu8) :: Ent.blk b_47 .nw 23 [(32, cd.map vu8)] :: Ent.blk b_7 .nw 23 [(32, (zB 32).map vu8)] :: Ent.blk b_4 .nw 23 [(32, cd.map vu8)] :: Ent.blk b_1 .nw 90 [(1, [(vi kd)]), (32, key.map vu8), (1, [(vi dm)]), (1, [(.slice a_124 qn c_125)])] :: Ent.blk ob .nw 47 [(1, [(.bool id)]), (32, ms.map vu8), (1, [(.slice da dn dc)]), (1, [(vn u)]), (1, [(.slice aY11Y9Y0Y0 (lg.length + 1) cY11Y9Y0Y0)])] :: Ent.row aY11Y9Y0Y0 (lg.length + 1) cY11Y9Y0Y0 96 67 (lx ++ aC (kd, key, dm, data) (.slice a_124 qn c_125) cd) :: Ent.pin (sblks lx) (fun w => Lgs w lx lg) :: Ent.view da (df.map vu8) :: Ent.view qa (data.map vu8) :: L)) ?_ ?_
   ·refine WP.drawT (SL w00.heap.size [.row a_124 qn c_125 5 1 ((([] : List UInt8) ++ data).map vu8), .blk b_47 .nw 23 [(32, cd.map vu8)], .blk b_7 .nw 23 [(32, (zB 32).map vu8)], .blk b_4 .nw 23 [(32, cd.map vu8)], .blk b_1 .nw 90 [(1, [(vi kd)]), (32, key.map vu8), (1, [(vi dm)]), (1, [(.slice a_124 qn c_125)])], .pin (sblks lx) (fun w => Lgs w lx lg), .view da (df.map vu8), .view qa (data.map vu8)]) (.q 0 (.q 1 (.q 2 (.q 3 (.q 5 (.q 6 (.q 7 (.s2 4 8 (.s 8 (.s 9 (.q 10 (.q 11 (.s 12 .nil))))) (.s 4 (.s 9 (.q 10 (.q 11 (.s 12 .nil))))))))))))) (by kernel_rfl) (by kernel_rfl) rfl (by kernel_rfl) (fun w_130 hc_132 => (SL.cons ((h_129.same hc_132).ok _ M0) (SL.cons ((h_129.same hc_132).ok _ M1) (SL.cons ((h_129.same hc_132).ok _ M2) (SL.cons ((h_129.same hc_132).ok _ M3) (SL.cons ((h_129.same hc_132).ok _ M4) (SL.cons ((h_129.same hc_132).ok _ M7) (SL.cons ((h_129.same hc_132).ok _ M8) (SL.cons ((h_129.same hc_132).ok _ M9) (SL.nil _ _)))))))))) (fun w_130 hc_132 => ?_)
    have h_131 := h_129.same hc_132
    refine qT rfl rfl (fun wq hS => R.move (v := (pO ob 0)) rfl) ?_
    refine qT rfl rfl (fun wq hS => R.move (v := (pO ob 0)) rfl) ?_
    refine qT rfl rfl (fun wq hS => R.nilCheck rfl) ?_
    refine qT rfl rfl (fun wq hS => R.fieldAddr (off' := 35) rfl underlying47 rfl sizeOf44 rfl rfl) ?_
    refine qT rfl rfl (fun wq hS => R.loadA [] [(1, [(vi kd)]), (32, key.map vu8), (1, [(vi dm)]), (1, [(.slice a_124 qn c_125)])] [] rfl isAgg90 sizeOf90 (hS _ M4) rfl rfl rfl rfl) ?_
    refine qT rfl rfl (fun wq hS => R.loadA [] [(32, cd.map vu8)] [] (cs := cd.map vu8) rfl isAgg23 sizeOf23 (hS _ M1) rfl rfl rfl rfl) ?_
    refine qT rfl rfl (fun wq hS => R.buildS (pl := [(0, 35), (35, 32)]) (zs := [(1, [(vi 0)]), (32, (zB 32).map vu8), (1, [(vi 0)]), (1, [(.slice none 0 0)]), (32, (zB 32).map vu8)]) (vs := [(0, (.agg ⟨flat [(1, [(vi kd)]), (32, key.map vu8), (1, [(vi dm)]), (1, [(.slice a_124 qn c_125)])]⟩)), (1, (.agg ⟨cd.map vu8⟩))]) (out := [(1, [(vi kd)]), (32, key.map vu8), (1, [(vi dm)]), (1, [(.slice a_124 qn c_125)]), (32, cd.map vu8)]) underlying96 (zv typeInfo96 rfl) rfl (sC sV (sC (s8 lr) (sC sV (sC sV (sC (s8 lr) sN))))) (pl96 _ underlying96) rfl (FillR.cons [] [(1, [(vi 0)]), (32, (zB 32).map vu8), (1, [(vi 0)]), (1, [(.slice none 0 0)])] [(1, [(vi kd)]), (32, key.map vu8), (1, [(vi dm)]), (1, [(.slice a_124 qn c_125)])] [(32, (zB 32).map vu8)] rfl rfl rfl rfl (sC sV (sC (s8 hq.1) (sC sV (sC sV sN)))) rfl rfl rfl (FillR.cons [(1, [(vi kd)]), (32, key.map vu8), (1, [(vi dm)]), (1, [(.slice a_124 qn c_125)])] [(32, (zB 32).map vu8)] [(32, cd.map vu8)] [] rfl rfl rfl rfl (sC (s8 hcdl) sN) rfl rfl rfl FillR.nil)) rfl) ?_
    refine WT.s2 ?_ ?_
    ·refine oN rfl ?_
     refine qV rfl (R.load1 rfl isAgg44 (h_131.ok _ M5) (Sg.t rfl (Sg.t rfl (Sg.t rfl (Sg.t rfl Sg.h))))) ?_
     refine WL.nil ?_
     refine ⟨(N0_1_2_3_4_7_8_9 h_131.ok), ?_⟩
     refine WT.s (oN rfl ?_)
     refine WL.buildSl (vs := [(0, (.agg ⟨flat [(1, [(vi kd)]), (32, key.map vu8), (1, [(vi dm)]), (1, [(.slice a_124 qn c_125)]), (32, cd.map vu8)]⟩))]) (cs := aC (kd, key, dm, data) (.slice a_124 qn c_125) cd) h_131 underlying44 sizeOf96 (zv typeInfo96 rfl) rfl rfl (fill_1 (zc := flat [(1, [vi 0]), (32, List.replicate 32 (vu8 0)), (1, [vi 0]), (1, [.slice none 0 0]), (32, List.replicate 32 (vu8 0))]) (by kernel_rfl) (sC (s := (67, flat [(1, [vi 0]), (32, List.replicate 32 (vu8 0)), (1, [vi 0]), (1, [.slice none 0 0]), (32, List.replicate 32 (vu8 0))])) ⟨by decide, SsOk.one (sC sV (sC (SOk.rep rfl) (sC sV (sC sV (sC (SOk.rep rfl) sN)))))⟩ sN) (aC_ok (q := (kd, key, dm, data)) (s := (.slice a_124 qn c_125)) (d := cd) hq.1 hcdl rfl)) ((aC_ok (q := (kd, key, dm, data)) (s := (.slice a_124 qn c_125)) (d := cd) hq.1 hcdl rfl)).head.len ((aC_ok (q := (kd, key, dm, data)) (s := (.slice a_124 qn c_125)) (d := cd) hq.1 hcdl rfl)).head.one rfl rfl (fun b_134 w_135 h_136 => ?_)
     refine WL.nil ?_
     refine ⟨(N1_2_3_4_5_8_9_10 h_136.ok), ?_⟩
     refine WT.s (oN rfl ?_)
     refine WL.append (km := lg.length + 1) (xs := lx) (ys := aC (kd, key, dm, data) (.slice a_124 qn c_125) cd) (zs := lx ++ aC (kd, key, dm, data) (.slice a_124 qn c_125) cd) h_136 rfl rfl el44 (viewB (h_136.ok _ M0) Sg.h) ((aC_ok (q := (kd, key, dm, data)) (s := (.slice a_124 qn c_125)) (d := cd) hq.1 hcdl rfl)).head.len ((aC_ok (q := (kd, key, dm, data)) (s := (.slice a_124 qn c_125)) (d := cd) hq.1 hcdl rfl)).head.one rfl (by omega) (by omega) (by omega) (fun _ _ => Y7) rfl (fun a_137 c_138 w_139 h_140 => ?_)
     refine WL.nil ?_
     refine ⟨(N1_2_3_4_5_8_9_10 h_140.ok), ?_⟩
     refine qT rfl rfl (fun wq hS => R.nilCheck rfl) ?_
     refine qT rfl rfl (fun wq hS => R.fieldAddr (off' := 35) rfl underlying47 rfl sizeOf44 rfl rfl) ?_
     refine WT.s (oN rfl ?_)
     refine WL.store1 h_140 rfl rfl sizeOf44 rfl Y6 (by decide) (Sg.t rfl (Sg.t rfl (Sg.t rfl (Sg.t rfl Sg.h)))) (fun w_141 h_142 => ?_)
     refine WL.nil ?_
     refine ⟨(N1_2_3_4_5_8_9_10 h_142.ok), ?_⟩
     refine WT.nil (thn_n ?_)
     exact ⟨(b_134, a_137, c_138), (U4 rfl rfl rfl rfl (U4 rfl rfl rfl rfl (U4 rfl rfl rfl rfl (Ag.refl _ _)))), ⟨rfl, rfl, rfl, rfl, rfl, rfl, rfl, rfl, rfl, rfl, rfl, rfl, trivial⟩, h_142⟩
    ·refine oN rfl ?_
     refine WL.buildSl (vs := [(0, (.agg ⟨flat [(1, [(vi kd)]), (32, key.map vu8), (1, [(vi dm)]), (1, [(.slice a_124 qn c_125)]), (32, cd.map vu8)]⟩))]) (cs := aC (kd, key, dm, data) (.slice a_124 qn c_125) cd) h_131 underlying44 sizeOf96 (zv typeInfo96 rfl) rfl rfl (fill_1 (zc := flat [(1, [vi 0]), (32, List.replicate 32 (vu8 0)), (1, [vi 0]), (1, [.slice none 0 0]), (32, List.replicate 32 (vu8 0))]) (by kernel_rfl) (sC (s := (67, flat [(1, [vi 0]), (32, List.replicate 32 (vu8 0)), (1, [vi 0]), (1, [.slice none 0 0]), (32, List.replicate 32 (vu8 0))])) ⟨by decide, SsOk.one (sC sV (sC (SOk.rep rfl) (sC sV (sC sV (sC (SOk.rep rfl) sN)))))⟩ sN) (aC_ok (q := (kd, key, dm, data)) (s := (.slice a_124 qn c_125)) (d := cd) hq.1 hcdl rfl)) ((aC_ok (q := (kd, key, dm, data)) (s := (.slice a_124 qn c_125)) (d := cd) hq.1 hcdl rfl)).head.len ((aC_ok (q := (kd, key, dm, data)) (s := (.slice a_124 qn c_125)) (d := cd) hq.1 hcdl rfl)).head.one rfl rfl (fun b_143 w_144 h_145 => ?_)
     refine WL.nil ?_
     refine ⟨(N1_2_3_4_5_8_9_10 h_145.ok), ?_⟩
     refine WT.s (oN rfl ?_)
     refine qV rfl (R.load1 rfl isAgg44 (h_145.ok _ M6) (Sg.t rfl (Sg.t rfl (Sg.t rfl (Sg.t rfl Sg.h))))) ?_
     refine WL.nil ?_
     refine ⟨(N1_2_3_4_5_8_9_10 h_145.ok), ?_⟩
     refine WT.s (oN rfl ?_)
     refine WL.append (km := lg.length + 1) (xs := lx) (ys := aC (kd, key, dm, data) (.slice a_124 qn c_125) cd) (zs := lx ++ aC (kd, key, dm, data) (.slice a_124 qn c_125) cd) h_145 rfl rfl el44 (viewB (h_145.ok _ M0) Sg.h) ((aC_ok (q := (kd, key, dm, data)) (s := (.slice a_124 qn c_125)) (d := cd) hq.1 hcdl rfl)).head.len ((aC_ok (q := (kd, key, dm, data)) (s := (.slice a_124 qn c_125)) (d := cd) hq.1 hcdl rfl)).head.one rfl (by omega) (by omega) (by omega) (fun _ _ => Y7) rfl (fun a_146 c_147 w_148 h_149 => ?_)
     refine WL.nil ?_
     refine ⟨(N1_2_3_4_5_8_9_10 h_149.ok), ?_⟩
     refine qT rfl rfl (fun wq hS => R.nilCheck rfl) ?_
     refine qT rfl rfl (fun wq hS => R.fieldAddr (off' := 35) rfl underlying47 rfl sizeOf44 rfl rfl) ?_
     refine WT.s (oN rfl ?_)
     refine WL.store1 h_149 rfl rfl sizeOf44 rfl Y6 (by decide) (Sg.t rfl (Sg.t rfl (Sg.t rfl (Sg.t rfl Sg.h)))) (fun w_150 h_151 => ?_)
     refine WL.nil ?_
     refine ⟨(N1_2_3_4_5_8_9_10 h_151.ok), ?_⟩
     refine WT.nil (thn_n ?_)
     exact ⟨(b_143, a_146, c_147), (U4 rfl rfl rfl rfl (U4 rfl rfl rfl rfl (U4 rfl rfl rfl rfl (Ag.refl _ _)))), ⟨rfl, rfl, rfl, rfl, rfl, rfl, rfl, rfl, rfl, rfl, rfl, rfl, trivial⟩, h_151⟩
   ·rintro ⟨b_155, a_156, c_157⟩ J_152 w_153 h_154
    refine thn_n (WP.seq (WP.reg ?_))
    refine qV rfl (R.loadA [] [(32, cd.map vu8)] [] (cs := cd.map vu8) rfl isAgg23 sizeOf23 (h_154.ok _ M2) rfl rfl rfl rfl) ?_
    refine WL.storeA [] [(32, (zB 32).map vu8)] [(32, cd.map vu8)] [] h_154 rfl rfl sizeOf23 Y3 (by decide) rfl rfl rfl rfl rfl rfl (sC (s8 hcdl) sN) (fun w_158 h_159 => ?_)
    refine WL.nil (thn_n (WP.ret ?_))
    refine ret_of results102 (RV.cell rfl (h_159.loadA (cs := cd.map vu8) isAgg23 sizeOf23 M3 rfl rfl) RV.nil) ?_
    have h_174 := ((((((((((((((h_159.drop rfl).up J1).drop rfl).up J1).drop rfl).up J1).drop rfl).up J1).drop rfl).up J5).up J5).up J4).up J4).up J5).up J5
    have h_175 := HP_logPush (q := (kd, key, dm, data)) (d := cd) h_174 hq hcdl (lenApp (a := 0) (b := qn) (rfl : List.length ([] : List UInt8) = 0) hdl (by omega) : List.length (([] : List UInt8) ++ data) = qn)
    have h_185 := ((((((((h_175.up J1).drop rfl).up J1).drop rfl).up J4).up J4).up J2).up J4).up J4
    have hmf : mF id df dn u (kd, key, dm, data) = cd := by rw [mF, c_52]; exact (hcd c_52).symm
    have hu2 : (bif id then u + 1 else u) = u := by rw [c_52]; rfl
    have hse : lg.length + 1 = (lg ++ [((kd, key, dm, data), cd)]).length := snoc_len.symm
    have h_176 := h_185
    rw [hse] at h_176
    exact ⟨_, _, _, by rw [anD_miss hfd, hmf]; rfl, by rw [anU_miss hfd, anL_miss hfd, hmf, hu2]; exact h_176⟩

theorem c_rAsk {w00 : World} {L : List Ent} (id : Bool) (ob : Nat) (ms df : List UInt8) (hms : ms.length = 32) (da : Option Addr) (dn dc u : Nat) (hdf : df.length = 32 * dn) (la : Option Addr) (lc : Nat) (lx : List Value) (lg : Lg) (hu : u ≤ 1000000) (hlg : lg.length ≤ 1000000) (kd dm : Int) (key data : List UInt8) (qa : Option Addr) (qn qc : Nat) (hq : okQ (kd, key, dm, data)) (hdl : data.length = qn) (w : World) (h_0 : HP w00 w (Ent.blk ob .nw 47 [(1, [(.bool id)]), (32, ms.map vu8), (1, [(.slice da dn dc)]), (1, [(vi ((u : Nat) : Int))]), (1, [(.slice la lg.length lc)])] :: Ent.row la lg.length lc 96 67 lx :: Ent.pin (sblks lx) (fun w => Lgs w lx lg) :: Ent.view da (df.map vu8) :: Ent.view qa (data.map vu8) :: L)) :
  Cs Tryz.prog 83 [(.pointer (some ⟨ob, 0, none⟩)), (.agg ⟨flat [(1, [(vi kd)]), (32, key.map vu8), (1, [(vi dm)]), (1, [(.slice qa qn qc)])]⟩)].toArray w (fun v w1 => ∃ la' lc' lx', v = (.agg ⟨(anD id df dn u lg (kd, key, dm, data)).map vu8⟩) ∧ HP w00 w1 (Ent.blk ob .nw 47 [(1, [(.bool id)]), (32, ms.map vu8), (1, [(.slice da dn dc)]), (1, [(vi (((anU id u lg (kd, key, dm, data)) : Nat) : Int))]), (1, [(.slice la' ((anL id df dn u lg (kd, key, dm, data)).length) lc')])] :: Ent.row la' ((anL id df dn u lg (kd, key, dm, data)).length) lc' 96 67 lx' :: Ent.pin (sblks lx') (fun w => Lgs w lx' (anL id df dn u lg (kd, key, dm, data))) :: Ent.view da (df.map vu8) :: Ent.view qa (data.map vu8) :: L)) := by
 have hk1 : 1 ≤ kd ∧ kd ≤ 4 := hq.2.1
 have hd1 : 1 ≤ dm ∧ dm ≤ 16 := hq.2.2.1
 have hqn : data.length ≤ 1000000000 := hq.2.2.2
 refine Cs.of (n := 26) (args := [(pO ob 0), (.agg ⟨flat [(1, [(vi kd)]), (32, key.map vu8), (1, [(vi dm)]), (1, [(.slice qa qn qc)])]⟩)]) Tryz.func83 rfl rfl rfl ?_
 refine WP.seq (WP.reg ?_)
 refine WL.box (segs := [(1, [(vi kd)]), (32, key.map vu8), (1, [(vi dm)]), (1, [(.slice qa qn qc)])]) h_0 rfl rfl (sC sV (sC (s8 hq.1) (sC sV (sC sV sN)))) rfl (fun b_1 w_2 h_3 => ?_)
 refine WL.alloc (segs := [(32, (zB 32).map vu8)]) h_3 (zv typeInfo23 rfl) rfl (sC (s8 lr) sN) rfl (fun b_4 w_5 h_6 => ?_)
 refine WL.nil (thn_n (WP.seq (WP.reg ?_)))
 refine WL.alloc (segs := [(32, (zB 32).map vu8)]) h_6 (zv typeInfo23 rfl) rfl (sC (s8 lr) sN) rfl (fun b_7 w_8 h_9 => ?_)
 refine WL.nil (thn_n (WP.seq (WP.seq (WP.reg ?_))))
 refine qM (pO ob 0) rfl rfl (qV rfl (R.nilCheck rfl) (qV rfl (R.fieldAddr (off' := 0) rfl underlying47 rfl sizeOf4 rfl rfl) (qV rfl (R.load1 rfl isAgg4 (h_9.ok _ M3) Sg.h) (qV rfl (R.not (b := id) rfl) ?_))))
 refine WL.nil (thn_n ?_)
 refine WP.cond (b := !id) rfl (fun c_10 => ?_) (fun c_10 => ?_)
 ·refine WP.seq (WP.reg ?_)
  refine qV rfl (R.fieldAddr (off' := 0) rfl underlying90 rfl sizeOf86 rfl rfl) (qV rfl (R.load1 rfl isAgg86 (h_9.ok _ M2) Sg.h) (qV rfl (R.bin rfl rfl (bi_eql (r := decide ((kd : Int) = 1)) rfl)) ?_))
  refine WL.nil (thn_n ?_)
  refine WP.cond (b := decide ((kd : Int) = 1)) rfl (fun c_11 => ?_) (fun c_11 => ?_)
  ·have p_12 := of_decide_eq_true c_11
   refine WP.reg ?_
   refine qV rfl (R.loadA [] [(1, [(vi kd)]), (32, key.map vu8), (1, [(vi dm)]), (1, [(.slice qa qn qc)])] [] rfl isAgg90 sizeOf90 (h_9.ok _ M2) rfl rfl rfl rfl) ?_
   refine WL.call Tryz.call104 rfl rfl (c_rText kd dm key data qa qn qc hq hdl _ (viewV (h_9.ok _ M7))) rfl ?_
   rintro _ w_15 ⟨a_13, cap_14, rfl, hc_16, ho_17⟩
   have h_18 := h_9.gotRow hc_16 ho_17
   refine WL.call Tryz.call103 rfl rfl (c_SumR a_13 (34 + qn) cap_14 (cT (kd, key, dm, data)) (cT_len hq hdl) (by omega) _ (ownView (h_18.ok _ M0))) rfl ?_
   rintro _ w_20 ⟨rfl, hc_19⟩
   have h_21 := h_18.same hc_19
   refine WL.storeA [] [(32, (zB 32).map vu8)] [(32, (sumL (cT (kd, key, dm, data))).map vu8)] [] h_21 rfl rfl sizeOf23 Y1 (by decide) rfl rfl rfl rfl rfl rfl (sC (s8 (sumL_len _)) sN) (fun w_22 h_23 => ?_)
   refine WL.nil (thn_n (WP.seq (WP.reg ?_)))
   refine qM (pO ob 0) rfl rfl (qV rfl (R.loadA [] [(1, [(vi kd)]), (32, key.map vu8), (1, [(vi dm)]), (1, [(.slice qa qn qc)])] [] rfl isAgg90 sizeOf90 (h_23.ok _ M3) rfl rfl rfl rfl) (qV rfl (R.loadA [] [(32, (sumL (cT (kd, key, dm, data))).map vu8)] [] (cs := (sumL (cT (kd, key, dm, data))).map vu8) rfl isAgg23 sizeOf23 (h_23.ok _ M1) rfl rfl rfl rfl) ?_))
   have h_28 := ((((h_23.up J8).up J8).up J8).up J8).up J8
   have h32_w_32 := (Lgs.ok32 (h_28.ok _ M2).1)
   refine WL.call Tryz.call102 rfl rfl (c_rAns id ob ms df hms da dn dc u hdf la lc lx lg hu hlg kd dm key data qa qn qc hq hdl (sumL (cT (kd, key, dm, data))) (sumL_len _) (fun _ => by rw [cF, if_pos p_12]) _ h_28) rfl ?_
   rintro _ w_32 ⟨la_29, lc_30, lx_31, rfl, h_33⟩
   refine WL.storeA [] [(32, (zB 32).map vu8)] [(32, (anD id df dn u lg (kd, key, dm, data)).map vu8)] [] h_33 rfl rfl sizeOf23 Y7 (by decide) rfl rfl rfl rfl rfl rfl (sC (s8 (anD_len hdf h32_w_32)) sN) (fun w_34 h_35 => ?_)
   refine WL.nil (thn_n (WP.ret ?_))
   refine ret_of results83 (RV.cell rfl (h_35.loadA (cs := (anD id df dn u lg (kd, key, dm, data)).map vu8) isAgg23 sizeOf23 M7 rfl rfl) RV.nil) ?_
   have h_48 := ((((((((((((h_35.up J5).drop rfl).up J5).drop rfl).up J5).drop rfl).up J5).drop rfl).up J4).up J4).up J4).up J4).up J4
   exact ⟨_, _, _, rfl, h_48⟩
  ·have p_49 := of_decide_eq_false c_11
   refine WP.drawZ 5 (SL w00.heap.size [.blk b_7 .nw 23 [(32, (zB 32).map vu8)], .blk b_4 .nw 23 [(32, (zB 32).map vu8)], .blk b_1 .nw 90 [(1, [(vi kd)]), (32, key.map vu8), (1, [(vi dm)]), (1, [(.slice qa qn qc)])], .blk ob .nw 47 [(1, [(.bool id)]), (32, ms.map vu8), (1, [(.slice da dn dc)]), (1, [(vn u)]), (1, [(.slice la lg.length lc)])], .row la lg.length lc 96 67 lx, .pin (sblks lx) (fun w => Lgs w lx lg), .view da (df.map vu8), .view qa (data.map vu8)]) (.q 0 (.q 1 (.q 2 (.s 3 (.s 4 (.s 5 .nil)))))) (by kernel_rfl) (by kernel_rfl) rfl (by kernel_rfl) (fun w_50 hc_52 => (SL.cons ((h_9.same hc_52).ok _ M0) (SL.cons ((h_9.same hc_52).ok _ M1) (SL.cons ((h_9.same hc_52).ok _ M2) (SL.cons ((h_9.same hc_52).ok _ M3) (SL.cons ((h_9.same hc_52).ok _ M4) (SL.cons ((h_9.same hc_52).ok _ M5) (SL.cons ((h_9.same hc_52).ok _ M6) (SL.cons ((h_9.same hc_52).ok _ M7) (SL.nil _ _)))))))))) (fun w_50 hc_52 => ?_)
   have h_51 := h_9.same hc_52
   refine ZT.q rfl (Wn.no rfl) rfl rfl (fun wq hS => R.fieldAddr (off' := 1) rfl underlying90 rfl sizeOf23 rfl rfl) ?_
   refine ZT.q rfl (Wn.no rfl) rfl rfl (fun wq hS => R.sliceA (b := b_1) (off := 1) (off' := 1) (l := 0) (h := 32) rfl EvB.dflt EvB.dflt (by decide) (by decide) underlying23 sizeOf5 rfl) ?_
   refine ZT.q rfl (Wn.no rfl) rfl rfl (fun wq hS => R.loadA [] [(1, [(vi kd)]), (32, key.map vu8), (1, [(vi dm)]), (1, [(.slice qa qn qc)])] [] rfl isAgg90 sizeOf90 (hS _ M2) rfl rfl rfl rfl) ?_
   refine ZT.s ?_
   refine OpZ.one rfl (Wn.no rfl) ?_
   refine WL.call Tryz.call104 rfl rfl (c_rText kd dm key data qa qn qc hq hdl _ (viewV (h_51.ok _ M7))) rfl ?_
   rintro _ w_55 ⟨a_53, cap_54, rfl, hc_56, ho_57⟩
   have h_58 := h_51.gotRow hc_56 ho_57
   refine WL.nil ?_
   refine ⟨(N1_2_3_4_5_6_7_8 h_58.ok), ?_⟩
   refine ZT.s ?_
   refine OpZ.one rfl (Wn.no rfl) ?_
   refine WL.call Tryz.call112 rfl rfl (c_TagR (some ⟨b_1, 1, none⟩) 32 32 key hq.1 (by decide) (by decide) a_53 (34 + qn) cap_54 (cT (kd, key, dm, data)) (cT_len hq hdl) (h_58.own M0).2.2.1 (by omega) _ (viewB (h_58.ok _ M3) (Sg.t rfl Sg.h)) (ownView (h_58.ok _ M0))) rfl ?_
   rintro _ w_60 ⟨rfl, hc_59⟩
   have h_61 := h_58.same hc_59
   refine WL.nil ?_
   refine ⟨(N1_2_3_4_5_6_7_8 h_61.ok), ?_⟩
   refine ZT.s ?_
   refine OpZ.last rfl (Wn.no rfl) ?_
   refine WL.storeA [] [(32, (zB 32).map vu8)] [(32, (tagL key (cT (kd, key, dm, data))).map vu8)] [] h_61 rfl rfl sizeOf23 Y1 (by decide) rfl rfl rfl rfl rfl rfl (sC (s8 (tagL_len _ _)) sN) (fun w_62 h_63 => ?_)
   refine WL.nil (ZT.nil (thn_n (WP.seq (WP.reg ?_))))
   refine qM (pO ob 0) rfl rfl (qV rfl (R.loadA [] [(1, [(vi kd)]), (32, key.map vu8), (1, [(vi dm)]), (1, [(.slice qa qn qc)])] [] rfl isAgg90 sizeOf90 (h_63.ok _ M3) rfl rfl rfl rfl) (qV rfl (R.loadA [] [(32, (tagL key (cT (kd, key, dm, data))).map vu8)] [] (cs := (tagL key (cT (kd, key, dm, data))).map vu8) rfl isAgg23 sizeOf23 (h_63.ok _ M1) rfl rfl rfl rfl) ?_))
   have h_68 := ((((h_63.up J8).up J8).up J8).up J8).up J8
   have h32_w_72 := (Lgs.ok32 (h_68.ok _ M2).1)
   refine WL.call Tryz.call102 rfl rfl (c_rAns id ob ms df hms da dn dc u hdf la lc lx lg hu hlg kd dm key data qa qn qc hq hdl (tagL key (cT (kd, key, dm, data))) (tagL_len _ _) (fun _ => by rw [cF, if_neg p_49]) _ h_68) rfl ?_
   rintro _ w_72 ⟨la_69, lc_70, lx_71, rfl, h_73⟩
   refine WL.storeA [] [(32, (zB 32).map vu8)] [(32, (anD id df dn u lg (kd, key, dm, data)).map vu8)] [] h_73 rfl rfl sizeOf23 Y7 (by decide) rfl rfl rfl rfl rfl rfl (sC (s8 (anD_len hdf h32_w_72)) sN) (fun w_74 h_75 => ?_)
   refine WL.nil (thn_n (WP.ret ?_))
   refine ret_of results83 (RV.cell rfl (h_75.loadA (cs := (anD id df dn u lg (kd, key, dm, data)).map vu8) isAgg23 sizeOf23 M7 rfl rfl) RV.nil) ?_
   have h_88 := ((((((((((((h_75.up J5).drop rfl).up J5).drop rfl).up J5).drop rfl).up J5).drop rfl).up J4).up J4).up J4).up J4).up J4
   exact ⟨_, _, _, rfl, h_88⟩
 ·refine WP.skip (thn_n (WP.seq (WP.reg ?_)))
  refine qM (pO ob 0) rfl rfl (qV rfl (R.loadA [] [(1, [(vi kd)]), (32, key.map vu8), (1, [(vi dm)]), (1, [(.slice qa qn qc)])] [] rfl isAgg90 sizeOf90 (h_9.ok _ M2) rfl rfl rfl rfl) (qV rfl (R.loadA [] [(32, (zB 32).map vu8)] [] (cs := (zB 32).map vu8) rfl isAgg23 sizeOf23 (h_9.ok _ M0) rfl rfl rfl rfl) ?_))
  have h_93 := ((((h_9.up J7).up J7).up J7).up J7).up J7
  have h32_w_97 := (Lgs.ok32 (h_93.ok _ M2).1)
  refine WL.call Tryz.call102 rfl rfl (c_rAns id ob ms df hms da dn dc u hdf la lc lx lg hu hlg kd dm key data qa qn qc hq hdl (zB 32) lr (fun h => by rw [h] at c_10; cases c_10) _ h_93) rfl ?_
  rintro _ w_97 ⟨la_94, lc_95, lx_96, rfl, h_98⟩
  refine WL.storeA [] [(32, (zB 32).map vu8)] [(32, (anD id df dn u lg (kd, key, dm, data)).map vu8)] [] h_98 rfl rfl sizeOf23 Y6 (by decide) rfl rfl rfl rfl rfl rfl (sC (s8 (anD_len hdf h32_w_97)) sN) (fun w_99 h_100 => ?_)
  refine WL.nil (thn_n (WP.ret ?_))
  refine ret_of results83 (RV.cell rfl (h_100.loadA (cs := (anD id df dn u lg (kd, key, dm, data)).map vu8) isAgg23 sizeOf23 M6 rfl rfl) RV.nil) ?_
  have h_111 := ((((((((((h_100.up J5).drop rfl).up J5).drop rfl).up J5).drop rfl).up J4).up J4).up J4).up J4).up J4
  exact ⟨_, _, _, rfl, h_111⟩

theorem c_rDig {w00 : World} {L : List Ent} (id : Bool) (ob : Nat) (ms df : List UInt8) (hms : ms.length = 32) (da : Option Addr) (dn dc u : Nat) (hdf : df.length = 32 * dn) (la : Option Addr) (lc : Nat) (lx : List Value) (lg : Lg) (hu : u ≤ 1000000) (hlg : lg.length ≤ 1000000) (dm : Int) (data : List UInt8) (qa : Option Addr) (qn qc : Nat) (hdm : 1 ≤ dm ∧ dm ≤ 16) (hqn : data.length ≤ 1000000000) (hdl : data.length = qn) (w : World) (h_0 : HP w00 w (Ent.blk ob .nw 47 [(1, [(.bool id)]), (32, ms.map vu8), (1, [(.slice da dn dc)]), (1, [(vi ((u : Nat) : Int))]), (1, [(.slice la lg.length lc)])] :: Ent.row la lg.length lc 96 67 lx :: Ent.pin (sblks lx) (fun w => Lgs w lx lg) :: Ent.view da (df.map vu8) :: Ent.view qa (data.map vu8) :: L)) :
  Cs Tryz.prog 59 [(.pointer (some ⟨ob, 0, none⟩)), (vi dm), (.slice qa qn qc)].toArray w (fun v w1 => ∃ la' lc' lx', v = (.agg ⟨(anD id df dn u lg (1, (List.replicate 32 (0 : UInt8)), dm, data)).map vu8⟩) ∧ HP w00 w1 (Ent.blk ob .nw 47 [(1, [(.bool id)]), (32, ms.map vu8), (1, [(.slice da dn dc)]), (1, [(vi (((anU id u lg (1, (List.replicate 32 (0 : UInt8)), dm, data)) : Nat) : Int))]), (1, [(.slice la' ((anL id df dn u lg (1, (List.replicate 32 (0 : UInt8)), dm, data)).length) lc')])] :: Ent.row la' ((anL id df dn u lg (1, (List.replicate 32 (0 : UInt8)), dm, data)).length) lc' 96 67 lx' :: Ent.pin (sblks lx') (fun w => Lgs w lx' (anL id df dn u lg (1, (List.replicate 32 (0 : UInt8)), dm, data))) :: Ent.view da (df.map vu8) :: Ent.view qa (data.map vu8) :: L)) := by
 refine Cs.of (n := 12) (args := [(pO ob 0), (vi dm), (.slice qa qn qc)]) Tryz.func59 rfl rfl rfl ?_
 refine WP.seq (WP.reg ?_)
 refine WL.alloc (segs := [(32, (zB 32).map vu8)]) h_0 (zv typeInfo23 rfl) rfl (sC (s8 lr) sN) rfl (fun b_1 w_2 h_3 => ?_)
 refine WL.nil (thn_n (WP.seq (WP.reg ?_)))
 refine qM (pO ob 0) rfl rfl (qM (vi dm) rfl rfl (qM (.slice qa qn qc) rfl rfl (qV rfl (R.buildS (pl := [(0, 1), (1, 32), (33, 1), (34, 1)]) (zs := [(1, [(vi 0)]), (32, (zB 32).map vu8), (1, [(vi 0)]), (1, [(.slice none 0 0)])]) (vs := [(0, (vi 1)), (2, (vi dm)), (3, (.slice qa qn qc))]) (out := [(1, [(vi 1)]), (32, (zB 32).map vu8), (1, [(vi dm)]), (1, [(.slice qa qn qc)])]) underlying90 (zv typeInfo90 rfl) rfl (sC sV (sC (s8 lr) (sC sV (sC sV sN)))) (pl90 _ underlying90) rfl (FillR.cons [] [(1, [(vi 0)])] [(1, [(vi 1)])] [(32, (zB 32).map vu8), (1, [(vi 0)]), (1, [(.slice none 0 0)])] rfl rfl rfl rfl (sC sV sN) rfl rfl rfl (FillR.cons [(1, [(vi 1)]), (32, (zB 32).map vu8)] [(1, [(vi 0)])] [(1, [(vi dm)])] [(1, [(.slice none 0 0)])] rfl rfl rfl rfl (sC sV sN) rfl rfl rfl (FillR.cons [(1, [(vi 1)]), (32, (zB 32).map vu8), (1, [(vi dm)])] [(1, [(.slice none 0 0)])] [(1, [(.slice qa qn qc)])] [] rfl rfl rfl rfl (sC sV sN) rfl rfl rfl FillR.nil))) rfl) ?_)))
 have h_9 := ((((h_3.up J5).up J5).up J5).up J5).up J5
 have h32_w_13 := (Lgs.ok32 (h_9.ok _ M2).1)
 refine WL.call Tryz.call83 rfl rfl (c_rAsk id ob ms df hms da dn dc u hdf la lc lx lg hu hlg 1 dm (zB 32) data qa qn qc ⟨lr, by show (1 : Int) ≤ 1 ∧ (1 : Int) ≤ 4; omega, by show (1 : Int) ≤ dm ∧ (dm : Int) ≤ 16; omega, by show List.length data ≤ 1000000000; first | decide | (simp only [List.length_append, leN_len]; omega) | omega⟩ hdl  _ h_9) rfl ?_
 rintro _ w_13 ⟨la_10, lc_11, lx_12, rfl, h_14⟩
 refine WL.storeA [] [(32, (zB 32).map vu8)] [(32, (anD id df dn u lg (1, List.replicate 32 (0 : UInt8), dm, data)).map vu8)] [] h_14 rfl rfl sizeOf23 Y5 (by decide) rfl rfl rfl rfl rfl rfl (sC (s8 (anD_len hdf h32_w_13)) sN) (fun w_15 h_16 => ?_)
 refine WL.nil (thn_n (WP.ret ?_))
 refine ret_of results59 (RV.cell rfl (h_16.loadA (cs := (anD id df dn u lg (1, List.replicate 32 (0 : UInt8), dm, data)).map vu8) isAgg23 sizeOf23 M5 rfl rfl) RV.nil) ?_
 have h_23 := ((((((h_16.up J5).drop rfl).up J4).up J4).up J4).up J4).up J4
 exact ⟨_, _, _, rfl, h_23⟩

end Go.Proofs.YteclkcpdclimnaaGreat

namespace Go.Proofs.YteclkcpdclimnaaGreat
open Go.Proofs.Tryz
open Go.Vc Go.Orc Go.Sh Go.RowKit
set_option maxRecDepth 20000

theorem c_CloneA (a : Option Addr) (n cap : Nat) (xs : List Value) (lg : Lg) (hn : lg.length = n) (hlg : n ≤ 1000000) (w : World) (hv : View w a xs) (hp : Lgs w xs lg) :
  Cs Tryz.prog 64 [(.slice a n cap)].toArray w (fun v w1 => ∃ a cap, v = .slice a n cap ∧ Chg w w1 [] ∧ Own w.heap.size w1 96 67 a n cap xs) := by
 refine Cs.of (n := 8) (args := [(.slice a n cap)]) Tryz.func64 rfl rfl rfl ?_
 have h_0 := HP.init w
 have h_01 := h_0.oldV (View.arg hv) rfl (by simp [Ent.mut])
 have h_00 := h_01.oldV (Lgs.pin hp) rfl (by simp [Ent.mut])
 refine WP.seq (WP.reg ?_)
 refine qA (.slice none 0 0) rfl rfl ?_
 refine WL.nil (thn_n (WP.seq (WP.seq (WP.reg ?_))))
 refine qM (.slice a n cap) rfl rfl (qV rfl (R.eqNilS rfl rfl underlying44) ?_)
 refine WL.nil (thn_n ?_)
 refine WP.cond (b := a.isNone) rfl (fun c_1 => ?_) (fun c_1 => ?_)
 ·refine WP.seq (WP.reg ?_)
  refine qA (.slice none 0 0) rfl rfl ?_
  refine WL.nil (thn_n (WP.ret (thn_r ?_)))
  refine ret_of results64 (RV.tmp (v := (.slice none 0 0)) rfl RV.nil) ?_
  obtain rfl : xs = [] := view_noneV c_1 hv
  obtain rfl : n = 0 := by have := Lgs.len hp; simp at this; omega
  exact ⟨none, 0, rfl, h_00.chgS, Own.nil ..⟩
 ·refine WP.skip (thn_n (WP.seq (WP.reg ?_)))
  refine WL.buildSl0 h_00 underlying44 sizeOf96 rfl (fun b_2 w_3 h_4 => ?_)
  refine qM (.slice a n cap) rfl rfl ?_
  refine WL.append (km := n) (xs := []) (ys := xs) (zs := xs) h_4 rfl rfl el44 (viewV (h_4.ok _ M2)) (by rw [Lgs.len hp, hn]) (Lgs.one hp) rfl (by omega) (by omega) (by omega) (fun _ _ => At.h) rfl (fun a_5 c_6 w_7 h_8 => ?_)
  refine qA (.slice a_5 n c_6) rfl rfl ?_
  refine WL.nil (thn_n (WP.ret ?_))
  refine ret_of results64 (RV.tmp (v := (.slice a_5 n c_6)) rfl RV.nil) ?_
  exact ⟨_, _, rfl, h_8.chgS, h_8.ok _ M0⟩

theorem c_oLog {w00 : World} {L : List Ent} (id : Bool) (ob mp : Nat) (ms df : List UInt8) (hms : ms.length = 32) (da : Option Addr) (dn dc u : Nat) (hdf : df.length = 32 * dn) (la : Option Addr) (lc : Nat) (lx : List Value) (lg : Lg) (hu : u ≤ 1000000) (hlg : lg.length ≤ 1000000) (w : World) (h_0 : HP w00 w (Ent.blk ob .nw 118 [(1, [(.bool id)]), (32, ms.map vu8), (1, [(.slice da dn dc)]), (1, [(vi ((u : Nat) : Int))]), (1, [(.map (some mp))]), (1, [(.slice la lg.length lc)])] :: Ent.row la lg.length lc 96 67 lx :: Ent.obj mp .nw (.map (mArr lg) lg.length) :: Ent.pin (sblks lx) (fun w => Lgs w lx lg) :: Ent.view da (df.map vu8) :: L)) :
  Cs Tryz.prog 19 [(.pointer (some ⟨ob, 0, none⟩))].toArray w (fun v w1 => ∃ a cap ys, v = .slice a lg.length cap ∧ HP w00 w1 (.row a lg.length cap 96 67 ys :: .pin (sblks ys) (fun w => Lgs w ys lg) :: Ent.blk ob .nw 118 [(1, [(.bool id)]), (32, ms.map vu8), (1, [(.slice da dn dc)]), (1, [(vi ((u : Nat) : Int))]), (1, [(.map (some mp))]), (1, [(.slice la lg.length lc)])] :: Ent.row la lg.length lc 96 67 lx :: Ent.obj mp .nw (.map (mArr lg) lg.length) :: Ent.pin (sblks lx) (fun w => Lgs w lx lg) :: Ent.view da (df.map vu8) :: L)) := by
 refine Cs.of (n := 32) (args := [(pO ob 0)]) Tryz.func19 rfl rfl rfl ?_
 refine WP.seq (WP.reg ?_)
 refine qA (.slice none 0 0) rfl rfl ?_
 refine WL.nil (thn_n (WP.seq (WP.seq (WP.reg ?_))))
 refine qM (pO ob 0) rfl rfl ?_
 refine WL.call Tryz.call63 rfl rfl (c_othere id ob mp ms hms da dn dc u la lg.length lc _ (h_0.argR M0)) rfl ?_
 rintro _ w_2 ⟨rfl, hc_1⟩
 have h_3 := h_0.same hc_1
 refine qV rfl (R.not (b := true) rfl) ?_
 refine WL.nil (thn_n ?_)
 refine WP.condF rfl ?_
 refine WP.skip (thn_n (WP.seq (WP.reg ?_)))
 refine qM (pO ob 0) rfl rfl (qV rfl (R.nilCheck rfl) (qV rfl (R.fieldAddr (off' := 36) rfl underlying118 rfl sizeOf44 rfl rfl) (qV rfl (R.load1 rfl isAgg44 (h_3.ok _ M0) (Sg.t rfl (Sg.t rfl (Sg.t rfl (Sg.t rfl (Sg.t rfl Sg.h)))))) ?_)))
 refine WL.call Tryz.call64 rfl rfl (c_CloneA la lg.length lc lx lg rfl (by omega) _ (ownView (h_3.ok _ M1)) (h_3.ok _ M3).1) rfl ?_
 rintro _ w_6 ⟨a_4, cap_5, rfl, hc_7, ho_8⟩
 have h_9 := h_3.gotRow hc_7 ho_8
 refine qA (.slice a_4 lg.length cap_5) rfl rfl ?_
 refine WL.nil (thn_n (WP.seq (WP.seq (WP.reg ?_))))
 refine qM (.slice a_4 lg.length cap_5) rfl rfl (qV rfl (R.lenS (a := a_4) (m := lg.length) rfl rfl underlying44) (qM (vi 0) rfl rfl ?_))
 refine WL.nil (thn_n (WP.block ?_))
 have h_10 := h_9.within M4 rfl (h_9.ok _ M4) rfl rfl (fun b hb => hb)
 have h_17 := ((((((h_10.up J6).up J6).up J6).up J6).up J6).up J5).up J6
 refine WP.loopG (G := Nat × List Value) [4, 15, 16, 17, 18, 19, 20, 21, 22, 23, 24, 25, 26, 27, 28, 29, 30] (fun (k, ys) => [(15, (vn k))]) (fun (k, ys) m w1 => HP w00 w1 (Ent.row a_4 lg.length cap_5 96 67 ys :: Ent.pin (sblks ys) (fun w => Lgs w ys lg) :: Ent.blk ob .nw 118 [(1, [(.bool id)]), (32, ms.map vu8), (1, [(.slice da dn dc)]), (1, [(vn u)]), (1, [(.map (some mp))]), (1, [(.slice la lg.length lc)])] :: Ent.row la lg.length lc 96 67 lx :: Ent.obj mp .nw (.map (mArr lg) lg.length) :: Ent.pin (sblks lx) (fun w => Lgs w lx lg) :: Ent.view da (df.map vu8) :: L) ∧ (k ≤ lg.length) ∧ m = lg.length + 1 - k) ⟨(0, lx), _, ⟨rfl, trivial⟩, h_17, Nat.zero_le _, rfl⟩ ?_
 rintro ⟨k, ys⟩ m_20 J_21 w_18 ⟨h_19, hk, rfl⟩
 refine WP.seq (WP.reg ?_)
 refine qV rfl (R.bin rfl rfl (bi_lss (r := decide ((((k : Nat) : Int) : Int) < ((lg.length : Nat) : Int))) rfl)) ?_
 refine WL.nil (thn_n (WP.seq ?_))
 refine WP.cond (b := decide ((((k : Nat) : Int) : Int) < ((lg.length : Nat) : Int))) rfl (fun c_22 => ?_) (fun c_22 => ?_)
 ·have p_23 := of_decide_eq_true c_22
  refine WP.skip (thn_n (WP.seq (WP.block (WP.seq (WP.reg ?_)))))
  refine qM (vn k) rfl rfl (qA (vn k) rfl rfl ?_)
  refine WL.nil (thn_n ?_)
  have hkl : k < lg.length := by omega
  have hyl := Lgs.len (h_19.ok _ M1).1
  obtain ⟨ka, kn, kc, khx, khq, khn, khc, khv, khb⟩ := Lgs.qget (i := k) (z := ((0, [], 0, []), [])) (h_19.ok _ M1).1 hkl
  have kbd : kn ≤ 1000000000 := by have hq4 := khq.2.2.2; rw [khn] at hq4; exact hq4
  have h_24 := h_19.within (e' := .view ka ((lg.getD k ((0, [], 0, []), [])).1.2.2.2.map vu8)) M1 rfl (View.arg khv) rfl rfl (fun b hb_ => khb _ (view_sblk khn b hb_))
  refine WP.reg ?_
  refine qM (.slice a_4 lg.length cap_5) rfl rfl (qM (vn k) rfl rfl (qM (.slice a_4 lg.length cap_5) rfl rfl (qM (vn k) rfl rfl (qV rfl (R.indexS (a := a_4) (i := k) (off := k * 67) (xs := ys) rfl rfl rfl (by omega) (ownView (h_24.ok _ M1)) (by rw [hyl]; omega) underlying44 sizeOf96 rfl) (qV rfl (R.fieldG (a := a_4) (i := k * 67) (off' := k * 67) rfl underlying96 rfl sizeOf90 rfl rfl) (qV rfl (R.fieldG (a := a_4) (i := k * 67) (off' := k * 67 + 34) rfl underlying90 rfl sizeOf88 rfl rfl) (qV rfl (R.loadG rfl (ownView (h_24.ok _ M1)) isAgg88 (q34 khq.1 khx)) ?_)))))))
  refine WL.call Tryz.call65 rfl rfl (c_Clone ka kn kc ((lg.getD k ((0, [], 0, []), [])).1.2.2.2) khn (by omega) _ (viewV (h_24.ok _ M0))) rfl ?_
  rintro _ w_27 ⟨a_25, cap_26, rfl, hc_28, ho_29⟩
  have h_30 := h_24.gotRow hc_28 ho_29
  refine qV rfl (R.indexS (a := a_4) (i := k) (off := k * 67) (xs := ys) rfl rfl rfl (by omega) (ownView (h_30.ok _ M2)) (by rw [hyl]; omega) underlying44 sizeOf96 rfl) (qV rfl (R.fieldG (a := a_4) (i := k * 67) (off' := k * 67) rfl underlying96 rfl sizeOf90 rfl rfl) (qV rfl (R.fieldG (a := a_4) (i := k * 67) (off' := k * 67 + 34) rfl underlying90 rfl sizeOf88 rfl rfl) ?_))
  refine WL.storeR (a := a_4) (i := k * 67 + 34) (v := (.slice a_25 kn cap_26)) (xs' := ys.set (k * 67 + 34) (.slice a_25 kn cap_26)) h_30 rfl rfl sizeOf88 rfl Y2 (by rw [hyl]; omega) rfl (fun w_31 h_32 => ?_)
  refine WL.nil (inb_n (thn_n (WP.reg ?_)))
  refine qV rfl (R.bin rfl rfl (bi_add (c := ((k + 1 : Nat) : Int)) (by omega) (by omega))) (qM (vn (k + 1)) rfl rfl ?_)
  refine WL.nil (thn_n ?_)
  have h_42 := (((((((((h_32.up J1).drop rfl).up J7).up J7).up J7).up J7).up J7).up J6).up J7).up J7
  have h_43 := HP_logSet (z := ((0, [], 0, []), [])) h_42 hkl khn
  have h_54 := ((((((((((h_43.up J1).drop rfl).up J1).drop rfl).up J6).up J6).up J6).up J6).up J6).up J5).up J6
  exact ⟨(k + 1, _), _, (by omega), (Ag.upd rfl (U4 rfl rfl rfl rfl (U4 rfl rfl rfl rfl (U4 rfl rfl rfl rfl (U4 rfl rfl rfl rfl (Ag.updL rfl (Ag.mix _ _ _))))))), ⟨rfl, trivial⟩, h_54, (by omega), rfl⟩
 ·have p_55 := of_decide_eq_false c_22
  refine WP.exit (thn_x (thn_x (inb_hit (thn_n (WP.seq (WP.reg ?_))))))
  refine qM (.slice a_4 lg.length cap_5) rfl rfl (qA (.slice a_4 lg.length cap_5) rfl rfl ?_)
  refine WL.nil (thn_n (WP.ret ?_))
  refine ret_of results19 (RV.tmp (v := (.slice a_4 lg.length cap_5)) rfl RV.nil) ?_
  have h_62 := ((((((h_19.up J6).up J6).up J6).up J6).up J6).up J6).up J6
  exact ⟨_, _, _, rfl, h_62⟩

theorem c_rSameLog (a : Option Addr) (n cap : Nat) (xs : List Value) (lg : Lg) (hn : lg.length = n) (hlg : n ≤ 1000000) (a2 : Option Addr) (cap2 : Nat) (ys : List Value) (w : World) (hv : View w a xs) (hp : Lgs w xs lg) (hv2 : View w a2 ys) (hp2 : Lgs w ys lg) :
  Cs Tryz.prog 18 [(.slice a n cap), (.slice a2 n cap2)].toArray w (fun v w1 => v = (.bool true) ∧ Chg w w1 []) := by
 refine Cs.of (n := 42) (args := [(.slice a n cap), (.slice a2 n cap2)]) Tryz.func18 rfl rfl rfl ?_
 have h_0 := HP.init w
 have h_01 := h_0.oldV (View.arg hv) rfl (by simp [Ent.mut])
 have h_02 := h_01.oldV (Lgs.pin hp) rfl (by simp [Ent.mut])
 have h_03 := h_02.oldV (View.arg hv2) rfl (by simp [Ent.mut])
 have h_00 := h_03.oldV (Lgs.pin hp2) rfl (by simp [Ent.mut])
 refine WP.seq (WP.reg ?_)
 refine qA (.bool false) rfl rfl ?_
 refine WL.nil (thn_n (WP.seq (WP.seq (WP.reg ?_))))
 refine qM (.slice a n cap) rfl rfl (qV rfl (R.lenS (a := a) (m := n) rfl rfl underlying44) (qM (.slice a2 n cap2) rfl rfl (qV rfl (R.lenS (a := a2) (m := n) rfl rfl underlying44) (qV rfl (R.bin rfl rfl (bi_neq (r := false) (by simp))) ?_))))
 refine WL.nil (thn_n ?_)
 refine WP.condF rfl ?_
 refine WP.skip (thn_n (WP.seq (WP.seq (WP.reg ?_))))
 refine qA (vi 0) rfl rfl ?_
 refine WL.nil (thn_n (WP.block ?_))
 refine WP.loopG (G := Nat) [4, 5, 11, 12, 13, 14, 15, 16, 17, 18, 19, 20, 21, 22, 23, 24, 25, 26, 27, 28, 29, 30, 31, 32, 33, 34, 35, 36, 37, 38, 39, 40, 41] (fun k => [(5, (vn k))]) (fun k m w1 => HP w w1 [.pin (sblks ys) (fun w => Lgs w ys lg), .view a2 ys, .pin (sblks xs) (fun w => Lgs w xs lg), .view a xs] ∧ (k ≤ n) ∧ m = n + 1 - k) ⟨0, _, ⟨rfl, trivial⟩, h_00, Nat.zero_le _, rfl⟩ ?_
 rintro k m_3 J_4 w_1 ⟨h_2, hk, rfl⟩
 refine WP.seq (WP.seq (WP.reg ?_))
 refine qM (vn k) rfl rfl (qM (.slice a n cap) rfl rfl (qV rfl (R.lenS (a := a) (m := n) rfl rfl underlying44) (qV rfl (R.bin rfl rfl (bi_lss (r := decide ((((k : Nat) : Int) : Int) < ((n : Nat) : Int))) rfl)) ?_)))
 refine WL.nil (thn_n ?_)
 refine WP.cond (b := decide ((((k : Nat) : Int) : Int) < ((n : Nat) : Int))) rfl (fun c_5 => ?_) (fun c_5 => ?_)
 ·have p_6 := of_decide_eq_true c_5
  refine WP.skip (thn_n (WP.seq (WP.block (WP.seq ?_))))
  have hkl : k < lg.length := by omega
  obtain ⟨ka, kn, kc, khx, khq, khn, khc, khv, khb⟩ := Lgs.qget (i := k) (z := ((0, [], 0, []), [])) (h_2.ok _ M2).1 hkl
  have kbd : kn ≤ 1000000000 := by have hq4 := khq.2.2.2; rw [khn] at hq4; exact hq4
  have h_7 := h_2.within (e' := .view ka ((lg.getD k ((0, [], 0, []), [])).1.2.2.2.map vu8)) M2 rfl (View.arg khv) rfl rfl (fun b hb_ => khb _ (view_sblk khn b hb_))
  obtain ⟨ga, gn, gc, ghx, ghq, ghn, ghc, ghv, ghb⟩ := Lgs.qget (i := k) (z := ((0, [], 0, []), [])) (h_7.ok _ M1).1 hkl
  have gbd : gn ≤ 1000000000 := by have hq4 := ghq.2.2.2; rw [ghn] at hq4; exact hq4
  have h_8 := h_7.within (e' := .view ga ((lg.getD k ((0, [], 0, []), [])).1.2.2.2.map vu8)) M1 rfl (View.arg ghv) rfl rfl (fun b hb_ => ghb _ (view_sblk ghn b hb_))
  refine WP.drawT (SL w.heap.size [.view ga ((lg.getD k ((0, [], 0, []), [])).1.2.2.2.map vu8), .view ka ((lg.getD k ((0, [], 0, []), [])).1.2.2.2.map vu8), .pin (sblks ys) (fun w => Lgs w ys lg), .view a2 ys, .pin (sblks xs) (fun w => Lgs w xs lg), .view a xs]) (.q 0 (.q 1 (.q 2 (.q 3 (.q 4 (.q 5 (.q 6 (.q 7 (.q 8 (.q 9 (.s 10 (.q 11 (.q 12 (.q 13 (.q 14 (.q 15 (.q 16 (.q 17 (.q 18 (.q 19 (.q 20 (.q 21 (.q 22 (.q 23 (.q 24 .nil))))))))))))))))))))))))) (by kernel_rfl) (by kernel_rfl) rfl (by kernel_rfl) (fun w_9 hc_11 => (SL.cons ((h_8.same hc_11).ok _ M0) (SL.cons ((h_8.same hc_11).ok _ M1) (SL.cons ((h_8.same hc_11).ok _ M2) (SL.cons ((h_8.same hc_11).ok _ M3) (SL.cons ((h_8.same hc_11).ok _ M4) (SL.cons ((h_8.same hc_11).ok _ M5) (SL.nil _ _)))))))) (fun w_9 hc_11 => ?_)
  have h_10 := h_8.same hc_11
  refine qT rfl rfl (fun wq hS => R.move (v := (.slice a n cap)) rfl) ?_
  refine qT rfl rfl (fun wq hS => R.move (v := (vn k)) rfl) ?_
  refine qT rfl rfl (fun wq hS => R.indexS (a := a) (i := k) (off := k * 67) (xs := xs) rfl rfl rfl (by omega) (viewV (hS _ M5)) (by rw [Lgs.len hp, hn]; omega) underlying44 sizeOf96 rfl) ?_
  refine qT rfl rfl (fun wq hS => R.fieldG (a := a) (i := k * 67) (off' := k * 67) rfl underlying96 rfl sizeOf90 rfl rfl) ?_
  refine qT rfl rfl (fun wq hS => R.loadGA (a := a) (i := k * 67) (xs := xs) (cs := flat [(1, [(vi (((lg.getD k ((0, [], 0, []), [])).1).1))]), (32, (((lg.getD k ((0, [], 0, []), [])).1).2.1).map vu8), (1, [(vi (((lg.getD k ((0, [], 0, []), [])).1).2.2.1))]), (1, [(.slice ka kn kc)])]) rfl (viewV (hS _ M5)) isAgg90 sizeOf90 khx ((sC sV (sC (s8 khq.1) (sC sV (sC sV sN))))).len (by decide)) ?_
  refine qT rfl rfl (fun wq hS => R.move (v := (.slice a2 n cap2)) rfl) ?_
  refine qT rfl rfl (fun wq hS => R.move (v := (vn k)) rfl) ?_
  refine qT rfl rfl (fun wq hS => R.indexS (a := a2) (i := k) (off := k * 67) (xs := ys) rfl rfl rfl (by omega) (viewV (hS _ M3)) (by rw [Lgs.len hp2, hn]; omega) underlying44 sizeOf96 rfl) ?_
  refine qT rfl rfl (fun wq hS => R.fieldG (a := a2) (i := k * 67) (off' := k * 67) rfl underlying96 rfl sizeOf90 rfl rfl) ?_
  refine qT rfl rfl (fun wq hS => R.loadGA (a := a2) (i := k * 67) (xs := ys) (cs := flat [(1, [(vi (((lg.getD k ((0, [], 0, []), [])).1).1))]), (32, (((lg.getD k ((0, [], 0, []), [])).1).2.1).map vu8), (1, [(vi (((lg.getD k ((0, [], 0, []), [])).1).2.2.1))]), (1, [(.slice ga gn gc)])]) rfl (viewV (hS _ M3)) isAgg90 sizeOf90 ghx ((sC sV (sC (s8 ghq.1) (sC sV (sC sV sN))))).len (by decide)) ?_
  refine WT.s (oN rfl ?_)
  refine WL.call Tryz.call53 rfl rfl (c_rSame ((lg.getD k ((0, [], 0, []), [])).1) ((lg.getD k ((0, [], 0, []), [])).1) khq.1 ghq.1 ka kn kc khn ga gn gc ghn _ (viewV (h_10.ok _ M1)) (viewV (h_10.ok _ M0))) rfl ?_
  rintro _ w_13 ⟨rfl, hc_12⟩
  have h_14 := h_10.same hc_12
  refine WL.nil ?_
  refine ⟨(N0_1_2_3_4_5 h_14.ok), ?_⟩
  refine qT rfl rfl (fun wq hS => R.not (b := true) (congrArg Value.bool (decide_eq_true rfl))) ?_
  refine qT rfl rfl (fun wq hS => R.move (v := (.bool false)) rfl) ?_
  refine WT.q rfl (Wn.yes rfl rfl rfl) rfl rfl (fun wq hS => R.move (v := (.slice a n cap)) rfl) ?_
  refine WT.q rfl (Wn.yes rfl rfl rfl) rfl rfl (fun wq hS => R.move (v := (vn k)) rfl) ?_
  refine WT.q rfl (Wn.yes rfl rfl rfl) rfl rfl (fun wq hS => R.indexS (a := a) (i := k) (off := k * 67) (xs := xs) rfl rfl rfl (by omega) (viewV (hS _ M5)) (by rw [Lgs.len hp, hn]; omega) underlying44 sizeOf96 rfl) ?_
  refine WT.q rfl (Wn.yes rfl rfl rfl) rfl rfl (fun wq hS => R.fieldG (a := a) (i := k * 67) (off' := k * 67 + 35) rfl underlying96 rfl sizeOf23 rfl rfl) ?_
  refine WT.q rfl (Wn.yes rfl rfl rfl) rfl rfl (fun wq hS => R.loadGA (a := a) (i := k * 67 + 35) (xs := xs) (cs := ((lg.getD k ((0, [], 0, []), [])).2).map vu8) rfl (viewV (hS _ M5)) isAgg23 sizeOf23 (Lgs.ans (z := ((0, [], 0, []), [])) hp (i := k) hkl).1 (len_map (Lgs.ans (z := ((0, [], 0, []), [])) hp (i := k) hkl).2) (by decide)) ?_
  refine WT.q rfl (Wn.yes rfl rfl rfl) rfl rfl (fun wq hS => R.move (v := (.slice a2 n cap2)) rfl) ?_
  refine WT.q rfl (Wn.yes rfl rfl rfl) rfl rfl (fun wq hS => R.move (v := (vn k)) rfl) ?_
  refine WT.q rfl (Wn.yes rfl rfl rfl) rfl rfl (fun wq hS => R.indexS (a := a2) (i := k) (off := k * 67) (xs := ys) rfl rfl rfl (by omega) (viewV (hS _ M3)) (by rw [Lgs.len hp2, hn]; omega) underlying44 sizeOf96 rfl) ?_
  refine WT.q rfl (Wn.yes rfl rfl rfl) rfl rfl (fun wq hS => R.fieldG (a := a2) (i := k * 67) (off' := k * 67 + 35) rfl underlying96 rfl sizeOf23 rfl rfl) ?_
  refine WT.q rfl (Wn.yes rfl rfl rfl) rfl rfl (fun wq hS => R.loadGA (a := a2) (i := k * 67 + 35) (xs := ys) (cs := ((lg.getD k ((0, [], 0, []), [])).2).map vu8) rfl (viewV (hS _ M3)) isAgg23 sizeOf23 (Lgs.ans (z := ((0, [], 0, []), [])) hp2 (i := k) hkl).1 (len_map (Lgs.ans (z := ((0, [], 0, []), [])) hp2 (i := k) hkl).2) (by decide)) ?_
  refine WT.q rfl (Wn.yes rfl rfl rfl) rfl rfl (fun wq hS => R.neA (xs := ((lg.getD k ((0, [], 0, []), [])).2).map vu8) (ys := ((lg.getD k ((0, [], 0, []), [])).2).map vu8) (r := false) rfl rfl eqGuardType23 kt23 (by decide) ag23 (Typ.u8s underlying23 ce23 underlying5 ce5 ((Lgs.ans (z := ((0, [], 0, []), [])) hp (i := k) hkl).2)) (Typ.u8s underlying23 ce23 underlying5 ce5 ((Lgs.ans (z := ((0, [], 0, []), [])) hp2 (i := k) hkl).2)) (neT rfl)) ?_
  refine qT rfl rfl (fun wq hS => R.pickF (v := (.bool false)) rfl rfl) ?_
  refine WT.nil (thn_n ?_)
  refine WP.condF rfl ?_
  refine WP.skip (inb_n (thn_n (WP.reg ?_)))
  refine qM (vn k) rfl rfl (qV rfl (R.bin rfl rfl (bi_add (c := ((k + 1 : Nat) : Int)) (by omega) (by omega))) (qA (vn (k + 1)) rfl rfl ?_))
  refine WL.nil (thn_n ?_)
  have h_20 := (((((h_14.drop rfl).drop rfl).up J3).up J3).up J3).up J3
  exact ⟨k + 1, _, (by omega), (U4 rfl rfl rfl rfl (U4 rfl rfl rfl rfl (U4 rfl rfl rfl rfl (U4 rfl rfl rfl rfl (U4 rfl rfl rfl rfl (U4 rfl rfl rfl rfl (U4 rfl rfl rfl rfl (U4 rfl rfl rfl rfl (Ag.updL rfl (Ag.mix _ _ _)))))))))), ⟨rfl, trivial⟩, h_20, (by omega), rfl⟩
 ·have p_21 := of_decide_eq_false c_5
  refine WP.exit (thn_x (thn_x (inb_hit (thn_n (WP.seq (WP.reg ?_))))))
  refine qA (.bool true) rfl rfl ?_
  refine WL.nil (thn_n (WP.ret ?_))
  refine ret_of results18 (RV.tmp (v := (.bool true)) rfl RV.nil) ?_
  exact ⟨rfl, h_2.chgS⟩
end Go.Proofs.YteclkcpdclimnaaGreat

namespace Go.Proofs.YteclkcpdclimnaaGreat
open Go.Proofs.Tryz
open Go.Vc Go.Orc Go.Sh Go.RowKit
set_option maxRecDepth 20000
theorem pl47 : ∀ fs, Tryz.prog.underlying 47 = some (.struct fs) → Places Tryz.prog fs [(0, 1), (1, 32), (33, 1), (34, 1), (35, 1)] := by
 intro fs h w; rw [underlying47] at h; cases h; simp
theorem c_Rec {w00 : World} {L : List Ent} (id : Bool) (ob mp : Nat) (ms df : List UInt8) (hms : ms.length = 32) (da : Option Addr) (dn dc u : Nat) (hdf : df.length = 32 * dn) (la : Option Addr) (lc : Nat) (lx : List Value) (lg : Lg) (hu : u ≤ 1000000) (hlg : lg.length ≤ 1000000) (md : List UInt8) (hmd : md.length = 32) (pc : UInt64) (rg : List UInt64) (hrg : rg.length = 8) (run : Bool) (h : decide (pc % 8 = 0) = true) (w : World) (h_0 : HP w00 w (Ent.blk ob .nw 118 [(1, [(.bool id)]), (32, ms.map vu8), (1, [(.slice da dn dc)]), (1, [(vi ((u : Nat) : Int))]), (1, [(.map (some mp))]), (1, [(.slice la lg.length lc)])] :: Ent.row la lg.length lc 96 67 lx :: Ent.obj mp .nw (.map (mArr lg) lg.length) :: Ent.pin (sblks lx) (fun w => Lgs w lx lg) :: Ent.view da (df.map vu8) :: L)) :
  Cs Tryz.prog 31 [(.pointer (some ⟨ob, 0, none⟩)), (.agg ⟨md.map vu8⟩), (.agg ⟨flat [(1, [(vu64 pc)]), (8, rg.map vu64), (1, [(.bool run)])]⟩)].toArray w (fun v w1 => ∃ la' lc' lx', v = (.tuple [(.agg ⟨(anD id df dn u lg (1, (List.replicate 32 (0 : UInt8)), 3, [md, recB pc rg run].flatten)).map vu8⟩), (vi 0)].toArray) ∧ HP w00 w1 (Ent.blk ob .nw 118 [(1, [(.bool id)]), (32, ms.map vu8), (1, [(.slice da dn dc)]), (1, [(vi (((anU id u lg (1, (List.replicate 32 (0 : UInt8)), 3, [md, recB pc rg run].flatten)) : Nat) : Int))]), (1, [(.map (some mp))]), (1, [(.slice la' ((anL id df dn u lg (1, (List.replicate 32 (0 : UInt8)), 3, [md, recB pc rg run].flatten)).length) lc')])] :: Ent.row la' ((anL id df dn u lg (1, (List.replicate 32 (0 : UInt8)), 3, [md, recB pc rg run].flatten)).length) lc' 96 67 lx' :: Ent.obj mp .nw (.map (mArr (anL id df dn u lg (1, (List.replicate 32 (0 : UInt8)), 3, [md, recB pc rg run].flatten))) ((anL id df dn u lg (1, (List.replicate 32 (0 : UInt8)), 3, [md, recB pc rg run].flatten)).length)) :: Ent.pin (sblks lx') (fun w => Lgs w lx' (anL id df dn u lg (1, (List.replicate 32 (0 : UInt8)), 3, [md, recB pc rg run].flatten))) :: Ent.view da (df.map vu8) :: L)) := by
 refine Cs.of (n := 30) (args := [(pO ob 0), (.agg ⟨md.map vu8⟩), (.agg ⟨flat [(1, [(vu64 pc)]), (8, rg.map vu64), (1, [(.bool run)])]⟩)]) Tryz.func31 rfl rfl rfl ?_
 refine WP.seq (WP.reg ?_)
 refine WL.box (segs := [(32, md.map vu8)]) h_0 rfl rfl (sC (s8 hmd) sN) rfl (fun b_1 w_2 h_3 => ?_)
 refine WL.box (segs := [(1, [(vu64 pc)]), (8, rg.map vu64), (1, [(.bool run)])]) h_3 rfl rfl (sC sV (sC (SOk.u64 hrg) (sC sV sN))) rfl (fun b_4 w_5 h_6 => ?_)
 refine WL.alloc (segs := [(32, (zB 32).map vu8)]) h_6 (zv typeInfo23 rfl) rfl (sC (s8 lr) sN) rfl (fun b_7 w_8 h_9 => ?_)
 refine qA (vi 0) rfl rfl ?_
 refine WL.nil (thn_n (WP.seq (WP.seq (WP.reg ?_))))
 refine qM (pO ob 0) rfl rfl ?_
 refine WL.call Tryz.call72 rfl rfl (c_mth id ob mp ms hms da dn dc u la lg.length lc _ (h_9.argR M3)) rfl ?_
 rintro _ w_11 ⟨rfl, hc_10⟩
 have h_12 := h_9.same hc_10
 refine qV rfl (R.not (b := true) rfl) ?_
 refine WL.nil (thn_n ?_)
 refine WP.condF rfl ?_
 refine WP.skip (thn_n (WP.seq (WP.reg ?_)))
 refine qV rfl (R.loadA [] [(1, [(vu64 pc)]), (8, rg.map vu64), (1, [(.bool run)])] [] rfl isAgg57 sizeOf57 (h_12.ok _ M1) rfl rfl rfl rfl) ?_
 refine WL.call Tryz.call75 rfl rfl (c_RecBytes_t pc rg hrg run h _ ) rfl ?_
 rintro _ w_14 ⟨rfl, hc_13⟩
 have h_15 := h_12.same hc_13
 refine qM (.tuple [(.agg ⟨(recB pc rg run).map vu8⟩), (vi 0)].toArray) rfl rfl (qV rfl (R.extract rfl rfl) (qV rfl (R.extract rfl rfl) ?_))
 refine WL.alloc (segs := [(128, (zB 128).map vu8)]) h_15 (zv typeInfo29 rfl) rfl (sC (s8 lr) sN) rfl (fun b_16 w_17 h_18 => ?_)
 refine WL.storeA [] [(128, (zB 128).map vu8)] [(128, (recB pc rg run).map vu8)] [] h_18 rfl rfl sizeOf29 At.h (by decide) rfl rfl rfl rfl rfl rfl (sC (s8 (recB_len ..)) sN) (fun w_19 h_20 => ?_)
 refine qA (vi 0) rfl rfl ?_
 refine WL.nil (thn_n (WP.seq (WP.seq (WP.reg ?_))))
 refine qM (vi 0) rfl rfl (qV rfl (R.bin rfl rfl (bi_neq (r := false) (by decide))) ?_)
 refine WL.nil (thn_n ?_)
 refine WP.condF rfl ?_
 refine WP.skip (thn_n (WP.seq ?_))
 refine WP.drawT (SL w00.heap.size [.blk b_4 .nw 57 [(1, [(vu64 pc)]), (8, rg.map vu64), (1, [(.bool run)])]]) (.q 0 (.q 1 (.q 2 (.s 3 (.s 4 (.q 5 (.q 6 (.s 7 (.q 8 .nil))))))))) (by kernel_rfl) (by kernel_rfl) rfl (by kernel_rfl) (fun w_21 hc_23 => (SL.cons ((h_20.same hc_23).ok _ M2) (SL.nil _ _))) (fun w_21 hc_23 => ?_)
 have h_22 := h_20.same hc_23
 refine qT rfl rfl (fun wq hS => R.move (v := (pO ob 0)) rfl) ?_
 refine qT rfl rfl (fun wq hS => R.sliceA (b := b_1) (off := 0) (off' := 0) (l := 0) (h := 32) rfl EvB.dflt EvB.dflt (by decide) (by decide) underlying23 sizeOf5 rfl) ?_
 refine qT rfl rfl (fun wq hS => R.sliceA (b := b_16) (off := 0) (off' := 0) (l := 0) (h := 128) rfl EvB.dflt EvB.dflt (by decide) (by decide) underlying29 sizeOf5 rfl) ?_
 refine WT.s (oN rfl ?_)
 refine WL.buildSl (vs := [(0, (.slice (some ⟨b_1, 0, none⟩) 32 32)), (1, (.slice (some ⟨b_16, 0, none⟩) 128 128))]) (cs := [(.slice (some ⟨b_1, 0, none⟩) 32 32), (.slice (some ⟨b_16, 0, none⟩) 128 128)]) h_22 underlying128 sizeOf88 (zv typeInfo88 rfl) rfl rfl (by kernel_rfl) rfl (by simp [Value.oneCell']) rfl rfl (fun b_24 w_25 h_26 => ?_)
 refine WL.nil ?_
 refine ⟨(SL.cons (h_26.ok _ M3) (SL.nil _ _)), ?_⟩
 refine WT.s (oN rfl ?_)
 have h_27 := h_26.up J4
 have h_28 := HP_blkView h_27
 have h_29 := h_28.up J2
 have h_30 := HP_blkView h_29
 have h_31 := h_30.up J2
 have h_32 := HP_blkView h_31
 have hbl_33 : ∀ b ∈ sblks [(.slice (some ⟨b_1, 0, none⟩) 32 32), (.slice (some ⟨b_16, 0, none⟩) 128 128)], ∃ e ∈ ((Ent.view (some ⟨b_24, 0, none⟩) [(.slice (some ⟨b_1, 0, none⟩) 32 32), (.slice (some ⟨b_16, 0, none⟩) 128 128)] :: Ent.view (some ⟨b_16, 0, none⟩) ((recB pc rg run).map vu8) :: Ent.view (some ⟨b_1, 0, none⟩) (md.map vu8) :: Ent.blk b_7 .nw 23 [(32, (List.replicate 32 (0 : UInt8)).map vu8)] :: Ent.blk b_4 .nw 57 [(1, [(vu64 pc)]), (8, rg.map vu64), (1, [(.bool run)])] :: Ent.blk ob .nw 118 [(1, [(.bool id)]), (32, ms.map vu8), (1, [(.slice da dn dc)]), (1, [(vi ((u : Nat) : Int))]), (1, [(.map (some mp))]), (1, [(.slice la lg.length lc)])] :: Ent.row la lg.length lc 96 67 lx :: Ent.obj mp .nw (.map (mArr lg) lg.length) :: Ent.pin (sblks lx) (fun w => Lgs w lx lg) :: Ent.view da (df.map vu8) :: L) : List Ent), e.mut = false ∧ b ∈ e.blocks := by
  intro b hb
  rcases List.mem_append.1 hb with hb | hb
  ·exact ⟨_, M2, rfl, sblk_in_view hmd b hb⟩
  rcases List.mem_append.1 hb with hb | hb
  ·exact ⟨_, M1, rfl, sblk_in_view (recB_len ..) b hb⟩
  cases hb
 have h_34 := HP_within (e' := .pin (sblks [(.slice (some ⟨b_1, 0, none⟩) 32 32), (.slice (some ⟨b_16, 0, none⟩) 128 128)]) (fun w => Sls w [(.slice (some ⟨b_1, 0, none⟩) 32 32), (.slice (some ⟨b_16, 0, none⟩) 128 128)] [md, recB pc rg run])) h_32 (Sls.pin (Sls.cons hmd (by decide) (viewV (h_32.ok _ M2)) (Sls.cons (recB_len ..) (by decide) (viewV (h_32.ok _ M1)) Sls.nil))) rfl rfl hbl_33
 have h_41 := ((((((h_34.up J1).up J1).up J10).up J10).up J10).up J10).up J10
 have h32_w_45 := Lgs.ok32 (h_41.ok _ M3).1
 refine WL.call Tryz.call58 rfl rfl (c_oDigest id ob mp ms df hms da dn dc u hdf la lc lx lg hu hlg (some ⟨b_24, 0, none⟩) 2 2 [(.slice (some ⟨b_1, 0, none⟩) 32 32), (.slice (some ⟨b_16, 0, none⟩) 128 128)] [md, recB pc rg run] rfl 3 (by omega) (by simp only [List.flatten_cons, List.flatten_nil, List.length_append, List.length_nil, leN_len]; rw [recB_len]; omega) (by omega) _ h_41) rfl ?_
 rintro _ w_45 ⟨la_42, lc_43, lx_44, rfl, h_46⟩
 refine WL.nil ?_
 refine ⟨(N10 h_46.ok), ?_⟩
 refine qT rfl rfl (fun wq hS => R.extract rfl rfl) ?_
 refine qT rfl rfl (fun wq hS => R.extract rfl rfl) ?_
 refine WT.s (oN rfl ?_)
 refine WL.storeA [] [(32, (zB 32).map vu8)] [(32, (anD id df dn u lg (1, (zB 32), 3, [md, recB pc rg run].flatten)).map vu8)] [] h_46 rfl rfl sizeOf23 Y9 (by decide) rfl rfl rfl rfl rfl rfl (sC (s8 (anD_len hdf h32_w_45)) sN) (fun w_47 h_48 => ?_)
 refine WL.nil ?_
 refine ⟨(N10 h_48.ok), ?_⟩
 refine qT rfl rfl (fun wq hS => R.assign (v := (vi 0)) rfl) ?_
 refine WT.nil (thn_n (WP.ret ?_))
 refine ret_of results31 (RV.cell rfl (h_48.loadA (cs := (anD id df dn u lg (1, (zB 32), 3, [md, recB pc rg run].flatten)).map vu8) isAgg23 sizeOf23 M9 rfl rfl) (RV.tmp (v := (vi 0)) rfl RV.nil)) ?_
 have h_65 := ((((((((((((((((h_48.up J5).drop rfl).up J5).drop rfl).up J5).drop rfl).up J5).drop rfl).up J5).drop rfl).up J5).drop rfl).up J4).up J4).up J4).up J4).up J4
 exact ⟨_, _, _, rfl, h_65⟩

theorem c_rBegin {w00 : World} {L : List Ent} (id : Bool) (ob : Nat) (ms df : List UInt8) (hms : ms.length = 32) (da : Option Addr) (dn dc u : Nat) (hdf : df.length = 32 * dn) (la : Option Addr) (lc : Nat) (lx : List Value) (lg : Lg) (hu : u ≤ 1000000) (hlg : lg.length ≤ 1000000) (val : List UInt8) (hvl : val.length = 32) (w : World) (h_0 : HP w00 w (Ent.blk ob .nw 47 [(1, [(.bool id)]), (32, ms.map vu8), (1, [(.slice da dn dc)]), (1, [(vi ((u : Nat) : Int))]), (1, [(.slice la lg.length lc)])] :: Ent.row la lg.length lc 96 67 lx :: Ent.pin (sblks lx) (fun w => Lgs w lx lg) :: Ent.view da (df.map vu8) :: L)) :
  Cs Tryz.prog 27 [(.pointer (some ⟨ob, 0, none⟩)), (.agg ⟨val.map vu8⟩)].toArray w (fun v w1 => ∃ la' lc' lx', v = (.agg ⟨(anD id df dn u lg (1, (List.replicate 32 (0 : UInt8)), 1, [val].flatten)).map vu8⟩) ∧ HP w00 w1 (Ent.blk ob .nw 47 [(1, [(.bool id)]), (32, ms.map vu8), (1, [(.slice da dn dc)]), (1, [(vi (((anU id u lg (1, (List.replicate 32 (0 : UInt8)), 1, [val].flatten)) : Nat) : Int))]), (1, [(.slice la' ((anL id df dn u lg (1, (List.replicate 32 (0 : UInt8)), 1, [val].flatten)).length) lc')])] :: Ent.row la' ((anL id df dn u lg (1, (List.replicate 32 (0 : UInt8)), 1, [val].flatten)).length) lc' 96 67 lx' :: Ent.pin (sblks lx') (fun w => Lgs w lx' (anL id df dn u lg (1, (List.replicate 32 (0 : UInt8)), 1, [val].flatten))) :: Ent.view da (df.map vu8) :: L)) := by
 refine Cs.of (n := 8) (args := [(pO ob 0), (.agg ⟨val.map vu8⟩)]) Tryz.func27 rfl rfl rfl ?_
 refine WP.seq (WP.reg ?_)
 refine WL.box (segs := [(32, val.map vu8)]) h_0 rfl rfl (sC (s8 hvl) sN) rfl (fun b_1 w_2 h_3 => ?_)
 refine WL.alloc (segs := [(32, (zB 32).map vu8)]) h_3 (zv typeInfo23 rfl) rfl (sC (s8 lr) sN) rfl (fun b_4 w_5 h_6 => ?_)
 refine WL.nil (thn_n (WP.seq (WP.reg ?_)))
 refine qM (pO ob 0) rfl rfl (qV rfl (R.sliceA (b := b_1) (off := 0) (off' := 0) (l := 0) (h := 32) rfl EvB.dflt EvB.dflt (by decide) (by decide) underlying23 sizeOf5 rfl) ?_)
 have h_7 := h_6.up J1
 have h_8 := HP_blkView h_7
 have h_12 := (((h_8.up J5).up J5).up J5).up J5
 have h32_w_16 := (Lgs.ok32 (h_12.ok _ M2).1)
 refine WL.call Tryz.call59 rfl rfl (c_rDig id ob ms df hms da dn dc u hdf la lc lx lg hu hlg 1 val (some ⟨b_1, 0, none⟩) 32 32 (by omega) (by omega) hvl _ h_12) rfl ?_
 rintro _ w_16 ⟨la_13, lc_14, lx_15, rfl, h_17⟩
 refine WL.storeA [] [(32, (zB 32).map vu8)] [(32, (anD id df dn u lg (1, (zB 32), 1, val)).map vu8)] [] h_17 rfl rfl sizeOf23 Y5 (by decide) rfl rfl rfl rfl rfl rfl (sC (s8 (anD_len hdf h32_w_16)) sN) (fun w_18 h_19 => ?_)
 refine WL.nil (thn_n (WP.ret ?_))
 refine ret_of results27 (RV.cell rfl (h_19.loadA (cs := (anD id df dn u lg (1, (zB 32), 1, val)).map vu8) isAgg23 sizeOf23 M5 rfl rfl) RV.nil) ?_
 have h_27 := (((((((h_19.up J4).drop rfl).up J4).drop rfl).up J3).up J3).up J3).up J3
 have e2 : (((1, (List.replicate 32 (0 : UInt8)), 1, [val].flatten)) : Qn) = (1, (List.replicate 32 (0 : UInt8)), 1, val) := by simp
 exact ⟨_, _, _, by rw [e2]; rfl, by rw [e2]; exact h_27⟩

theorem c_rData {w00 : World} {L : List Ent} (id : Bool) (ob : Nat) (ms df : List UInt8) (hms : ms.length = 32) (da : Option Addr) (dn dc u : Nat) (hdf : df.length = 32 * dn) (la : Option Addr) (lc : Nat) (lx : List Value) (lg : Lg) (hu : u ≤ 1000000) (hlg : lg.length ≤ 1000000) (md gr : List UInt8) (hmd : md.length = 32) (hgr : gr.length = 128) (pg : Nat) (h : pg < 128) (w : World) (h_0 : HP w00 w (Ent.blk ob .nw 47 [(1, [(.bool id)]), (32, ms.map vu8), (1, [(.slice da dn dc)]), (1, [(vi ((u : Nat) : Int))]), (1, [(.slice la lg.length lc)])] :: Ent.row la lg.length lc 96 67 lx :: Ent.pin (sblks lx) (fun w => Lgs w lx lg) :: Ent.view da (df.map vu8) :: L)) :
  Cs Tryz.prog 30 [(.pointer (some ⟨ob, 0, none⟩)), (.agg ⟨md.map vu8⟩), (vi ((pg : Nat) : Int)), (.agg ⟨gr.map vu8⟩)].toArray w (fun v w1 => ∃ la' lc' lx', v = (.agg ⟨(anD id df dn u lg (1, (List.replicate 32 (0 : UInt8)), 2, [md, leN 8 (UInt64.ofNat pg).toNat, gr].flatten)).map vu8⟩) ∧ HP w00 w1 (Ent.blk ob .nw 47 [(1, [(.bool id)]), (32, ms.map vu8), (1, [(.slice da dn dc)]), (1, [(vi (((anU id u lg (1, (List.replicate 32 (0 : UInt8)), 2, [md, leN 8 (UInt64.ofNat pg).toNat, gr].flatten)) : Nat) : Int))]), (1, [(.slice la' ((anL id df dn u lg (1, (List.replicate 32 (0 : UInt8)), 2, [md, leN 8 (UInt64.ofNat pg).toNat, gr].flatten)).length) lc')])] :: Ent.row la' ((anL id df dn u lg (1, (List.replicate 32 (0 : UInt8)), 2, [md, leN 8 (UInt64.ofNat pg).toNat, gr].flatten)).length) lc' 96 67 lx' :: Ent.pin (sblks lx') (fun w => Lgs w lx' (anL id df dn u lg (1, (List.replicate 32 (0 : UInt8)), 2, [md, leN 8 (UInt64.ofNat pg).toNat, gr].flatten))) :: Ent.view da (df.map vu8) :: L)) := by
 refine Cs.of (n := 18) (args := [(pO ob 0), (.agg ⟨md.map vu8⟩), (vn pg), (.agg ⟨gr.map vu8⟩)]) Tryz.func30 rfl rfl rfl ?_
 refine WP.seq (WP.reg ?_)
 refine WL.box (segs := [(32, md.map vu8)]) h_0 rfl rfl (sC (s8 hmd) sN) rfl (fun b_1 w_2 h_3 => ?_)
 refine WL.box (segs := [(128, gr.map vu8)]) h_3 rfl rfl (sC (s8 hgr) sN) rfl (fun b_4 w_5 h_6 => ?_)
 refine WL.alloc (segs := [(32, (zB 32).map vu8)]) h_6 (zv typeInfo23 rfl) rfl (sC (s8 lr) sN) rfl (fun b_7 w_8 h_9 => ?_)
 refine WL.nil (thn_n (WP.seq ?_))
 refine WP.drawZ 9 (SL w00.heap.size [.blk b_7 .nw 23 [(32, (zB 32).map vu8)], .blk b_4 .nw 29 [(128, gr.map vu8)], .blk b_1 .nw 23 [(32, md.map vu8)]]) (.q 0 (.q 1 (.q 2 (.q 3 (.q 5 (.s 4 (.s 6 (.s 7 (.s 8 (.s 9 .nil)))))))))) (by kernel_rfl) (by kernel_rfl) rfl (by kernel_rfl) (fun w_10 hc_12 => (SL.cons ((h_9.same hc_12).ok _ M0) (SL.cons ((h_9.same hc_12).ok _ M1) (SL.cons ((h_9.same hc_12).ok _ M2) (SL.nil _ _))))) (fun w_10 hc_12 => ?_)
 have h_11 := h_9.same hc_12
 refine ZT.q rfl (Wn.no rfl) rfl rfl (fun wq hS => R.move (v := (pO ob 0)) rfl) ?_
 refine ZT.q rfl (Wn.no rfl) rfl rfl (fun wq hS => R.sliceA (b := b_1) (off := 0) (off' := 0) (l := 0) (h := 32) rfl EvB.dflt EvB.dflt (by decide) (by decide) underlying23 sizeOf5 rfl) ?_
 refine ZT.q rfl (Wn.no rfl) rfl rfl (fun wq hS => R.move (v := (vn pg)) rfl) ?_
 refine ZT.q rfl (Wn.no rfl) rfl rfl (fun wq hS => R.conv (b := ((UInt64.ofNat pg) : UInt64).toNat) rfl underlying3 underlying27 (w64_nat pg)) ?_
 refine ZT.q rfl (Wn.no rfl) rfl rfl (fun wq hS => R.sliceA (b := b_4) (off := 0) (off' := 0) (l := 0) (h := 128) rfl EvB.dflt EvB.dflt (by decide) (by decide) underlying29 sizeOf5 rfl) ?_
 refine ZT.s ?_
 refine OpZ.one rfl (Wn.no rfl) ?_
 refine WL.call Tryz.call62 rfl rfl (c_PutR (UInt64.ofNat pg) 8 (by omega) _) rfl ?_
 rintro _ w_15 ⟨a_13, cap_14, rfl, hc_16, ho_17⟩
 have h_18 := h_11.gotRow hc_16 ho_17
 refine WL.nil ?_
 refine ⟨(N1_2_3 h_18.ok), ?_⟩
 refine ZT.s ?_
 refine OpZ.one rfl (Wn.no rfl) ?_
 refine WL.buildSl (vs := [(0, (.slice (some ⟨b_1, 0, none⟩) 32 32)), (1, (.slice a_13 8 cap_14)), (2, (.slice (some ⟨b_4, 0, none⟩) 128 128))]) (cs := [(.slice (some ⟨b_1, 0, none⟩) 32 32), (.slice a_13 8 cap_14), (.slice (some ⟨b_4, 0, none⟩) 128 128)]) h_18 underlying128 sizeOf88 (zv typeInfo88 rfl) rfl rfl (by kernel_rfl) rfl (by simp [Value.oneCell']) rfl rfl (fun b_19 w_20 h_21 => ?_)
 refine WL.nil ?_
 refine ⟨(N2_3_4 h_21.ok), ?_⟩
 refine ZT.s ?_
 refine OpZ.one rfl (Wn.no rfl) ?_
 refine WL.call Tryz.call74 rfl rfl (c_JoinR (some ⟨b_19, 0, none⟩) 3 3 [(.slice (some ⟨b_1, 0, none⟩) 32 32), (.slice a_13 8 cap_14), (.slice (some ⟨b_4, 0, none⟩) 128 128)] [md, leN 8 (UInt64.ofNat pg).toNat, gr] rfl (by simp only [List.flatten_cons, List.flatten_nil, List.length_append, List.length_nil, leN_len]; omega) (by omega) _ (viewB (h_21.ok _ M0) Sg.h) (Sls.cons hmd (by decide) (viewB (h_21.ok _ M4) Sg.h) (Sls.cons (leN_len ..) (h_21.own M1).2.2.1 (ownView (h_21.ok _ M1)) (Sls.cons hgr (by decide) (viewB (h_21.ok _ M3) Sg.h) Sls.nil)))) rfl ?_
 rintro _ w_24 ⟨a_22, cap_23, rfl, hc_25, ho_26⟩
 have h_27 := h_21.gotRow hc_25 ho_26
 refine WL.nil ?_
 refine ⟨(SL.cons (h_27.ok _ M3) (SL.cons (h_27.ok _ M4) (SL.cons (h_27.ok _ M5) (SL.nil _ _)))), ?_⟩
 refine ZT.s ?_
 refine OpZ.one rfl (Wn.no rfl) ?_
 have h_28 := h_27.rowView
 have h_32 := (((h_28.up J9).up J9).up J9).up J9
 have h32_w_36 := (Lgs.ok32 (h_32.ok _ M2).1)
 refine WL.call Tryz.call59 rfl rfl (c_rDig id ob ms df hms da dn dc u hdf la lc lx lg hu hlg 2 ([md, leN 8 (UInt64.ofNat pg).toNat, gr].flatten) a_22 [md, leN 8 (UInt64.ofNat pg).toNat, gr].flatten.length cap_23 (by omega) (by simp only [List.flatten_cons, List.flatten_nil, List.length_append, List.length_nil, leN_len]; omega) (rfl : List.length ([md, leN 8 (UInt64.ofNat pg).toNat, gr].flatten) = [md, leN 8 (UInt64.ofNat pg).toNat, gr].flatten.length) _ h_32) rfl ?_
 rintro _ w_36 ⟨la_33, lc_34, lx_35, rfl, h_37⟩
 refine WL.nil ?_
 refine ⟨(SL.cons (h_37.ok _ M7) (SL.cons (h_37.ok _ M8) (SL.cons (h_37.ok _ M9) (SL.nil _ _)))), ?_⟩
 refine ZT.s ?_
 refine OpZ.last rfl (Wn.no rfl) ?_
 refine WL.storeA [] [(32, (zB 32).map vu8)] [(32, (anD id df dn u lg (1, (zB 32), 2, ([md, leN 8 (UInt64.ofNat pg).toNat, gr].flatten))).map vu8)] [] h_37 rfl rfl sizeOf23 Y7 (by decide) rfl rfl rfl rfl rfl rfl (sC (s8 (anD_len hdf h32_w_36)) sN) (fun w_38 h_39 => ?_)
 refine WL.nil (ZT.nil (thn_n (WP.ret ?_)))
 refine ret_of results30 (RV.cell rfl (h_39.loadA (cs := (anD id df dn u lg (1, (zB 32), 2, ([md, leN 8 (UInt64.ofNat pg).toNat, gr].flatten))).map vu8) isAgg23 sizeOf23 M7 rfl rfl) RV.nil) ?_
 have h_55 := (((((((((((((((h_39.up J4).drop rfl).up J4).drop rfl).up J4).drop rfl).up J4).drop rfl).up J4).drop rfl).up J4).drop rfl).up J3).up J3).up J3).up J3
 exact ⟨_, _, _, rfl, h_55⟩

theorem c_rRec {w00 : World} {L : List Ent} (id : Bool) (ob : Nat) (ms df : List UInt8) (hms : ms.length = 32) (da : Option Addr) (dn dc u : Nat) (hdf : df.length = 32 * dn) (la : Option Addr) (lc : Nat) (lx : List Value) (lg : Lg) (hu : u ≤ 1000000) (hlg : lg.length ≤ 1000000) (md : List UInt8) (hmd : md.length = 32) (pc : UInt64) (rg : List UInt64) (hrg : rg.length = 8) (run : Bool) (w : World) (h_0 : HP w00 w (Ent.blk ob .nw 47 [(1, [(.bool id)]), (32, ms.map vu8), (1, [(.slice da dn dc)]), (1, [(vi ((u : Nat) : Int))]), (1, [(.slice la lg.length lc)])] :: Ent.row la lg.length lc 96 67 lx :: Ent.pin (sblks lx) (fun w => Lgs w lx lg) :: Ent.view da (df.map vu8) :: L)) :
  Cs Tryz.prog 33 [(.pointer (some ⟨ob, 0, none⟩)), (.agg ⟨md.map vu8⟩), (.agg ⟨flat [(1, [(vu64 pc)]), (8, rg.map vu64), (1, [(.bool run)])]⟩)].toArray w (fun v w1 => ∃ la' lc' lx', v = (.agg ⟨(anD id df dn u lg (1, (List.replicate 32 (0 : UInt8)), 3, [md, recB pc rg run].flatten)).map vu8⟩) ∧ HP w00 w1 (Ent.blk ob .nw 47 [(1, [(.bool id)]), (32, ms.map vu8), (1, [(.slice da dn dc)]), (1, [(vi (((anU id u lg (1, (List.replicate 32 (0 : UInt8)), 3, [md, recB pc rg run].flatten)) : Nat) : Int))]), (1, [(.slice la' ((anL id df dn u lg (1, (List.replicate 32 (0 : UInt8)), 3, [md, recB pc rg run].flatten)).length) lc')])] :: Ent.row la' ((anL id df dn u lg (1, (List.replicate 32 (0 : UInt8)), 3, [md, recB pc rg run].flatten)).length) lc' 96 67 lx' :: Ent.pin (sblks lx') (fun w => Lgs w lx' (anL id df dn u lg (1, (List.replicate 32 (0 : UInt8)), 3, [md, recB pc rg run].flatten))) :: Ent.view da (df.map vu8) :: L)) := by
 refine Cs.of (n := 16) (args := [(pO ob 0), (.agg ⟨md.map vu8⟩), (.agg ⟨flat [(1, [(vu64 pc)]), (8, rg.map vu64), (1, [(.bool run)])]⟩)]) Tryz.func33 rfl rfl rfl ?_
 refine WP.seq (WP.reg ?_)
 refine WL.box (segs := [(32, md.map vu8)]) h_0 rfl rfl (sC (s8 hmd) sN) rfl (fun b_1 w_2 h_3 => ?_)
 refine WL.box (segs := [(1, [(vu64 pc)]), (8, rg.map vu64), (1, [(.bool run)])]) h_3 rfl rfl (sC sV (sC (SOk.u64 hrg) (sC sV sN))) rfl (fun b_4 w_5 h_6 => ?_)
 refine WL.alloc (segs := [(32, (zB 32).map vu8)]) h_6 (zv typeInfo23 rfl) rfl (sC (s8 lr) sN) rfl (fun b_7 w_8 h_9 => ?_)
 refine WL.nil (thn_n (WP.seq (WP.reg ?_)))
 refine qV rfl (R.loadA [] [(1, [(vu64 pc)]), (8, rg.map vu64), (1, [(.bool run)])] [] rfl isAgg57 sizeOf57 (h_9.ok _ M1) rfl rfl rfl rfl) ?_
 refine WL.call Tryz.call76 rfl rfl (c_RecBytesR pc rg hrg run _ ) rfl ?_
 rintro _ w_11 ⟨rfl, hc_10⟩
 have h_12 := h_9.same hc_10
 refine WL.alloc (segs := [(128, (zB 128).map vu8)]) h_12 (zv typeInfo29 rfl) rfl (sC (s8 lr) sN) rfl (fun b_13 w_14 h_15 => ?_)
 refine WL.storeA [] [(128, (zB 128).map vu8)] [(128, (recB pc rg run).map vu8)] [] h_15 rfl rfl sizeOf29 At.h (by decide) rfl rfl rfl rfl rfl rfl (sC (s8 (recB_len ..)) sN) (fun w_16 h_17 => ?_)
 refine WL.nil (thn_n (WP.seq ?_))
 refine WP.drawZ 6 (SL w00.heap.size [.blk b_13 .nw 29 [(128, (recB pc rg run).map vu8)], .blk b_7 .nw 23 [(32, (zB 32).map vu8)], .blk b_4 .nw 57 [(1, [(vu64 pc)]), (8, rg.map vu64), (1, [(.bool run)])], .blk b_1 .nw 23 [(32, md.map vu8)]]) (.q 0 (.q 1 (.q 2 (.s 3 (.s 4 (.s 5 (.s 6 .nil))))))) (by kernel_rfl) (by kernel_rfl) rfl (by kernel_rfl) (fun w_18 hc_20 => (SL.cons ((h_17.same hc_20).ok _ M0) (SL.cons ((h_17.same hc_20).ok _ M1) (SL.cons ((h_17.same hc_20).ok _ M2) (SL.cons ((h_17.same hc_20).ok _ M3) (SL.nil _ _)))))) (fun w_18 hc_20 => ?_)
 have h_19 := h_17.same hc_20
 refine ZT.q rfl (Wn.no rfl) rfl rfl (fun wq hS => R.move (v := (pO ob 0)) rfl) ?_
 refine ZT.q rfl (Wn.no rfl) rfl rfl (fun wq hS => R.sliceA (b := b_1) (off := 0) (off' := 0) (l := 0) (h := 32) rfl EvB.dflt EvB.dflt (by decide) (by decide) underlying23 sizeOf5 rfl) ?_
 refine ZT.q rfl (Wn.no rfl) rfl rfl (fun wq hS => R.sliceA (b := b_13) (off := 0) (off' := 0) (l := 0) (h := 128) rfl EvB.dflt EvB.dflt (by decide) (by decide) underlying29 sizeOf5 rfl) ?_
 refine ZT.s ?_
 refine OpZ.one rfl (Wn.no rfl) ?_
 refine WL.buildSl (vs := [(0, (.slice (some ⟨b_1, 0, none⟩) 32 32)), (1, (.slice (some ⟨b_13, 0, none⟩) 128 128))]) (cs := [(.slice (some ⟨b_1, 0, none⟩) 32 32), (.slice (some ⟨b_13, 0, none⟩) 128 128)]) h_19 underlying128 sizeOf88 (zv typeInfo88 rfl) rfl rfl (by kernel_rfl) rfl (by simp [Value.oneCell']) rfl rfl (fun b_21 w_22 h_23 => ?_)
 refine WL.nil ?_
 refine ⟨(N1_2_3_4 h_23.ok), ?_⟩
 refine ZT.s ?_
 refine OpZ.one rfl (Wn.no rfl) ?_
 refine WL.call Tryz.call74 rfl rfl (c_JoinR (some ⟨b_21, 0, none⟩) 2 2 [(.slice (some ⟨b_1, 0, none⟩) 32 32), (.slice (some ⟨b_13, 0, none⟩) 128 128)] [md, recB pc rg run] rfl (by simp only [List.flatten_cons, List.flatten_nil, List.length_append, List.length_nil, leN_len]; rw [recB_len]; omega) (by omega) _ (viewB (h_23.ok _ M0) Sg.h) (Sls.cons hmd (by decide) (viewB (h_23.ok _ M4) Sg.h) (Sls.cons (recB_len ..) (by decide) (viewB (h_23.ok _ M1) Sg.h) Sls.nil))) rfl ?_
 rintro _ w_26 ⟨a_24, cap_25, rfl, hc_27, ho_28⟩
 have h_29 := h_23.gotRow hc_27 ho_28
 refine WL.nil ?_
 refine ⟨(N2_3_4_5 h_29.ok), ?_⟩
 refine ZT.s ?_
 refine OpZ.one rfl (Wn.no rfl) ?_
 have h_30 := h_29.rowView
 have h_34 := (((h_30.up J9).up J9).up J9).up J9
 have h32_w_38 := (Lgs.ok32 (h_34.ok _ M2).1)
 refine WL.call Tryz.call59 rfl rfl (c_rDig id ob ms df hms da dn dc u hdf la lc lx lg hu hlg 3 ([md, recB pc rg run].flatten) a_24 [md, recB pc rg run].flatten.length cap_25 (by omega) (by simp only [List.flatten_cons, List.flatten_nil, List.length_append, List.length_nil, leN_len]; rw [recB_len]; omega) (rfl : List.length ([md, recB pc rg run].flatten) = [md, recB pc rg run].flatten.length) _ h_34) rfl ?_
 rintro _ w_38 ⟨la_35, lc_36, lx_37, rfl, h_39⟩
 refine WL.nil ?_
 refine ⟨(SL.cons (h_39.ok _ M6) (SL.cons (h_39.ok _ M7) (SL.cons (h_39.ok _ M8) (SL.cons (h_39.ok _ M9) (SL.nil _ _))))), ?_⟩
 refine ZT.s ?_
 refine OpZ.last rfl (Wn.no rfl) ?_
 refine WL.storeA [] [(32, (zB 32).map vu8)] [(32, (anD id df dn u lg (1, (zB 32), 3, ([md, recB pc rg run].flatten))).map vu8)] [] h_39 rfl rfl sizeOf23 Y7 (by decide) rfl rfl rfl rfl rfl rfl (sC (s8 (anD_len hdf h32_w_38)) sN) (fun w_40 h_41 => ?_)
 refine WL.nil (ZT.nil (thn_n (WP.ret ?_)))
 refine ret_of results33 (RV.cell rfl (h_41.loadA (cs := (anD id df dn u lg (1, (zB 32), 3, ([md, recB pc rg run].flatten))).map vu8) isAgg23 sizeOf23 M7 rfl rfl) RV.nil) ?_
 have h_57 := (((((((((((((((h_41.up J4).drop rfl).up J4).drop rfl).up J4).drop rfl).up J4).drop rfl).up J4).drop rfl).up J4).drop rfl).up J3).up J3).up J3).up J3
 exact ⟨_, _, _, rfl, h_57⟩

theorem c_both12 {w00 : World} {L : List Ent} (id : Bool) (ms df : List UInt8) (hms : ms.length = 32) (da0 : Option Addr) (n cap0 : Nat) (hl : df.length = 32 * n) (hn : n ≤ 1000000) (w : World) (h_0 : HP w00 w (Ent.view da0 (df.map vu8) :: L)) :
  Cs Tryz.prog 24 [(.bool id), (.agg ⟨ms.map vu8⟩), (.slice da0 n cap0)].toArray w (fun v w1 => ∃ ob mp da dc rb, v = .tuple [.pointer (some ⟨ob, 0, none⟩), .pointer (some ⟨rb, 0, none⟩)].toArray ∧ HP w00 w1 (Ent.blk ob .nw 118 [(1, [(.bool id)]), (32, ms.map vu8), (1, [(.slice da n dc)]), (1, [(vi 0)]), (1, [(.map (some mp))]), (1, [(.slice none 0 0)])] :: Ent.row none 0 0 96 67 [] :: Ent.obj mp .nw (.map (mArr ([] : Lg)) 0) :: Ent.pin (sblks []) (fun w => Lgs w [] ([] : Lg)) :: Ent.view da (df.map vu8) :: Ent.blk rb .nw 47 [(1, [(.bool id)]), (32, ms.map vu8), (1, [(.slice da0 n cap0)]), (1, [(vi 0)]), (1, [(.slice none 0 0)])] :: Ent.view da0 (df.map vu8) :: L)) := by
 refine Cs.of (n := 17) (args := [(.bool id), (.agg ⟨ms.map vu8⟩), (.slice da0 n cap0)]) Tryz.func24 rfl rfl rfl ?_
 refine WP.seq (WP.reg ?_)
 refine WL.box (segs := [(32, ms.map vu8)]) h_0 rfl rfl (sC (s8 hms) sN) rfl (fun b_1 w_2 h_3 => ?_)
 refine qA (.pointer none) rfl rfl (qA (.pointer none) rfl rfl ?_)
 refine WL.nil (thn_n (WP.seq ?_))
 refine WP.cutG (G := Nat × Nat × Option Addr × Nat × Nat) [6, 7, 8, 9, 10, 11, 12, 13, 14, 15, 16] (fun (bY1Y3Y0Y0, bY1Y8Y0Y0, aY1Y3Y0Y0, cY1Y3Y0Y0, bY1Y3Y0Y1) => [(6, (pO bY1Y3Y0Y0 0)), (7, (pO bY1Y8Y0Y0 0)), (8, (.bool id)), (9, (.agg ⟨ms.map vu8⟩)), (10, (.slice da0 n cap0)), (12, (.bool id)), (13, (.agg ⟨ms.map vu8⟩)), (14, (.slice da0 n cap0)), (15, (.agg ⟨flat [(1, [(.bool id)]), (32, ms.map vu8), (1, [(.slice da0 n cap0)]), (1, [(vi 0)]), (1, [(.slice none 0 0)])]⟩)), (11, (pO bY1Y3Y0Y0 0)), (16, (pO bY1Y8Y0Y0 0))]) (fun (bY1Y3Y0Y0, bY1Y8Y0Y0, aY1Y3Y0Y0, cY1Y3Y0Y0, bY1Y3Y0Y1) w1 => HP w00 w1 (Ent.blk bY1Y8Y0Y0 .nw 47 [(1, [(.bool id)]), (32, ms.map vu8), (1, [(.slice da0 n cap0)]), (1, [(vi 0)]), (1, [(.slice none 0 0)])] :: Ent.blk bY1Y3Y0Y0 .nw 118 [(1, [(.bool id)]), (32, ms.map vu8), (1, [(.slice aY1Y3Y0Y0 n cY1Y3Y0Y0)]), (1, [(vi 0)]), (1, [(.map (some bY1Y3Y0Y1))]), (1, [(.slice none 0 0)])] :: Ent.row none 0 0 96 67 [] :: Ent.obj bY1Y3Y0Y1 .nw (.map (mArr ([] : Lg)) 0) :: Ent.pin (sblks []) (fun w => Lgs w [] ([] : Lg)) :: Ent.view aY1Y3Y0Y0 (df.map vu8) :: Ent.view da0 (df.map vu8) :: Ent.blk b_1 .nw 23 [(32, ms.map vu8)] :: L)) ?_ ?_
 ·refine WP.drawT (SL w00.heap.size [.blk b_1 .nw 23 [(32, ms.map vu8)], .view da0 (df.map vu8)]) (.q 0 (.q 1 (.q 2 (.q 4 (.q 5 (.q 6 (.q 7 (.s2 3 8 (.q 9 (.s 8 (.q 10 .nil))) (.s 3 (.q 9 (.q 10 .nil))))))))))) (by kernel_rfl) (by kernel_rfl) rfl (by kernel_rfl) (fun w_4 hc_6 => (SL.cons ((h_3.same hc_6).ok _ M0) (SL.cons ((h_3.same hc_6).ok _ M1) (SL.nil _ _)))) (fun w_4 hc_6 => ?_)
  have h_5 := h_3.same hc_6
  refine qT rfl rfl (fun wq hS => R.move (v := (.bool id)) rfl) ?_
  refine qT rfl rfl (fun wq hS => R.loadA [] [(32, ms.map vu8)] [] (cs := ms.map vu8) rfl isAgg23 sizeOf23 (hS _ M0) rfl rfl rfl rfl) ?_
  refine qT rfl rfl (fun wq hS => R.move (v := (.slice da0 n cap0)) rfl) ?_
  refine qT rfl rfl (fun wq hS => R.move (v := (.bool id)) rfl) ?_
  refine qT rfl rfl (fun wq hS => R.loadA [] [(32, ms.map vu8)] [] (cs := ms.map vu8) rfl isAgg23 sizeOf23 (hS _ M0) rfl rfl rfl rfl) ?_
  refine qT rfl rfl (fun wq hS => R.move (v := (.slice da0 n cap0)) rfl) ?_
  refine qT rfl rfl (fun wq hS => R.buildS (pl := [(0, 1), (1, 32), (33, 1), (34, 1), (35, 1)]) (zs := [(1, [(.bool false)]), (32, (zB 32).map vu8), (1, [(.slice none 0 0)]), (1, [(vi 0)]), (1, [(.slice none 0 0)])]) (vs := [(0, (.bool id)), (1, (.agg ⟨ms.map vu8⟩)), (2, (.slice da0 n cap0))]) (out := [(1, [(.bool id)]), (32, ms.map vu8), (1, [(.slice da0 n cap0)]), (1, [(vi 0)]), (1, [(.slice none 0 0)])]) underlying47 (zv typeInfo47 rfl) rfl (sC sV (sC (s8 lr) (sC sV (sC sV (sC sV sN))))) (pl47 _ underlying47) rfl (FillR.cons [] [(1, [(.bool false)])] [(1, [(.bool id)])] [(32, (zB 32).map vu8), (1, [(.slice none 0 0)]), (1, [(vi 0)]), (1, [(.slice none 0 0)])] rfl rfl rfl rfl (sC sV sN) rfl rfl rfl (FillR.cons [(1, [(.bool id)])] [(32, (zB 32).map vu8)] [(32, ms.map vu8)] [(1, [(.slice none 0 0)]), (1, [(vi 0)]), (1, [(.slice none 0 0)])] rfl rfl rfl rfl (sC (s8 hms) sN) rfl rfl rfl (FillR.cons [(1, [(.bool id)]), (32, ms.map vu8)] [(1, [(.slice none 0 0)])] [(1, [(.slice da0 n cap0)])] [(1, [(vi 0)]), (1, [(.slice none 0 0)])] rfl rfl rfl rfl (sC sV sN) rfl rfl rfl FillR.nil))) rfl) ?_
  refine WT.s2 ?_ ?_
  ·refine oN rfl ?_
   have h_8 := h_5.up J1
   refine WL.call Tryz.call46 rfl rfl (c_ONew id ms df hms da0 n cap0 hl (by omega) _ h_8) rfl ?_
   rintro _ w_13 ⟨b_9, b_10, a_11, c_12, rfl, h_14⟩
   refine WL.nil ?_
   refine ⟨(SL.cons (h_14.ok _ M6) (SL.cons (h_14.ok _ M5) (SL.nil _ _))), ?_⟩
   refine qT rfl rfl (fun wq hS => R.assign (v := (pO b_9 0)) rfl) ?_
   refine WT.s (oN rfl ?_)
   refine WL.box (segs := [(1, [(.bool id)]), (32, ms.map vu8), (1, [(.slice da0 n cap0)]), (1, [(vi 0)]), (1, [(.slice none 0 0)])]) h_14 rfl rfl (sC sV (sC (s8 hms) (sC sV (sC sV (sC sV sN))))) rfl (fun b_15 w_16 h_17 => ?_)
   refine WL.nil ?_
   refine ⟨(SL.cons (h_17.ok _ M7) (SL.cons (h_17.ok _ M6) (SL.nil _ _))), ?_⟩
   refine qT rfl rfl (fun wq hS => R.assign (v := (pO b_15 0)) rfl) ?_
   refine WT.nil (thn_n ?_)
   exact ⟨(b_9, b_15, a_11, c_12, b_10), (Ag.upd rfl (U2 rfl rfl (U4 rfl rfl rfl rfl (U4 rfl rfl rfl rfl (Ag.refl _ _))))), ⟨rfl, rfl, rfl, rfl, rfl, rfl, rfl, rfl, rfl, rfl, rfl, trivial⟩, h_17⟩
  ·refine oN rfl ?_
   refine WL.box (segs := [(1, [(.bool id)]), (32, ms.map vu8), (1, [(.slice da0 n cap0)]), (1, [(vi 0)]), (1, [(.slice none 0 0)])]) h_5 rfl rfl (sC sV (sC (s8 hms) (sC sV (sC sV (sC sV sN))))) rfl (fun b_18 w_19 h_20 => ?_)
   refine WL.nil ?_
   refine ⟨(N1_2 h_20.ok), ?_⟩
   refine WT.s (oN rfl ?_)
   have h_21 := h_20.up J2
   refine WL.call Tryz.call46 rfl rfl (c_ONew id ms df hms da0 n cap0 hl (by omega) _ h_21) rfl ?_
   rintro _ w_26 ⟨b_22, b_23, a_24, c_25, rfl, h_27⟩
   refine WL.nil ?_
   refine ⟨(SL.cons (h_27.ok _ M7) (SL.cons (h_27.ok _ M5) (SL.nil _ _))), ?_⟩
   refine qT rfl rfl (fun wq hS => R.assign (v := (pO b_22 0)) rfl) ?_
   refine qT rfl rfl (fun wq hS => R.assign (v := (pO b_18 0)) rfl) ?_
   refine WT.nil (thn_n ?_)
   have h_35 := (((((((h_27.up J7).up J6).up J6).up J6).up J6).up J6).up J6).up J7
   exact ⟨(b_22, b_18, a_24, c_25, b_23), (Ag.upd rfl (U2 rfl rfl (U4 rfl rfl rfl rfl (U4 rfl rfl rfl rfl (Ag.refl _ _))))), ⟨rfl, rfl, rfl, rfl, rfl, rfl, rfl, rfl, rfl, rfl, rfl, trivial⟩, h_35⟩
 ·rintro ⟨b_39, b_40, a_41, c_42, b_43⟩ J_36 w_37 h_38
  refine thn_n (WP.ret ?_)
  refine ret_of results24 (RV.tmp (v := (pO b_39 0)) rfl (RV.tmp (v := (pO b_40 0)) rfl RV.nil)) ?_
  have h_52 := ((((((((h_38.up J7).drop rfl).up J6).up J1).up J6).up J6).up J6).up J6).up J6
  exact ⟨_, _, _, _, _, rfl, h_52⟩
end Go.Proofs.YteclkcpdclimnaaGreat

namespace Go.Proofs.YteclkcpdclimnaaGreat
open Go.Proofs.Tryz
open Go.Vc Go.Orc Go.Sh Go.RowKit
set_option maxRecDepth 20000
theorem kt29 : Tryz.prog.keyTypeAt 2 29 = true := by kernel_rfl
theorem ag29 : aggB Tryz.prog 29 = true := by unfold aggB; rw [underlying29]
theorem kt57 : Tryz.prog.keyTypeAt 3 57 = true := by kernel_rfl
theorem ag57 : aggB Tryz.prog 57 = true := by unfold aggB; rw [underlying57]
theorem pl57 : ∀ fs, Tryz.prog.underlying 57 = some (.struct fs) → Places Tryz.prog fs [(0, 1), (1, 8), (9, 1)] := by
 intro fs h w; rw [underlying57] at h; cases h; simp
def mayZ (kd : Int) (val : List UInt8) (pg : Int) (gr : List UInt8) (pc : UInt64) (rg : List UInt64) (run : Bool) : Prop :=
 (kd = 1 ∧ pg = 0 ∧ gr = List.replicate 128 (0 : UInt8) ∧ (pc = 0 ∧ rg = List.replicate 8 (0 : UInt64) ∧ run = false)) ∨ (kd = 2 ∧ val = List.replicate 32 (0 : UInt8) ∧ (0 ≤ pg ∧ pg < 128) ∧ (pc = 0 ∧ rg = List.replicate 8 (0 : UInt64) ∧ run = false)) ∨ (kd = 3 ∧ val = List.replicate 32 (0 : UInt8) ∧ pg = 0 ∧ gr = List.replicate 128 (0 : UInt8) ∧ decide (pc % 8 = 0) = true)
instance (kd : Int) (val : List UInt8) (pg : Int) (gr : List UInt8) (pc : UInt64) (rg : List UInt64) (run : Bool) : Decidable (mayZ kd val pg gr pc rg run) := by unfold mayZ; infer_instance
def mayB (kd : Int) (val : List UInt8) (pg : Int) (gr : List UInt8) (pc : UInt64) (rg : List UInt64) (run : Bool) : Bool := decide (mayZ kd val pg gr pc rg run)
theorem vi_inj {a b : Int} (h : vi a = vi b) : a = b := by injection h
theorem vu64_inj {a b : UInt64} (h : vu64 a = vu64 b) : a = b := by
 have h2 : ((a.toNat : Nat) : Int) = b.toNat := by simpa [vu64] using h
 exact UInt64.toNat_inj.1 (by omega)
theorem map_inj64 {a b : List UInt64} (h : a.map vu64 = b.map vu64) : a = b := List.map_inj_right (f := vu64) (fun x y h => vu64_inj h) |>.1 h
theorem rec3_inj {pc pc' : UInt64} {rg rg' : List UInt64} {b b' : Bool} (hl : rg.length = 8) (hl' : rg'.length = 8) (h : flat [(1, [vu64 pc]), (8, rg.map vu64), (1, [.bool b])] = flat [(1, [vu64 pc']), (8, rg'.map vu64), (1, [.bool b'])]) : pc = pc' ∧ rg = rg' ∧ b = b' := by
 simp only [flat, List.cons_append, List.nil_append, List.append_nil, List.cons.injEq] at h
 obtain ⟨h1, h2⟩ := h
 obtain ⟨h3, h4⟩ := List.append_inj h2 (by rw [List.length_map, List.length_map, hl, hl'])
 refine ⟨vu64_inj h1, map_inj64 h3, ?_⟩
 simpa using h4
theorem rec7_inj {kd kd' pg pg' : Int} {val val' gr gr' : List UInt8} {pc pc' : UInt64} {rg rg' : List UInt64} {b b' : Bool} (v1 : val.length = 32) (v2 : val'.length = 32) (g1 : gr.length = 128) (g2 : gr'.length = 128) (hl : rg.length = 8) (hl' : rg'.length = 8)
  (h : flat [(1, [vi kd]), (32, val.map vu8), (1, [vi pg]), (128, gr.map vu8), (1, [vu64 pc]), (8, rg.map vu64), (1, [.bool b])] = flat [(1, [vi kd']), (32, val'.map vu8), (1, [vi pg']), (128, gr'.map vu8), (1, [vu64 pc']), (8, rg'.map vu64), (1, [.bool b'])]) : kd = kd' ∧ val = val' ∧ pg = pg' ∧ gr = gr' ∧ (pc = pc' ∧ rg = rg' ∧ b = b') := by
 simp only [flat, List.cons_append, List.nil_append, List.cons.injEq] at h
 obtain ⟨h1, h2⟩ := h
 obtain ⟨h3, h4⟩ := List.append_inj h2 (by rw [List.length_map, List.length_map, v1, v2])
 simp only [List.cons.injEq] at h4
 obtain ⟨h5, h6⟩ := h4
 obtain ⟨h7, h8⟩ := List.append_inj h6 (by rw [List.length_map, List.length_map, g1, g2])
 exact ⟨vi_inj h1, map_inj_u8 ▸ h3, vi_inj h5, map_inj_u8 ▸ h7, rec3_inj hl hl' (by simp only [flat, List.cons_append, List.nil_append]; exact h8)⟩

theorem c_bareG_1 (val : List UInt8) (hvl : val.length = 32) (pg : Int) (hbp : -9223372036854775808 ≤ pg ∧ pg < 9223372036854775808) (gr : List UInt8) (hgr : gr.length = 128) (pc : UInt64) (rg : List UInt64) (hrg : rg.length = 8) (run : Bool) (w : World) :
  Cs Tryz.prog 78 [(.agg ⟨flat [(1, [(vi 1)]), (32, val.map vu8), (1, [(vi pg)]), (128, gr.map vu8), (1, [(vu64 pc)]), (8, rg.map vu64), (1, [(.bool run)])]⟩)].toArray w (fun v w1 => v = (.agg ⟨flat [(1, [(vi 1)]), (32, val.map vu8), (1, [(vi 0)]), (128, (List.replicate 128 (0 : UInt8)).map vu8), (1, [(vu64 0)]), (8, (List.replicate 8 (0 : UInt64)).map vu64), (1, [(.bool false)])]⟩) ∧ Chg w w1 []) := by
 refine Cs.of (n := 28) (args := [(.agg ⟨flat [(1, [(vi 1)]), (32, val.map vu8), (1, [(vi pg)]), (128, gr.map vu8), (1, [(vu64 pc)]), (8, rg.map vu64), (1, [(.bool run)])]⟩)]) Tryz.func78 rfl rfl rfl ?_
 have h_0 := HP.init w
 refine WP.seq (WP.reg ?_)
 refine WL.box (segs := [(1, [(vi 1)]), (32, val.map vu8), (1, [(vi pg)]), (128, gr.map vu8), (1, [(vu64 pc)]), (8, rg.map vu64), (1, [(.bool run)])]) h_0 rfl rfl (sC sV (sC (s8 hvl) (sC sV (sC (s8 hgr) (sC sV (sC (SOk.u64 hrg) (sC sV sN))))))) rfl (fun b_1 w_2 h_3 => ?_)
 refine WL.alloc (segs := [(1, [(vi 0)]), (32, (zB 32).map vu8), (1, [(vi 0)]), (128, (zB 128).map vu8), (1, [(vu64 0)]), (8, (zW 8).map vu64), (1, [(.bool false)])]) h_3 (zv typeInfo70 rfl) rfl (sC sV (sC (s8 lr) (sC sV (sC (s8 lr) (sC sV (sC (SOk.u64 lr) (sC sV sN))))))) rfl (fun b_4 w_5 h_6 => ?_)
 refine WL.nil (thn_n (WP.seq (WP.reg ?_)))
 refine qV rfl (R.fieldAddr (off' := 0) rfl underlying70 rfl sizeOf68 rfl rfl) (qV rfl (R.load1 rfl isAgg68 (h_6.ok _ M1) Sg.h) (qV rfl (R.buildS (pl := [(0, 1), (1, 32), (33, 1), (34, 128), (162, 10)]) (zs := [(1, [(vi 0)]), (32, (zB 32).map vu8), (1, [(vi 0)]), (128, (zB 128).map vu8), (1, [(vu64 0)]), (8, (zW 8).map vu64), (1, [(.bool false)])]) (vs := [(0, (vi 1))]) (out := [(1, [(vi 1)]), (32, (zB 32).map vu8), (1, [(vi 0)]), (128, (zB 128).map vu8), (1, [(vu64 0)]), (8, (zW 8).map vu64), (1, [(.bool false)])]) underlying70 (zv typeInfo70 rfl) rfl (sC sV (sC (s8 lr) (sC sV (sC (s8 lr) (sC sV (sC (SOk.u64 lr) (sC sV sN))))))) (pl70 _ underlying70) rfl (FillR.cons [] [(1, [(vi 0)])] [(1, [(vi 1)])] [(32, (zB 32).map vu8), (1, [(vi 0)]), (128, (zB 128).map vu8), (1, [(vu64 0)]), (8, (zW 8).map vu64), (1, [(.bool false)])] rfl rfl rfl rfl (sC sV sN) rfl rfl rfl FillR.nil) rfl) ?_))
 refine WL.alloc (segs := [(1, [(vi 0)]), (32, (zB 32).map vu8), (1, [(vi 0)]), (128, (zB 128).map vu8), (1, [(vu64 0)]), (8, (zW 8).map vu64), (1, [(.bool false)])]) h_6 (zv typeInfo70 rfl) rfl (sC sV (sC (s8 lr) (sC sV (sC (s8 lr) (sC sV (sC (SOk.u64 lr) (sC sV sN))))))) rfl (fun b_8 w_9 h_10 => ?_)
 refine WL.storeA [] [(1, [(vi 0)]), (32, (zB 32).map vu8), (1, [(vi 0)]), (128, (zB 128).map vu8), (1, [(vu64 0)]), (8, (zW 8).map vu64), (1, [(.bool false)])] [(1, [(vi 1)]), (32, (zB 32).map vu8), (1, [(vi 0)]), (128, (zB 128).map vu8), (1, [(vu64 0)]), (8, (zW 8).map vu64), (1, [(.bool false)])] [] h_10 rfl rfl sizeOf70 At.h (by decide) rfl rfl rfl rfl rfl rfl (sC sV (sC (s8 lr) (sC sV (sC (s8 lr) (sC sV (sC (SOk.u64 lr) (sC sV sN))))))) (fun w_11 h_12 => ?_)
 refine WL.nil (thn_n (WP.seq (WP.seq (WP.reg ?_))))
 refine qV rfl (R.fieldAddr (off' := 0) rfl underlying70 rfl sizeOf68 rfl rfl) (qV rfl (R.load1 rfl isAgg68 (h_12.ok _ M2) Sg.h) ?_)
 refine WL.nil (thn_n (WP.block (WP.seq (WP.reg ?_))))
 refine qV rfl (R.bin rfl rfl (bi_eql (r := true) (by decide))) (qA (.bool true) rfl rfl ?_)
 refine WL.nil (thn_n ?_)
 refine WP.condT rfl ?_
 refine WP.reg ?_
 refine qV rfl (R.fieldAddr (off' := 1) rfl underlying70 rfl sizeOf23 rfl rfl) (qV rfl (R.loadA [(1, [(vi 1)])] [(32, val.map vu8)] [(1, [(vi pg)]), (128, gr.map vu8), (1, [(vu64 pc)]), (8, rg.map vu64), (1, [(.bool run)])] (cs := val.map vu8) rfl isAgg23 sizeOf23 (h_12.ok _ M2) rfl rfl rfl rfl) (qV rfl (R.fieldAddr (off' := 1) rfl underlying70 rfl sizeOf23 rfl rfl) ?_))
 refine WL.storeA [(1, [(vi 1)])] [(32, (zB 32).map vu8)] [(32, val.map vu8)] [(1, [(vi 0)]), (128, (zB 128).map vu8), (1, [(vu64 0)]), (8, (zW 8).map vu64), (1, [(.bool false)])] h_12 rfl rfl sizeOf23 At.h (by decide) rfl rfl rfl rfl rfl rfl (sC (s8 hvl) sN) (fun w_13 h_14 => ?_)
 refine WL.nil (inb_n (thn_n (WP.seq (WP.reg ?_))))
 refine qV rfl (R.loadA [] [(1, [(vi 1)]), (32, val.map vu8), (1, [(vi 0)]), (128, (zB 128).map vu8), (1, [(vu64 0)]), (8, (zW 8).map vu64), (1, [(.bool false)])] [] rfl isAgg70 sizeOf70 (h_14.ok _ M0) rfl rfl rfl rfl) ?_
 refine WL.storeA [] [(1, [(vi 0)]), (32, (zB 32).map vu8), (1, [(vi 0)]), (128, (zB 128).map vu8), (1, [(vu64 0)]), (8, (zW 8).map vu64), (1, [(.bool false)])] [(1, [(vi 1)]), (32, val.map vu8), (1, [(vi 0)]), (128, (zB 128).map vu8), (1, [(vu64 0)]), (8, (zW 8).map vu64), (1, [(.bool false)])] [] h_14 rfl rfl sizeOf70 Y1 (by decide) rfl rfl rfl rfl rfl rfl (sC sV (sC (s8 hvl) (sC sV (sC (s8 lr) (sC sV (sC (SOk.u64 lr) (sC sV sN))))))) (fun w_15 h_16 => ?_)
 refine WL.nil (thn_n (WP.ret ?_))
 refine ret_of results78 (RV.cell rfl (h_16.loadA (cs := flat [(1, [(vi 1)]), (32, val.map vu8), (1, [(vi 0)]), (128, (zB 128).map vu8), (1, [(vu64 0)]), (8, (zW 8).map vu64), (1, [(.bool false)])]) isAgg70 sizeOf70 M1 rfl rfl) RV.nil) ?_
 exact ⟨rfl, h_16.chgS⟩

theorem c_bareG_2 (val : List UInt8) (hvl : val.length = 32) (pg : Int) (hbp : -9223372036854775808 ≤ pg ∧ pg < 9223372036854775808) (gr : List UInt8) (hgr : gr.length = 128) (pc : UInt64) (rg : List UInt64) (hrg : rg.length = 8) (run : Bool) (w : World) :
  Cs Tryz.prog 78 [(.agg ⟨flat [(1, [(vi 2)]), (32, val.map vu8), (1, [(vi pg)]), (128, gr.map vu8), (1, [(vu64 pc)]), (8, rg.map vu64), (1, [(.bool run)])]⟩)].toArray w (fun v w1 => v = (.agg ⟨flat [(1, [(vi 2)]), (32, (List.replicate 32 (0 : UInt8)).map vu8), (1, [(vi pg)]), (128, gr.map vu8), (1, [(vu64 0)]), (8, (List.replicate 8 (0 : UInt64)).map vu64), (1, [(.bool false)])]⟩) ∧ Chg w w1 []) := by
 refine Cs.of (n := 28) (args := [(.agg ⟨flat [(1, [(vi 2)]), (32, val.map vu8), (1, [(vi pg)]), (128, gr.map vu8), (1, [(vu64 pc)]), (8, rg.map vu64), (1, [(.bool run)])]⟩)]) Tryz.func78 rfl rfl rfl ?_
 have h_0 := HP.init w
 refine WP.seq (WP.reg ?_)
 refine WL.box (segs := [(1, [(vi 2)]), (32, val.map vu8), (1, [(vi pg)]), (128, gr.map vu8), (1, [(vu64 pc)]), (8, rg.map vu64), (1, [(.bool run)])]) h_0 rfl rfl (sC sV (sC (s8 hvl) (sC sV (sC (s8 hgr) (sC sV (sC (SOk.u64 hrg) (sC sV sN))))))) rfl (fun b_1 w_2 h_3 => ?_)
 refine WL.alloc (segs := [(1, [(vi 0)]), (32, (zB 32).map vu8), (1, [(vi 0)]), (128, (zB 128).map vu8), (1, [(vu64 0)]), (8, (zW 8).map vu64), (1, [(.bool false)])]) h_3 (zv typeInfo70 rfl) rfl (sC sV (sC (s8 lr) (sC sV (sC (s8 lr) (sC sV (sC (SOk.u64 lr) (sC sV sN))))))) rfl (fun b_4 w_5 h_6 => ?_)
 refine WL.nil (thn_n (WP.seq (WP.reg ?_)))
 refine qV rfl (R.fieldAddr (off' := 0) rfl underlying70 rfl sizeOf68 rfl rfl) (qV rfl (R.load1 rfl isAgg68 (h_6.ok _ M1) Sg.h) (qV rfl (R.buildS (pl := [(0, 1), (1, 32), (33, 1), (34, 128), (162, 10)]) (zs := [(1, [(vi 0)]), (32, (zB 32).map vu8), (1, [(vi 0)]), (128, (zB 128).map vu8), (1, [(vu64 0)]), (8, (zW 8).map vu64), (1, [(.bool false)])]) (vs := [(0, (vi 2))]) (out := [(1, [(vi 2)]), (32, (zB 32).map vu8), (1, [(vi 0)]), (128, (zB 128).map vu8), (1, [(vu64 0)]), (8, (zW 8).map vu64), (1, [(.bool false)])]) underlying70 (zv typeInfo70 rfl) rfl (sC sV (sC (s8 lr) (sC sV (sC (s8 lr) (sC sV (sC (SOk.u64 lr) (sC sV sN))))))) (pl70 _ underlying70) rfl (FillR.cons [] [(1, [(vi 0)])] [(1, [(vi 2)])] [(32, (zB 32).map vu8), (1, [(vi 0)]), (128, (zB 128).map vu8), (1, [(vu64 0)]), (8, (zW 8).map vu64), (1, [(.bool false)])] rfl rfl rfl rfl (sC sV sN) rfl rfl rfl FillR.nil) rfl) ?_))
 refine WL.alloc (segs := [(1, [(vi 0)]), (32, (zB 32).map vu8), (1, [(vi 0)]), (128, (zB 128).map vu8), (1, [(vu64 0)]), (8, (zW 8).map vu64), (1, [(.bool false)])]) h_6 (zv typeInfo70 rfl) rfl (sC sV (sC (s8 lr) (sC sV (sC (s8 lr) (sC sV (sC (SOk.u64 lr) (sC sV sN))))))) rfl (fun b_8 w_9 h_10 => ?_)
 refine WL.storeA [] [(1, [(vi 0)]), (32, (zB 32).map vu8), (1, [(vi 0)]), (128, (zB 128).map vu8), (1, [(vu64 0)]), (8, (zW 8).map vu64), (1, [(.bool false)])] [(1, [(vi 2)]), (32, (zB 32).map vu8), (1, [(vi 0)]), (128, (zB 128).map vu8), (1, [(vu64 0)]), (8, (zW 8).map vu64), (1, [(.bool false)])] [] h_10 rfl rfl sizeOf70 At.h (by decide) rfl rfl rfl rfl rfl rfl (sC sV (sC (s8 lr) (sC sV (sC (s8 lr) (sC sV (sC (SOk.u64 lr) (sC sV sN))))))) (fun w_11 h_12 => ?_)
 refine WL.nil (thn_n (WP.seq (WP.seq (WP.reg ?_))))
 refine qV rfl (R.fieldAddr (off' := 0) rfl underlying70 rfl sizeOf68 rfl rfl) (qV rfl (R.load1 rfl isAgg68 (h_12.ok _ M2) Sg.h) ?_)
 refine WL.nil (thn_n (WP.block (WP.seq (WP.reg ?_))))
 refine qV rfl (R.bin rfl rfl (bi_eql (r := false) (by decide))) (qA (.bool false) rfl rfl ?_)
 refine WL.nil (thn_n ?_)
 refine WP.condF rfl ?_
 refine WP.seq (WP.reg ?_)
 refine qV rfl (R.bin rfl rfl (bi_eql (r := true) (by decide))) (qA (.bool true) rfl rfl ?_)
 refine WL.nil (thn_n ?_)
 refine WP.condT rfl ?_
 refine WP.drawT (SL w.heap.size [.blk b_4 .nw 70 [(1, [(vi 0)]), (32, (zB 32).map vu8), (1, [(vi 0)]), (128, (zB 128).map vu8), (1, [(vu64 0)]), (8, (zW 8).map vu64), (1, [(.bool false)])], .blk b_1 .nw 70 [(1, [(vi 2)]), (32, val.map vu8), (1, [(vi pg)]), (128, gr.map vu8), (1, [(vu64 pc)]), (8, rg.map vu64), (1, [(.bool run)])]]) (.q 0 (.q 1 (.q 2 (.q 3 (.q 4 (.s 5 (.q 6 (.s 7 .nil)))))))) (by kernel_rfl) (by kernel_rfl) rfl (by kernel_rfl) (fun w_13 hc_15 => (SL.cons ((h_12.same hc_15).ok _ M1) (SL.cons ((h_12.same hc_15).ok _ M2) (SL.nil _ _)))) (fun w_13 hc_15 => ?_)
 have h_14 := h_12.same hc_15
 refine qT rfl rfl (fun wq hS => R.fieldAddr (off' := 33) rfl underlying70 rfl sizeOf3 rfl rfl) ?_
 refine qT rfl rfl (fun wq hS => R.load1 rfl isAgg3 (hS _ M1) (Sg.t rfl (Sg.t rfl Sg.h))) ?_
 refine qT rfl rfl (fun wq hS => R.fieldAddr (off' := 34) rfl underlying70 rfl sizeOf29 rfl rfl) ?_
 refine qT rfl rfl (fun wq hS => R.loadA [(1, [(vi 2)]), (32, val.map vu8), (1, [(vi pg)])] [(128, gr.map vu8)] [(1, [(vu64 pc)]), (8, rg.map vu64), (1, [(.bool run)])] (cs := gr.map vu8) rfl isAgg29 sizeOf29 (hS _ M1) rfl rfl rfl rfl) ?_
 refine qT rfl rfl (fun wq hS => R.fieldAddr (off' := 33) rfl underlying70 rfl sizeOf3 rfl rfl) ?_
 refine WT.s (oN rfl ?_)
 refine WL.store1 h_14 rfl rfl sizeOf3 rfl At.h (by decide) (Sg.t rfl (Sg.t rfl Sg.h)) (fun w_16 h_17 => ?_)
 refine WL.nil ?_
 refine ⟨(N1_2 h_17.ok), ?_⟩
 refine qT rfl rfl (fun wq hS => R.fieldAddr (off' := 34) rfl underlying70 rfl sizeOf29 rfl rfl) ?_
 refine WT.s (oN rfl ?_)
 refine WL.storeA [(1, [(vi 2)]), (32, (zB 32).map vu8), (1, [(vi pg)])] [(128, (zB 128).map vu8)] [(128, gr.map vu8)] [(1, [(vu64 0)]), (8, (zW 8).map vu64), (1, [(.bool false)])] h_17 rfl rfl sizeOf29 At.h (by decide) rfl rfl rfl rfl rfl rfl (sC (s8 hgr) sN) (fun w_18 h_19 => ?_)
 refine WL.nil ?_
 refine ⟨(N1_2 h_19.ok), ?_⟩
 refine WT.nil (inb_n (thn_n (WP.seq (WP.reg ?_))))
 refine qV rfl (R.loadA [] [(1, [(vi 2)]), (32, (zB 32).map vu8), (1, [(vi pg)]), (128, gr.map vu8), (1, [(vu64 0)]), (8, (zW 8).map vu64), (1, [(.bool false)])] [] rfl isAgg70 sizeOf70 (h_19.ok _ M0) rfl rfl rfl rfl) ?_
 refine WL.storeA [] [(1, [(vi 0)]), (32, (zB 32).map vu8), (1, [(vi 0)]), (128, (zB 128).map vu8), (1, [(vu64 0)]), (8, (zW 8).map vu64), (1, [(.bool false)])] [(1, [(vi 2)]), (32, (zB 32).map vu8), (1, [(vi pg)]), (128, gr.map vu8), (1, [(vu64 0)]), (8, (zW 8).map vu64), (1, [(.bool false)])] [] h_19 rfl rfl sizeOf70 Y1 (by decide) rfl rfl rfl rfl rfl rfl (sC sV (sC (s8 lr) (sC sV (sC (s8 hgr) (sC sV (sC (SOk.u64 lr) (sC sV sN))))))) (fun w_20 h_21 => ?_)
 refine WL.nil (thn_n (WP.ret ?_))
 refine ret_of results78 (RV.cell rfl (h_21.loadA (cs := flat [(1, [(vi 2)]), (32, (zB 32).map vu8), (1, [(vi pg)]), (128, gr.map vu8), (1, [(vu64 0)]), (8, (zW 8).map vu64), (1, [(.bool false)])]) isAgg70 sizeOf70 M1 rfl rfl) RV.nil) ?_
 exact ⟨rfl, h_21.chgS⟩

theorem c_bareG_3 (val : List UInt8) (hvl : val.length = 32) (pg : Int) (hbp : -9223372036854775808 ≤ pg ∧ pg < 9223372036854775808) (gr : List UInt8) (hgr : gr.length = 128) (pc : UInt64) (rg : List UInt64) (hrg : rg.length = 8) (run : Bool) (w : World) :
  Cs Tryz.prog 78 [(.agg ⟨flat [(1, [(vi 3)]), (32, val.map vu8), (1, [(vi pg)]), (128, gr.map vu8), (1, [(vu64 pc)]), (8, rg.map vu64), (1, [(.bool run)])]⟩)].toArray w (fun v w1 => v = (.agg ⟨flat [(1, [(vi 3)]), (32, (List.replicate 32 (0 : UInt8)).map vu8), (1, [(vi 0)]), (128, (List.replicate 128 (0 : UInt8)).map vu8), (1, [(vu64 pc)]), (8, rg.map vu64), (1, [(.bool run)])]⟩) ∧ Chg w w1 []) := by
 refine Cs.of (n := 28) (args := [(.agg ⟨flat [(1, [(vi 3)]), (32, val.map vu8), (1, [(vi pg)]), (128, gr.map vu8), (1, [(vu64 pc)]), (8, rg.map vu64), (1, [(.bool run)])]⟩)]) Tryz.func78 rfl rfl rfl ?_
 have h_0 := HP.init w
 refine WP.seq (WP.reg ?_)
 refine WL.box (segs := [(1, [(vi 3)]), (32, val.map vu8), (1, [(vi pg)]), (128, gr.map vu8), (1, [(vu64 pc)]), (8, rg.map vu64), (1, [(.bool run)])]) h_0 rfl rfl (sC sV (sC (s8 hvl) (sC sV (sC (s8 hgr) (sC sV (sC (SOk.u64 hrg) (sC sV sN))))))) rfl (fun b_1 w_2 h_3 => ?_)
 refine WL.alloc (segs := [(1, [(vi 0)]), (32, (zB 32).map vu8), (1, [(vi 0)]), (128, (zB 128).map vu8), (1, [(vu64 0)]), (8, (zW 8).map vu64), (1, [(.bool false)])]) h_3 (zv typeInfo70 rfl) rfl (sC sV (sC (s8 lr) (sC sV (sC (s8 lr) (sC sV (sC (SOk.u64 lr) (sC sV sN))))))) rfl (fun b_4 w_5 h_6 => ?_)
 refine WL.nil (thn_n (WP.seq (WP.reg ?_)))
 refine qV rfl (R.fieldAddr (off' := 0) rfl underlying70 rfl sizeOf68 rfl rfl) (qV rfl (R.load1 rfl isAgg68 (h_6.ok _ M1) Sg.h) (qV rfl (R.buildS (pl := [(0, 1), (1, 32), (33, 1), (34, 128), (162, 10)]) (zs := [(1, [(vi 0)]), (32, (zB 32).map vu8), (1, [(vi 0)]), (128, (zB 128).map vu8), (1, [(vu64 0)]), (8, (zW 8).map vu64), (1, [(.bool false)])]) (vs := [(0, (vi 3))]) (out := [(1, [(vi 3)]), (32, (zB 32).map vu8), (1, [(vi 0)]), (128, (zB 128).map vu8), (1, [(vu64 0)]), (8, (zW 8).map vu64), (1, [(.bool false)])]) underlying70 (zv typeInfo70 rfl) rfl (sC sV (sC (s8 lr) (sC sV (sC (s8 lr) (sC sV (sC (SOk.u64 lr) (sC sV sN))))))) (pl70 _ underlying70) rfl (FillR.cons [] [(1, [(vi 0)])] [(1, [(vi 3)])] [(32, (zB 32).map vu8), (1, [(vi 0)]), (128, (zB 128).map vu8), (1, [(vu64 0)]), (8, (zW 8).map vu64), (1, [(.bool false)])] rfl rfl rfl rfl (sC sV sN) rfl rfl rfl FillR.nil) rfl) ?_))
 refine WL.alloc (segs := [(1, [(vi 0)]), (32, (zB 32).map vu8), (1, [(vi 0)]), (128, (zB 128).map vu8), (1, [(vu64 0)]), (8, (zW 8).map vu64), (1, [(.bool false)])]) h_6 (zv typeInfo70 rfl) rfl (sC sV (sC (s8 lr) (sC sV (sC (s8 lr) (sC sV (sC (SOk.u64 lr) (sC sV sN))))))) rfl (fun b_8 w_9 h_10 => ?_)
 refine WL.storeA [] [(1, [(vi 0)]), (32, (zB 32).map vu8), (1, [(vi 0)]), (128, (zB 128).map vu8), (1, [(vu64 0)]), (8, (zW 8).map vu64), (1, [(.bool false)])] [(1, [(vi 3)]), (32, (zB 32).map vu8), (1, [(vi 0)]), (128, (zB 128).map vu8), (1, [(vu64 0)]), (8, (zW 8).map vu64), (1, [(.bool false)])] [] h_10 rfl rfl sizeOf70 At.h (by decide) rfl rfl rfl rfl rfl rfl (sC sV (sC (s8 lr) (sC sV (sC (s8 lr) (sC sV (sC (SOk.u64 lr) (sC sV sN))))))) (fun w_11 h_12 => ?_)
 refine WL.nil (thn_n (WP.seq (WP.seq (WP.reg ?_))))
 refine qV rfl (R.fieldAddr (off' := 0) rfl underlying70 rfl sizeOf68 rfl rfl) (qV rfl (R.load1 rfl isAgg68 (h_12.ok _ M2) Sg.h) ?_)
 refine WL.nil (thn_n (WP.block (WP.seq (WP.reg ?_))))
 refine qV rfl (R.bin rfl rfl (bi_eql (r := false) (by decide))) (qA (.bool false) rfl rfl ?_)
 refine WL.nil (thn_n ?_)
 refine WP.condF rfl ?_
 refine WP.seq (WP.reg ?_)
 refine qV rfl (R.bin rfl rfl (bi_eql (r := false) (by decide))) (qA (.bool false) rfl rfl ?_)
 refine WL.nil (thn_n ?_)
 refine WP.condF rfl ?_
 refine WP.seq (WP.reg ?_)
 refine qV rfl (R.bin rfl rfl (bi_eql (r := true) (by decide))) (qA (.bool true) rfl rfl ?_)
 refine WL.nil (thn_n ?_)
 refine WP.condT rfl ?_
 refine WP.reg ?_
 refine qV rfl (R.fieldAddr (off' := 162) rfl underlying70 rfl sizeOf57 rfl rfl) (qV rfl (R.loadA [(1, [(vi 3)]), (32, val.map vu8), (1, [(vi pg)]), (128, gr.map vu8)] [(1, [(vu64 pc)]), (8, rg.map vu64), (1, [(.bool run)])] [] rfl isAgg57 sizeOf57 (h_12.ok _ M2) rfl rfl rfl rfl) (qV rfl (R.fieldAddr (off' := 162) rfl underlying70 rfl sizeOf57 rfl rfl) ?_))
 refine WL.storeA [(1, [(vi 3)]), (32, (zB 32).map vu8), (1, [(vi 0)]), (128, (zB 128).map vu8)] [(1, [(vu64 0)]), (8, (zW 8).map vu64), (1, [(.bool false)])] [(1, [(vu64 pc)]), (8, rg.map vu64), (1, [(.bool run)])] [] h_12 rfl rfl sizeOf57 At.h (by decide) rfl rfl rfl rfl rfl rfl (sC sV (sC (SOk.u64 hrg) (sC sV sN))) (fun w_13 h_14 => ?_)
 refine WL.nil (inb_n (thn_n (WP.seq (WP.reg ?_))))
 refine qV rfl (R.loadA [] [(1, [(vi 3)]), (32, (zB 32).map vu8), (1, [(vi 0)]), (128, (zB 128).map vu8), (1, [(vu64 pc)]), (8, rg.map vu64), (1, [(.bool run)])] [] rfl isAgg70 sizeOf70 (h_14.ok _ M0) rfl rfl rfl rfl) ?_
 refine WL.storeA [] [(1, [(vi 0)]), (32, (zB 32).map vu8), (1, [(vi 0)]), (128, (zB 128).map vu8), (1, [(vu64 0)]), (8, (zW 8).map vu64), (1, [(.bool false)])] [(1, [(vi 3)]), (32, (zB 32).map vu8), (1, [(vi 0)]), (128, (zB 128).map vu8), (1, [(vu64 pc)]), (8, rg.map vu64), (1, [(.bool run)])] [] h_14 rfl rfl sizeOf70 Y1 (by decide) rfl rfl rfl rfl rfl rfl (sC sV (sC (s8 lr) (sC sV (sC (s8 lr) (sC sV (sC (SOk.u64 hrg) (sC sV sN))))))) (fun w_15 h_16 => ?_)
 refine WL.nil (thn_n (WP.ret ?_))
 refine ret_of results78 (RV.cell rfl (h_16.loadA (cs := flat [(1, [(vi 3)]), (32, (zB 32).map vu8), (1, [(vi 0)]), (128, (zB 128).map vu8), (1, [(vu64 pc)]), (8, rg.map vu64), (1, [(.bool run)])]) isAgg70 sizeOf70 M1 rfl rfl) RV.nil) ?_
 exact ⟨rfl, h_16.chgS⟩

theorem typR (kd : Int) (hbk : -9223372036854775808 ≤ kd ∧ kd < 9223372036854775808) (val : List UInt8) (hvl : val.length = 32) (pg : Int) (hbp : -9223372036854775808 ≤ pg ∧ pg < 9223372036854775808) (gr : List UInt8) (hgr : gr.length = 128) (pc : UInt64) (rg : List UInt64) (hrg : rg.length = 8) (run : Bool) : Typ Tryz.prog 4 70 (flat [(1, [(vi kd)]), (32, val.map vu8), (1, [(vi pg)]), (128, gr.map vu8), (1, [(vu64 pc)]), (8, rg.map vu64), (1, [(.bool run)])]) := (Typ.struct (h := 3) (r := [(1, [(vi kd)]), (32, val.map vu8), (1, [(vi pg)]), (128, gr.map vu8), (10, flat [(1, [(vu64 pc)]), (8, rg.map vu64), (1, [(.bool run)])])]) (cs := flat [(1, [(vi kd)]), (32, val.map vu8), (1, [(vi pg)]), (128, gr.map vu8), (1, [(vu64 pc)]), (8, rg.map vu64), (1, [(.bool run)])]) underlying70 (TypF.cons (k := 1) rfl rfl (by decide) rfl (Typ.int underlying68 ce68 (WalkArith.wf_i64 (by omega))) (TypF.cons (k := 32) rfl rfl (by decide) (len_map hvl) (Typ.u8s underlying23 ce23 underlying5 ce5 hvl) (TypF.cons (k := 1) rfl rfl (by decide) rfl (Typ.int underlying3 ce3 (WalkArith.wf_i64 (by omega))) (TypF.cons (k := 128) rfl rfl (by decide) (len_map hgr) (Typ.u8s underlying29 ce29 underlying5 ce5 hgr) (TypF.cons (k := 10) rfl rfl (by decide) ((sC sV (sC (SOk.u64 hrg) (sC sV sN)))).len (Typ.struct (h := 2) (r := [(1, [(vu64 pc)]), (8, rg.map vu64), (1, [(.bool run)])]) (cs := flat [(1, [(vu64 pc)]), (8, rg.map vu64), (1, [(.bool run)])]) underlying57 (TypF.cons (k := 1) rfl rfl (by decide) rfl (Typ.int underlying27 ce27 (wfu64 pc)) (TypF.cons (k := 8) rfl rfl (by decide) (len_map hrg) (Typ.u64s underlying55 ce55 underlying27 ce27 hrg) (TypF.cons (k := 1) rfl rfl (by decide) rfl (Typ.bool underlying4 ce4) TypF.nil))) rfl (((sC sV (sC (SOk.u64 hrg) (sC sV sN)))).len.trans ce57.symm)) TypF.nil))))) (by simp [flat]) (((sC sV (sC (s8 hvl) (sC sV (sC (s8 hgr) (sC sV (sC (SOk.u64 hrg) (sC sV sN)))))))).len.trans ce70.symm))

theorem recEq1 {pg : Int} {val gr : List UInt8} {pc : UInt64} {rg : List UInt64} {run : Bool} (hvl : val.length = 32) (hgr : gr.length = 128) (hrg : rg.length = 8) : (flat [(1, [(vi 1)]), (32, val.map vu8), (1, [(vi pg)]), (128, gr.map vu8), (1, [(vu64 pc)]), (8, rg.map vu64), (1, [(.bool run)])] = flat [(1, [(vi 1)]), (32, val.map vu8), (1, [(vi 0)]), (128, (List.replicate 128 (0 : UInt8)).map vu8), (1, [(vu64 0)]), (8, (List.replicate 8 (0 : UInt64)).map vu64), (1, [(.bool false)])]) = (pg = 0 ∧ gr = List.replicate 128 (0 : UInt8) ∧ (pc = 0 ∧ rg = List.replicate 8 (0 : UInt64) ∧ run = false)) := by
 refine propext ⟨fun e => ?_, fun e => ?_⟩
 ·have i := rec7_inj hvl hvl hgr lr hrg lr e
  exact ⟨i.2.2.1, i.2.2.2.1, i.2.2.2.2⟩
 ·obtain ⟨e1, e2, e3, e4, e5⟩ := e
  simp only [e1, e2, e3, e4, e5]

theorem recEq2 {pg : Int} {val gr : List UInt8} {pc : UInt64} {rg : List UInt64} {run : Bool} (hvl : val.length = 32) (hgr : gr.length = 128) (hrg : rg.length = 8) : (flat [(1, [(vi 2)]), (32, val.map vu8), (1, [(vi pg)]), (128, gr.map vu8), (1, [(vu64 pc)]), (8, rg.map vu64), (1, [(.bool run)])] = flat [(1, [(vi 2)]), (32, (List.replicate 32 (0 : UInt8)).map vu8), (1, [(vi pg)]), (128, gr.map vu8), (1, [(vu64 0)]), (8, (List.replicate 8 (0 : UInt64)).map vu64), (1, [(.bool false)])]) = (val = List.replicate 32 (0 : UInt8) ∧ (pc = 0 ∧ rg = List.replicate 8 (0 : UInt64) ∧ run = false)) := by
 refine propext ⟨fun e => ?_, fun e => ?_⟩
 ·have i := rec7_inj hvl lr hgr hgr hrg lr e
  exact ⟨i.2.1, i.2.2.2.2⟩
 ·obtain ⟨e1, e3, e4, e5⟩ := e
  simp only [e1, e3, e4, e5]

theorem recEq3 {pg : Int} {val gr : List UInt8} {pc : UInt64} {rg : List UInt64} {run : Bool} (hvl : val.length = 32) (hgr : gr.length = 128) (hrg : rg.length = 8) : (flat [(1, [(vi 3)]), (32, val.map vu8), (1, [(vi pg)]), (128, gr.map vu8), (1, [(vu64 pc)]), (8, rg.map vu64), (1, [(.bool run)])] = flat [(1, [(vi 3)]), (32, (List.replicate 32 (0 : UInt8)).map vu8), (1, [(vi 0)]), (128, (List.replicate 128 (0 : UInt8)).map vu8), (1, [(vu64 pc)]), (8, rg.map vu64), (1, [(.bool run)])]) = (val = List.replicate 32 (0 : UInt8) ∧ pg = 0 ∧ gr = List.replicate 128 (0 : UInt8)) := by
 refine propext ⟨fun e => ?_, fun e => ?_⟩
 ·have i := rec7_inj hvl lr hgr lr hrg hrg e
  exact ⟨i.2.1, i.2.2.1, i.2.2.2.1⟩
 ·obtain ⟨e1, e2, e3⟩ := e
  simp only [e1, e2, e3]

theorem rec3Eq {pc : UInt64} {rg : List UInt64} {run : Bool} (hrg : rg.length = 8) : (flat [(1, [(vu64 pc)]), (8, rg.map vu64), (1, [(.bool run)])] = flat [(1, [(vu64 0)]), (8, (List.replicate 8 (0 : UInt64)).map vu64), (1, [(.bool false)])]) = (pc = 0 ∧ rg = List.replicate 8 (0 : UInt64) ∧ run = false) := by
 refine propext ⟨fun e => rec3_inj hrg lr e, fun e => ?_⟩
 obtain ⟨e1, e2, e3⟩ := e
 simp only [e1, e2, e3]

theorem c_mayP12_B (pg : Int) (hbp : -9223372036854775808 ≤ pg ∧ pg < 9223372036854775808) (w : World) :
  Cs Tryz.prog 29 [(vi pg)].toArray w (fun v w1 => v = (.bool (decide (0 ≤ pg ∧ pg < 128))) ∧ Chg w w1 []) := by
 refine Cs.of (n := 9) (args := [(vi pg)]) Tryz.func29 rfl rfl rfl ?_
 have h_0 := HP.init w
 refine WP.seq (WP.reg ?_)
 refine qA (.bool false) rfl rfl ?_
 refine WL.nil (thn_n (WP.seq (WP.reg ?_)))
 refine qM (vi pg) rfl rfl (qV rfl (R.bin rfl rfl (bi_geq (r := decide ((pg : Int) ≥ 0)) rfl)) (qM (.bool (decide ((pg : Int) ≥ 0))) rfl rfl ?_))
 rcases Bool.eq_false_or_eq_true (decide ((pg : Int) ≥ 0)) with c_1 | c_1
 ·have p_2 := of_decide_eq_true c_1
  refine WL.want rfl (congrArg Value.bool c_1) ?_
  refine qM (vi pg) rfl rfl ?_
  refine WL.want rfl (congrArg Value.bool c_1) ?_
  refine qV rfl (R.bin rfl rfl (bi_lss (r := decide ((pg : Int) < 128)) rfl)) (qV rfl (R.pickT (v := (.bool (decide ((pg : Int) < 128)))) (congrArg Value.bool c_1) rfl) (qA (.bool (decide ((pg : Int) < 128))) rfl rfl ?_))
  refine WL.nil (thn_n (WP.ret ?_))
  refine ret_of results29 (RV.tmp (v := (.bool (decide ((pg : Int) < 128)))) rfl RV.nil) ?_
  exact ⟨congrArg Value.bool (decide_eq_decide.2 ⟨fun h => ⟨by omega, h⟩, fun h => h.2⟩), h_0.chgS⟩
 ·have p_3 := of_decide_eq_false c_1
  refine WL.skip rfl (congrArg Value.bool c_1) rfl ?_
  refine WL.skip rfl (congrArg Value.bool c_1) rfl ?_
  refine qV rfl (R.pickF (v := (.bool false)) (congrArg Value.bool c_1) rfl) (qA (.bool false) rfl rfl ?_)
  refine WL.nil (thn_n (WP.ret ?_))
  refine ret_of results29 (RV.tmp (v := (.bool false)) rfl RV.nil) ?_
  exact ⟨congrArg Value.bool (decide_eq_false (by omega)).symm, h_0.chgS⟩

theorem c_MayG_1 (val : List UInt8) (hvl : val.length = 32) (pg : Int) (hbp : -9223372036854775808 ≤ pg ∧ pg < 9223372036854775808) (gr : List UInt8) (hgr : gr.length = 128) (pc : UInt64) (rg : List UInt64) (hrg : rg.length = 8) (run : Bool) (w : World) :
  Cs Tryz.prog 35 [(.agg ⟨flat [(1, [(vi 1)]), (32, val.map vu8), (1, [(vi pg)]), (128, gr.map vu8), (1, [(vu64 pc)]), (8, rg.map vu64), (1, [(.bool run)])]⟩)].toArray w (fun v w1 => v = .bool (mayB 1 val pg gr pc rg run) ∧ Chg w w1 []) := by
 refine Cs.of (n := 34) (args := [(.agg ⟨flat [(1, [(vi 1)]), (32, val.map vu8), (1, [(vi pg)]), (128, gr.map vu8), (1, [(vu64 pc)]), (8, rg.map vu64), (1, [(.bool run)])]⟩)]) Tryz.func35 rfl rfl rfl ?_
 have h_0 := HP.init w
 refine WP.seq (WP.reg ?_)
 refine WL.box (segs := [(1, [(vi 1)]), (32, val.map vu8), (1, [(vi pg)]), (128, gr.map vu8), (1, [(vu64 pc)]), (8, rg.map vu64), (1, [(.bool run)])]) h_0 rfl rfl (sC sV (sC (s8 hvl) (sC sV (sC (s8 hgr) (sC sV (sC (SOk.u64 hrg) (sC sV sN))))))) rfl (fun b_1 w_2 h_3 => ?_)
 refine qA (.bool false) rfl rfl ?_
 refine WL.nil (thn_n (WP.seq (WP.reg ?_)))
 refine qV rfl (R.fieldAddr (off' := 0) rfl underlying70 rfl sizeOf68 rfl rfl) (qV rfl (R.load1 rfl isAgg68 (h_3.ok _ M0) Sg.h) (qV rfl (R.bin rfl rfl (bi_geq (r := true) (by decide))) (qM (.bool true) rfl rfl ?_)))
 refine WL.want rfl rfl ?_
 refine qV rfl (R.fieldAddr (off' := 0) rfl underlying70 rfl sizeOf68 rfl rfl) ?_
 refine WL.want rfl rfl ?_
 refine qV rfl (R.load1 rfl isAgg68 (h_3.ok _ M0) Sg.h) ?_
 refine WL.want rfl rfl ?_
 refine qV rfl (R.bin rfl rfl (bi_leq (r := true) (by decide))) (qV rfl (R.pickT (v := (.bool true)) rfl rfl) (qA (.bool true) rfl rfl ?_))
 refine WL.nil (thn_n (WP.seq ?_))
 refine WP.drawT (SL w.heap.size [.blk b_1 .nw 70 [(1, [(vi 1)]), (32, val.map vu8), (1, [(vi pg)]), (128, gr.map vu8), (1, [(vu64 pc)]), (8, rg.map vu64), (1, [(.bool run)])]]) (.q 0 (.q 1 (.q 2 (.q 3 (.s 4 (.q 5 (.q 6 (.q 7 (.q 8 (.q 9 (.q 10 (.q 11 (.q 12 (.q 13 (.q 14 (.q 15 (.q 16 (.q 17 (.q 18 (.q 19 (.s 20 (.q 21 (.q 22 .nil))))))))))))))))))))))) (by kernel_rfl) (by kernel_rfl) rfl (by kernel_rfl) (fun w_4 hc_6 => (SL.cons ((h_3.same hc_6).ok _ M0) (SL.nil _ _))) (fun w_4 hc_6 => ?_)
 have h_5 := h_3.same hc_6
 refine qT rfl rfl (fun wq hS => R.move (v := (.bool true)) rfl) ?_
 refine qT rfl rfl (fun wq hS => R.move (v := (.bool true)) rfl) ?_
 refine WT.q rfl (Wn.yes rfl rfl rfl) rfl rfl (fun wq hS => R.loadA [] [(1, [(vi 1)]), (32, val.map vu8), (1, [(vi pg)]), (128, gr.map vu8), (1, [(vu64 pc)]), (8, rg.map vu64), (1, [(.bool run)])] [] rfl isAgg70 sizeOf70 (hS _ M0) rfl rfl rfl rfl) ?_
 refine WT.q rfl (Wn.yes rfl rfl rfl) rfl rfl (fun wq hS => R.loadA [] [(1, [(vi 1)]), (32, val.map vu8), (1, [(vi pg)]), (128, gr.map vu8), (1, [(vu64 pc)]), (8, rg.map vu64), (1, [(.bool run)])] [] rfl isAgg70 sizeOf70 (hS _ M0) rfl rfl rfl rfl) ?_
 refine WT.s ?_
 refine Op1.one rfl (Wn.yes rfl rfl rfl) ?_
 refine WL.call Tryz.call78 rfl rfl (c_bareG_1 val hvl pg (by omega) gr hgr pc rg hrg run _ ) rfl ?_
 rintro _ w_8 ⟨rfl, hc_7⟩
 have h_9 := h_5.same hc_7
 refine WL.nil ?_
 refine ⟨(N0 h_9.ok), ?_⟩
 refine WT.q rfl (Wn.yes rfl rfl rfl) rfl rfl (fun wq hS => R.eqA (xs := flat [(1, [(vi 1)]), (32, val.map vu8), (1, [(vi pg)]), (128, gr.map vu8), (1, [(vu64 pc)]), (8, rg.map vu64), (1, [(.bool run)])]) (ys := flat [(1, [(vi 1)]), (32, val.map vu8), (1, [(vi 0)]), (128, (zB 128).map vu8), (1, [(vu64 0)]), (8, (zW 8).map vu64), (1, [(.bool false)])]) (r := decide (pg = 0 ∧ gr = List.replicate 128 (0 : UInt8) ∧ (pc = 0 ∧ rg = List.replicate 8 (0 : UInt64) ∧ run = false))) rfl rfl eqGuardType70 kt70 (by decide) ag70 (typR 1 (by decide) val hvl pg (by omega) gr hgr pc rg hrg run) (typR 1 (by decide) val hvl 0 (by decide) (zB 128) lr (0 : UInt64) (zW 8) lr false) ((recEq1 hvl hgr hrg).trans (decT _))) ?_
 refine qT rfl rfl (fun wq hS => R.pickT (v := (.bool (decide (pg = 0 ∧ gr = List.replicate 128 (0 : UInt8) ∧ (pc = 0 ∧ rg = List.replicate 8 (0 : UInt64) ∧ run = false))))) rfl rfl) ?_
 refine qT rfl rfl (fun wq hS => R.move (v := (.bool (decide (pg = 0 ∧ gr = List.replicate 128 (0 : UInt8) ∧ (pc = 0 ∧ rg = List.replicate 8 (0 : UInt64) ∧ run = false))))) rfl) ?_
 rcases Bool.eq_false_or_eq_true (decide (pg = 0 ∧ gr = List.replicate 128 (0 : UInt8) ∧ (pc = 0 ∧ rg = List.replicate 8 (0 : UInt64) ∧ run = false))) with c_10 | c_10
 ·have p_11 := of_decide_eq_true c_10
  refine WT.q rfl (Wn.yes rfl rfl (congrArg Value.bool c_10)) rfl rfl (fun wq hS => R.fieldAddr (off' := 33) rfl underlying70 rfl sizeOf3 rfl rfl) ?_
  refine WT.q rfl (Wn.yes rfl rfl (congrArg Value.bool c_10)) rfl rfl (fun wq hS => R.load1 rfl isAgg3 (hS _ M0) (Sg.t rfl (Sg.t rfl Sg.h))) ?_
  refine WT.q rfl (Wn.yes rfl rfl (congrArg Value.bool c_10)) rfl rfl (fun wq hS => R.bin rfl rfl (bi_geq (r := decide ((pg : Int) ≥ 0)) rfl)) ?_
  refine qT rfl rfl (fun wq hS => R.pickT (v := (.bool (decide ((pg : Int) ≥ 0)))) (congrArg Value.bool c_10) rfl) ?_
  refine qT rfl rfl (fun wq hS => R.move (v := (.bool (decide ((pg : Int) ≥ 0)))) rfl) ?_
  rcases Bool.eq_false_or_eq_true (decide ((pg : Int) ≥ 0)) with c_12 | c_12
  ·have p_13 := of_decide_eq_true c_12
   refine WT.q rfl (Wn.yes rfl rfl (congrArg Value.bool c_12)) rfl rfl (fun wq hS => R.fieldAddr (off' := 33) rfl underlying70 rfl sizeOf3 rfl rfl) ?_
   refine WT.q rfl (Wn.yes rfl rfl (congrArg Value.bool c_12)) rfl rfl (fun wq hS => R.load1 rfl isAgg3 (hS _ M0) (Sg.t rfl (Sg.t rfl Sg.h))) ?_
   refine WT.q rfl (Wn.yes rfl rfl (congrArg Value.bool c_12)) rfl rfl (fun wq hS => R.bin rfl rfl (bi_lss (r := decide ((pg : Int) < 128)) rfl)) ?_
   refine qT rfl rfl (fun wq hS => R.pickT (v := (.bool (decide ((pg : Int) < 128)))) (congrArg Value.bool c_12) rfl) ?_
   refine qT rfl rfl (fun wq hS => R.move (v := (.bool (decide ((pg : Int) < 128)))) rfl) ?_
   rcases Bool.eq_false_or_eq_true (decide ((pg : Int) < 128)) with c_14 | c_14
   ·have p_15 := of_decide_eq_true c_14
    refine WT.q rfl (Wn.yes rfl rfl (congrArg Value.bool c_14)) rfl rfl (fun wq hS => R.fieldAddr (off' := 162) rfl underlying70 rfl sizeOf57 rfl rfl) ?_
    refine WT.q rfl (Wn.yes rfl rfl (congrArg Value.bool c_14)) rfl rfl (fun wq hS => R.loadA [(1, [(vi 1)]), (32, val.map vu8), (1, [(vi pg)]), (128, gr.map vu8)] [(1, [(vu64 pc)]), (8, rg.map vu64), (1, [(.bool run)])] [] rfl isAgg57 sizeOf57 (hS _ M0) rfl rfl rfl rfl) ?_
    refine WT.s ?_
    refine Op1.one rfl (Wn.yes rfl rfl (congrArg Value.bool c_14)) ?_
    refine WL.call Tryz.call79 rfl rfl (c_MayRec pc rg hrg run _ ) rfl ?_
    rintro _ w_17 ⟨rfl, hc_16⟩
    have h_18 := h_9.same hc_16
    refine WL.nil ?_
    refine ⟨(N0 h_18.ok), ?_⟩
    refine qT rfl rfl (fun wq hS => R.pickT (v := (.bool (decide (pc % 8 = 0)))) (congrArg Value.bool c_14) rfl) ?_
    refine qT rfl rfl (fun wq hS => R.assign (v := (.bool (decide (pc % 8 = 0)))) rfl) ?_
    refine WT.nil (thn_n (WP.ret ?_))
    refine ret_of results35 (RV.tmp (v := (.bool (decide (pc % 8 = 0)))) rfl RV.nil) ?_
    obtain ⟨e1, e2, e3, e4, e5⟩ := p_11
    exact ⟨congrArg Value.bool ((decide_eq_true (by rw [e3]; decide)).trans (decide_eq_true (Or.inl ⟨rfl, e1, e2, e3, e4, e5⟩)).symm), h_18.chgS⟩
   ·have p_19 := of_decide_eq_false c_14
    refine WT.skipQ rfl rfl rfl (boolNe (v := .bool false) (congrArg Value.bool c_14) (by decide)) rfl rfl ?_
    refine WT.skipQ rfl rfl rfl (boolNe (v := .bool false) (congrArg Value.bool c_14) (by decide)) rfl rfl ?_
    refine WT.s ?_
    refine Op1.skip rfl rfl rfl (boolNe (v := .bool false) (congrArg Value.bool c_14) (by decide)) rfl rfl ?_
    refine qT rfl rfl (fun wq hS => R.pickF (v := (.bool false)) (congrArg Value.bool c_14) rfl) ?_
    refine qT rfl rfl (fun wq hS => R.assign (v := (.bool false)) rfl) ?_
    refine WT.nil (thn_n (WP.ret ?_))
    refine ret_of results35 (RV.tmp (v := (.bool false)) rfl RV.nil) ?_
    exact absurd p_11.1 (by omega)
  ·have p_20 := of_decide_eq_false c_12
   refine WT.skipQ rfl rfl rfl (boolNe (v := .bool false) (congrArg Value.bool c_12) (by decide)) rfl rfl ?_
   refine WT.skipQ rfl rfl rfl (boolNe (v := .bool false) (congrArg Value.bool c_12) (by decide)) rfl rfl ?_
   refine WT.skipQ rfl rfl rfl (boolNe (v := .bool false) (congrArg Value.bool c_12) (by decide)) rfl rfl ?_
   refine qT rfl rfl (fun wq hS => R.pickF (v := (.bool false)) (congrArg Value.bool c_12) rfl) ?_
   refine qT rfl rfl (fun wq hS => R.move (v := (.bool false)) rfl) ?_
   refine WT.skipQ rfl rfl rfl (boolNe (v := .bool false) rfl (by decide)) rfl rfl ?_
   refine WT.skipQ rfl rfl rfl (boolNe (v := .bool false) rfl (by decide)) rfl rfl ?_
   refine WT.s ?_
   refine Op1.skip rfl rfl rfl (boolNe (v := .bool false) rfl (by decide)) rfl rfl ?_
   refine qT rfl rfl (fun wq hS => R.pickF (v := (.bool false)) rfl rfl) ?_
   refine qT rfl rfl (fun wq hS => R.assign (v := (.bool false)) rfl) ?_
   refine WT.nil (thn_n (WP.ret ?_))
   refine ret_of results35 (RV.tmp (v := (.bool false)) rfl RV.nil) ?_
   exact absurd p_11.1 (by omega)
 ·have p_21 := of_decide_eq_false c_10
  refine WT.skipQ rfl rfl rfl (boolNe (v := .bool false) (congrArg Value.bool c_10) (by decide)) rfl rfl ?_
  refine WT.skipQ rfl rfl rfl (boolNe (v := .bool false) (congrArg Value.bool c_10) (by decide)) rfl rfl ?_
  refine WT.skipQ rfl rfl rfl (boolNe (v := .bool false) (congrArg Value.bool c_10) (by decide)) rfl rfl ?_
  refine qT rfl rfl (fun wq hS => R.pickF (v := (.bool false)) (congrArg Value.bool c_10) rfl) ?_
  refine qT rfl rfl (fun wq hS => R.move (v := (.bool false)) rfl) ?_
  refine WT.skipQ rfl rfl rfl (boolNe (v := .bool false) rfl (by decide)) rfl rfl ?_
  refine WT.skipQ rfl rfl rfl (boolNe (v := .bool false) rfl (by decide)) rfl rfl ?_
  refine WT.skipQ rfl rfl rfl (boolNe (v := .bool false) rfl (by decide)) rfl rfl ?_
  refine qT rfl rfl (fun wq hS => R.pickF (v := (.bool false)) rfl rfl) ?_
  refine qT rfl rfl (fun wq hS => R.move (v := (.bool false)) rfl) ?_
  refine WT.skipQ rfl rfl rfl (boolNe (v := .bool false) rfl (by decide)) rfl rfl ?_
  refine WT.skipQ rfl rfl rfl (boolNe (v := .bool false) rfl (by decide)) rfl rfl ?_
  refine WT.s ?_
  refine Op1.skip rfl rfl rfl (boolNe (v := .bool false) rfl (by decide)) rfl rfl ?_
  refine qT rfl rfl (fun wq hS => R.pickF (v := (.bool false)) rfl rfl) ?_
  refine qT rfl rfl (fun wq hS => R.assign (v := (.bool false)) rfl) ?_
  refine WT.nil (thn_n (WP.ret ?_))
  refine ret_of results35 (RV.tmp (v := (.bool false)) rfl RV.nil) ?_
  have hf : false = mayB 1 val pg gr pc rg run := (decide_eq_false (p := mayZ 1 val pg gr pc rg run) (fun hm => (show _ ∨ _ ∨ _ from hm).elim (fun hm => p_21 hm.2) (fun hm => hm.elim (fun hm => absurd hm.1 (by decide)) (fun hm => absurd hm.1 (by decide))))).symm
  exact ⟨congrArg Value.bool hf, h_9.chgS⟩

theorem c_MayGR_1 (val : List UInt8) (hvl : val.length = 32) (pg : Int) (hbp : -9223372036854775808 ≤ pg ∧ pg < 9223372036854775808) (gr : List UInt8) (hgr : gr.length = 128) (pc : UInt64) (rg : List UInt64) (hrg : rg.length = 8) (run : Bool) (w : World) :
  Cs Tryz.prog 36 [(.agg ⟨flat [(1, [(vi 1)]), (32, val.map vu8), (1, [(vi pg)]), (128, gr.map vu8), (1, [(vu64 pc)]), (8, rg.map vu64), (1, [(.bool run)])]⟩)].toArray w (fun v w1 => v = .bool (mayB 1 val pg gr pc rg run) ∧ Chg w w1 []) := by
 refine Cs.of (n := 61) (args := [(.agg ⟨flat [(1, [(vi 1)]), (32, val.map vu8), (1, [(vi pg)]), (128, gr.map vu8), (1, [(vu64 pc)]), (8, rg.map vu64), (1, [(.bool run)])]⟩)]) Tryz.func36 rfl rfl rfl ?_
 have h_0 := HP.init w
 refine WP.seq (WP.reg ?_)
 refine WL.box (segs := [(1, [(vi 1)]), (32, val.map vu8), (1, [(vi pg)]), (128, gr.map vu8), (1, [(vu64 pc)]), (8, rg.map vu64), (1, [(.bool run)])]) h_0 rfl rfl (sC sV (sC (s8 hvl) (sC sV (sC (s8 hgr) (sC sV (sC (SOk.u64 hrg) (sC sV sN))))))) rfl (fun b_1 w_2 h_3 => ?_)
 refine qA (.bool false) rfl rfl ?_
 refine WL.nil (thn_n (WP.seq (WP.seq (WP.reg ?_))))
 refine qV rfl (R.fieldAddr (off' := 0) rfl underlying70 rfl sizeOf68 rfl rfl) (qV rfl (R.load1 rfl isAgg68 (h_3.ok _ M0) Sg.h) ?_)
 refine WL.nil (thn_n (WP.block (WP.seq (WP.reg ?_))))
 refine qV rfl (R.bin rfl rfl (bi_eql (r := true) (by decide))) (qA (.bool true) rfl rfl ?_)
 refine WL.nil (thn_n ?_)
 refine WP.condT rfl ?_
 refine WP.seq (WP.reg ?_)
 refine qV rfl (R.fieldAddr (off' := 33) rfl underlying70 rfl sizeOf3 rfl rfl) (qV rfl (R.load1 rfl isAgg3 (h_3.ok _ M0) (Sg.t rfl (Sg.t rfl Sg.h))) (qV rfl (R.bin rfl rfl (bi_eql (r := decide ((pg : Int) = 0)) rfl)) (qM (.bool (decide ((pg : Int) = 0))) rfl rfl ?_)))
 rcases Bool.eq_false_or_eq_true (decide ((pg : Int) = 0)) with c_4 | c_4
 ·have p_5 := of_decide_eq_true c_4
  refine WL.want rfl (congrArg Value.bool c_4) ?_
  refine qV rfl (R.fieldAddr (off' := 34) rfl underlying70 rfl sizeOf29 rfl rfl) ?_
  refine WL.want rfl (congrArg Value.bool c_4) ?_
  refine qV rfl (R.loadA [(1, [(vi 1)]), (32, val.map vu8), (1, [(vi pg)])] [(128, gr.map vu8)] [(1, [(vu64 pc)]), (8, rg.map vu64), (1, [(.bool run)])] (cs := gr.map vu8) rfl isAgg29 sizeOf29 (h_3.ok _ M0) rfl rfl rfl rfl) ?_
  refine WL.want rfl (congrArg Value.bool c_4) ?_
  refine qV rfl (R.buildA (vs := []) (cs := (zB 128).map vu8) underlying29 sizeOf5 (zv typeInfo29 rfl) rfl rfl) ?_
  refine WL.want rfl (congrArg Value.bool c_4) ?_
  refine qV rfl (R.eqA (xs := gr.map vu8) (ys := (zB 128).map vu8) (r := decide (gr = List.replicate 128 (0 : UInt8))) rfl rfl eqGuardType29 kt29 (by decide) ag29 (Typ.u8s underlying29 ce29 underlying5 ce5 hgr) (Typ.u8s underlying29 ce29 underlying5 ce5 lr) (map_inj_u8.trans (decT _))) (qV rfl (R.pickT (v := (.bool (decide (gr = List.replicate 128 (0 : UInt8))))) (congrArg Value.bool c_4) rfl) (qM (.bool (decide (gr = List.replicate 128 (0 : UInt8)))) rfl rfl ?_))
  rcases Bool.eq_false_or_eq_true (decide (gr = List.replicate 128 (0 : UInt8))) with c_6 | c_6
  ·have p_7 := of_decide_eq_true c_6
   refine WL.want rfl (congrArg Value.bool c_6) ?_
   refine qV rfl (R.fieldAddr (off' := 162) rfl underlying70 rfl sizeOf57 rfl rfl) ?_
   refine WL.want rfl (congrArg Value.bool c_6) ?_
   refine qV rfl (R.loadA [(1, [(vi 1)]), (32, val.map vu8), (1, [(vi pg)]), (128, gr.map vu8)] [(1, [(vu64 pc)]), (8, rg.map vu64), (1, [(.bool run)])] [] rfl isAgg57 sizeOf57 (h_3.ok _ M0) rfl rfl rfl rfl) ?_
   refine WL.want rfl (congrArg Value.bool c_6) ?_
   refine qV rfl (R.buildS (pl := [(0, 1), (1, 8), (9, 1)]) (zs := [(1, [(vu64 0)]), (8, (zW 8).map vu64), (1, [(.bool false)])]) (vs := []) (out := [(1, [(vu64 0)]), (8, (zW 8).map vu64), (1, [(.bool false)])]) underlying57 (zv typeInfo57 rfl) rfl (sC sV (sC (SOk.u64 lr) (sC sV sN))) (pl57 _ underlying57) rfl FillR.nil rfl) ?_
   refine WL.want rfl (congrArg Value.bool c_6) ?_
   refine qV rfl (R.eqA (xs := flat [(1, [(vu64 pc)]), (8, rg.map vu64), (1, [(.bool run)])]) (ys := flat [(1, [(vu64 0)]), (8, (zW 8).map vu64), (1, [(.bool false)])]) (r := decide (pc = 0 ∧ rg = List.replicate 8 (0 : UInt64) ∧ run = false)) rfl rfl eqGuardType57 kt57 (by decide) ag57 (Typ.struct (h := 2) (r := [(1, [(vu64 pc)]), (8, rg.map vu64), (1, [(.bool run)])]) (cs := flat [(1, [(vu64 pc)]), (8, rg.map vu64), (1, [(.bool run)])]) underlying57 (TypF.cons (k := 1) rfl rfl (by decide) rfl (Typ.int underlying27 ce27 (wfu64 pc)) (TypF.cons (k := 8) rfl rfl (by decide) (len_map hrg) (Typ.u64s underlying55 ce55 underlying27 ce27 hrg) (TypF.cons (k := 1) rfl rfl (by decide) rfl (Typ.bool underlying4 ce4) TypF.nil))) rfl (((sC sV (sC (SOk.u64 hrg) (sC sV sN)))).len.trans ce57.symm)) (Typ.struct (h := 2) (r := [(1, [(vu64 0)]), (8, (zW 8).map vu64), (1, [(.bool false)])]) (cs := flat [(1, [(vu64 0)]), (8, (zW 8).map vu64), (1, [(.bool false)])]) underlying57 (TypF.cons (k := 1) rfl rfl (by decide) rfl (Typ.int underlying27 ce27 (wfu64 0)) (TypF.cons (k := 8) rfl rfl (by decide) (len_map lr) (Typ.u64s underlying55 ce55 underlying27 ce27 lr) (TypF.cons (k := 1) rfl rfl (by decide) rfl (Typ.bool underlying4 ce4) TypF.nil))) rfl (((sC sV (sC (SOk.u64 lr) (sC sV sN)))).len.trans ce57.symm)) ((rec3Eq hrg).trans (decT _))) (qV rfl (R.pickT (v := (.bool (decide (pc = 0 ∧ rg = List.replicate 8 (0 : UInt64) ∧ run = false)))) (congrArg Value.bool c_6) rfl) (qA (.bool (decide (pc = 0 ∧ rg = List.replicate 8 (0 : UInt64) ∧ run = false))) rfl rfl ?_))
   refine WL.nil (thn_n (WP.ret (inb_r (thn_r ?_))))
   refine ret_of results36 (RV.tmp (v := (.bool (decide (pc = 0 ∧ rg = List.replicate 8 (0 : UInt64) ∧ run = false)))) rfl RV.nil) ?_
   have hf : decide (pc = 0 ∧ rg = List.replicate 8 (0 : UInt64) ∧ run = false) = mayB 1 val pg gr pc rg run := decide_eq_decide.2 ⟨fun h8 => Or.inl ⟨rfl, p_5, p_7, h8⟩, fun hm => (show _ ∨ _ ∨ _ from hm).elim (fun hm => hm.2.2.2) (fun hm => hm.elim (fun hm => absurd hm.1 (by decide)) (fun hm => absurd hm.1 (by decide)))⟩
   exact ⟨congrArg Value.bool hf, h_3.chgS⟩
  ·have p_9 := of_decide_eq_false c_6
   refine WL.skip rfl (congrArg Value.bool c_6) rfl ?_
   refine WL.skip rfl (congrArg Value.bool c_6) rfl ?_
   refine WL.skip rfl (congrArg Value.bool c_6) rfl ?_
   refine WL.skip rfl (congrArg Value.bool c_6) rfl ?_
   refine qV rfl (R.pickF (v := (.bool false)) (congrArg Value.bool c_6) rfl) (qA (.bool false) rfl rfl ?_)
   refine WL.nil (thn_n (WP.ret (inb_r (thn_r ?_))))
   refine ret_of results36 (RV.tmp (v := (.bool false)) rfl RV.nil) ?_
   have hf : false = mayB 1 val pg gr pc rg run := (decide_eq_false (p := mayZ 1 val pg gr pc rg run) (fun hm => (show _ ∨ _ ∨ _ from hm).elim (fun hm => p_9 hm.2.2.1) (fun hm => hm.elim (fun hm => absurd hm.1 (by decide)) (fun hm => absurd hm.1 (by decide))))).symm
   exact ⟨congrArg Value.bool hf, h_3.chgS⟩
 ·have p_10 := of_decide_eq_false c_4
  refine WL.skip rfl (congrArg Value.bool c_4) rfl ?_
  refine WL.skip rfl (congrArg Value.bool c_4) rfl ?_
  refine WL.skip rfl (congrArg Value.bool c_4) rfl ?_
  refine WL.skip rfl (congrArg Value.bool c_4) rfl ?_
  refine qV rfl (R.pickF (v := (.bool false)) (congrArg Value.bool c_4) rfl) (qM (.bool false) rfl rfl ?_)
  refine WL.skip rfl rfl rfl ?_
  refine WL.skip rfl rfl rfl ?_
  refine WL.skip rfl rfl rfl ?_
  refine WL.skip rfl rfl rfl ?_
  refine qV rfl (R.pickF (v := (.bool false)) rfl rfl) (qA (.bool false) rfl rfl ?_)
  refine WL.nil (thn_n (WP.ret (inb_r (thn_r ?_))))
  refine ret_of results36 (RV.tmp (v := (.bool false)) rfl RV.nil) ?_
  have hf : false = mayB 1 val pg gr pc rg run := (decide_eq_false (p := mayZ 1 val pg gr pc rg run) (fun hm => (show _ ∨ _ ∨ _ from hm).elim (fun hm => p_10 hm.2.1) (fun hm => hm.elim (fun hm => absurd hm.1 (by decide)) (fun hm => absurd hm.1 (by decide))))).symm
  exact ⟨congrArg Value.bool hf, h_3.chgS⟩

theorem c_MayG_2 (val : List UInt8) (hvl : val.length = 32) (pg : Int) (hbp : -9223372036854775808 ≤ pg ∧ pg < 9223372036854775808) (gr : List UInt8) (hgr : gr.length = 128) (pc : UInt64) (rg : List UInt64) (hrg : rg.length = 8) (run : Bool) (w : World) :
  Cs Tryz.prog 35 [(.agg ⟨flat [(1, [(vi 2)]), (32, val.map vu8), (1, [(vi pg)]), (128, gr.map vu8), (1, [(vu64 pc)]), (8, rg.map vu64), (1, [(.bool run)])]⟩)].toArray w (fun v w1 => v = .bool (mayB 2 val pg gr pc rg run) ∧ Chg w w1 []) := by
 refine Cs.of (n := 34) (args := [(.agg ⟨flat [(1, [(vi 2)]), (32, val.map vu8), (1, [(vi pg)]), (128, gr.map vu8), (1, [(vu64 pc)]), (8, rg.map vu64), (1, [(.bool run)])]⟩)]) Tryz.func35 rfl rfl rfl ?_
 have h_0 := HP.init w
 refine WP.seq (WP.reg ?_)
 refine WL.box (segs := [(1, [(vi 2)]), (32, val.map vu8), (1, [(vi pg)]), (128, gr.map vu8), (1, [(vu64 pc)]), (8, rg.map vu64), (1, [(.bool run)])]) h_0 rfl rfl (sC sV (sC (s8 hvl) (sC sV (sC (s8 hgr) (sC sV (sC (SOk.u64 hrg) (sC sV sN))))))) rfl (fun b_1 w_2 h_3 => ?_)
 refine qA (.bool false) rfl rfl ?_
 refine WL.nil (thn_n (WP.seq (WP.reg ?_)))
 refine qV rfl (R.fieldAddr (off' := 0) rfl underlying70 rfl sizeOf68 rfl rfl) (qV rfl (R.load1 rfl isAgg68 (h_3.ok _ M0) Sg.h) (qV rfl (R.bin rfl rfl (bi_geq (r := true) (by decide))) (qM (.bool true) rfl rfl ?_)))
 refine WL.want rfl rfl ?_
 refine qV rfl (R.fieldAddr (off' := 0) rfl underlying70 rfl sizeOf68 rfl rfl) ?_
 refine WL.want rfl rfl ?_
 refine qV rfl (R.load1 rfl isAgg68 (h_3.ok _ M0) Sg.h) ?_
 refine WL.want rfl rfl ?_
 refine qV rfl (R.bin rfl rfl (bi_leq (r := true) (by decide))) (qV rfl (R.pickT (v := (.bool true)) rfl rfl) (qA (.bool true) rfl rfl ?_))
 refine WL.nil (thn_n (WP.seq ?_))
 refine WP.drawT (SL w.heap.size [.blk b_1 .nw 70 [(1, [(vi 2)]), (32, val.map vu8), (1, [(vi pg)]), (128, gr.map vu8), (1, [(vu64 pc)]), (8, rg.map vu64), (1, [(.bool run)])]]) (.q 0 (.q 1 (.q 2 (.q 3 (.s 4 (.q 5 (.q 6 (.q 7 (.q 8 (.q 9 (.q 10 (.q 11 (.q 12 (.q 13 (.q 14 (.q 15 (.q 16 (.q 17 (.q 18 (.q 19 (.s 20 (.q 21 (.q 22 .nil))))))))))))))))))))))) (by kernel_rfl) (by kernel_rfl) rfl (by kernel_rfl) (fun w_4 hc_6 => (SL.cons ((h_3.same hc_6).ok _ M0) (SL.nil _ _))) (fun w_4 hc_6 => ?_)
 have h_5 := h_3.same hc_6
 refine qT rfl rfl (fun wq hS => R.move (v := (.bool true)) rfl) ?_
 refine qT rfl rfl (fun wq hS => R.move (v := (.bool true)) rfl) ?_
 refine WT.q rfl (Wn.yes rfl rfl rfl) rfl rfl (fun wq hS => R.loadA [] [(1, [(vi 2)]), (32, val.map vu8), (1, [(vi pg)]), (128, gr.map vu8), (1, [(vu64 pc)]), (8, rg.map vu64), (1, [(.bool run)])] [] rfl isAgg70 sizeOf70 (hS _ M0) rfl rfl rfl rfl) ?_
 refine WT.q rfl (Wn.yes rfl rfl rfl) rfl rfl (fun wq hS => R.loadA [] [(1, [(vi 2)]), (32, val.map vu8), (1, [(vi pg)]), (128, gr.map vu8), (1, [(vu64 pc)]), (8, rg.map vu64), (1, [(.bool run)])] [] rfl isAgg70 sizeOf70 (hS _ M0) rfl rfl rfl rfl) ?_
 refine WT.s ?_
 refine Op1.one rfl (Wn.yes rfl rfl rfl) ?_
 refine WL.call Tryz.call78 rfl rfl (c_bareG_2 val hvl pg (by omega) gr hgr pc rg hrg run _ ) rfl ?_
 rintro _ w_8 ⟨rfl, hc_7⟩
 have h_9 := h_5.same hc_7
 refine WL.nil ?_
 refine ⟨(N0 h_9.ok), ?_⟩
 refine WT.q rfl (Wn.yes rfl rfl rfl) rfl rfl (fun wq hS => R.eqA (xs := flat [(1, [(vi 2)]), (32, val.map vu8), (1, [(vi pg)]), (128, gr.map vu8), (1, [(vu64 pc)]), (8, rg.map vu64), (1, [(.bool run)])]) (ys := flat [(1, [(vi 2)]), (32, (zB 32).map vu8), (1, [(vi pg)]), (128, gr.map vu8), (1, [(vu64 0)]), (8, (zW 8).map vu64), (1, [(.bool false)])]) (r := decide (val = List.replicate 32 (0 : UInt8) ∧ (pc = 0 ∧ rg = List.replicate 8 (0 : UInt64) ∧ run = false))) rfl rfl eqGuardType70 kt70 (by decide) ag70 (typR 2 (by decide) val hvl pg (by omega) gr hgr pc rg hrg run) (typR 2 (by decide) (zB 32) lr pg (by omega) gr hgr (0 : UInt64) (zW 8) lr false) ((recEq2 hvl hgr hrg).trans (decT _))) ?_
 refine qT rfl rfl (fun wq hS => R.pickT (v := (.bool (decide (val = List.replicate 32 (0 : UInt8) ∧ (pc = 0 ∧ rg = List.replicate 8 (0 : UInt64) ∧ run = false))))) rfl rfl) ?_
 refine qT rfl rfl (fun wq hS => R.move (v := (.bool (decide (val = List.replicate 32 (0 : UInt8) ∧ (pc = 0 ∧ rg = List.replicate 8 (0 : UInt64) ∧ run = false))))) rfl) ?_
 rcases Bool.eq_false_or_eq_true (decide (val = List.replicate 32 (0 : UInt8) ∧ (pc = 0 ∧ rg = List.replicate 8 (0 : UInt64) ∧ run = false))) with c_10 | c_10
 ·have p_11 := of_decide_eq_true c_10
  refine WT.q rfl (Wn.yes rfl rfl (congrArg Value.bool c_10)) rfl rfl (fun wq hS => R.fieldAddr (off' := 33) rfl underlying70 rfl sizeOf3 rfl rfl) ?_
  refine WT.q rfl (Wn.yes rfl rfl (congrArg Value.bool c_10)) rfl rfl (fun wq hS => R.load1 rfl isAgg3 (hS _ M0) (Sg.t rfl (Sg.t rfl Sg.h))) ?_
  refine WT.q rfl (Wn.yes rfl rfl (congrArg Value.bool c_10)) rfl rfl (fun wq hS => R.bin rfl rfl (bi_geq (r := decide ((pg : Int) ≥ 0)) rfl)) ?_
  refine qT rfl rfl (fun wq hS => R.pickT (v := (.bool (decide ((pg : Int) ≥ 0)))) (congrArg Value.bool c_10) rfl) ?_
  refine qT rfl rfl (fun wq hS => R.move (v := (.bool (decide ((pg : Int) ≥ 0)))) rfl) ?_
  rcases Bool.eq_false_or_eq_true (decide ((pg : Int) ≥ 0)) with c_12 | c_12
  ·have p_13 := of_decide_eq_true c_12
   refine WT.q rfl (Wn.yes rfl rfl (congrArg Value.bool c_12)) rfl rfl (fun wq hS => R.fieldAddr (off' := 33) rfl underlying70 rfl sizeOf3 rfl rfl) ?_
   refine WT.q rfl (Wn.yes rfl rfl (congrArg Value.bool c_12)) rfl rfl (fun wq hS => R.load1 rfl isAgg3 (hS _ M0) (Sg.t rfl (Sg.t rfl Sg.h))) ?_
   refine WT.q rfl (Wn.yes rfl rfl (congrArg Value.bool c_12)) rfl rfl (fun wq hS => R.bin rfl rfl (bi_lss (r := decide ((pg : Int) < 128)) rfl)) ?_
   refine qT rfl rfl (fun wq hS => R.pickT (v := (.bool (decide ((pg : Int) < 128)))) (congrArg Value.bool c_12) rfl) ?_
   refine qT rfl rfl (fun wq hS => R.move (v := (.bool (decide ((pg : Int) < 128)))) rfl) ?_
   rcases Bool.eq_false_or_eq_true (decide ((pg : Int) < 128)) with c_14 | c_14
   ·have p_15 := of_decide_eq_true c_14
    refine WT.q rfl (Wn.yes rfl rfl (congrArg Value.bool c_14)) rfl rfl (fun wq hS => R.fieldAddr (off' := 162) rfl underlying70 rfl sizeOf57 rfl rfl) ?_
    refine WT.q rfl (Wn.yes rfl rfl (congrArg Value.bool c_14)) rfl rfl (fun wq hS => R.loadA [(1, [(vi 2)]), (32, val.map vu8), (1, [(vi pg)]), (128, gr.map vu8)] [(1, [(vu64 pc)]), (8, rg.map vu64), (1, [(.bool run)])] [] rfl isAgg57 sizeOf57 (hS _ M0) rfl rfl rfl rfl) ?_
    refine WT.s ?_
    refine Op1.one rfl (Wn.yes rfl rfl (congrArg Value.bool c_14)) ?_
    refine WL.call Tryz.call79 rfl rfl (c_MayRec pc rg hrg run _ ) rfl ?_
    rintro _ w_17 ⟨rfl, hc_16⟩
    have h_18 := h_9.same hc_16
    refine WL.nil ?_
    refine ⟨(N0 h_18.ok), ?_⟩
    refine qT rfl rfl (fun wq hS => R.pickT (v := (.bool (decide (pc % 8 = 0)))) (congrArg Value.bool c_14) rfl) ?_
    refine qT rfl rfl (fun wq hS => R.assign (v := (.bool (decide (pc % 8 = 0)))) rfl) ?_
    refine WT.nil (thn_n (WP.ret ?_))
    refine ret_of results35 (RV.tmp (v := (.bool (decide (pc % 8 = 0)))) rfl RV.nil) ?_
    obtain ⟨e1, e3, e4, e5⟩ := p_11
    exact ⟨congrArg Value.bool ((decide_eq_true (by rw [e3]; decide)).trans (decide_eq_true (Or.inr (Or.inl ⟨rfl, e1, ⟨by omega, by omega⟩, e3, e4, e5⟩))).symm), h_18.chgS⟩
   ·have p_19 := of_decide_eq_false c_14
    refine WT.skipQ rfl rfl rfl (boolNe (v := .bool false) (congrArg Value.bool c_14) (by decide)) rfl rfl ?_
    refine WT.skipQ rfl rfl rfl (boolNe (v := .bool false) (congrArg Value.bool c_14) (by decide)) rfl rfl ?_
    refine WT.s ?_
    refine Op1.skip rfl rfl rfl (boolNe (v := .bool false) (congrArg Value.bool c_14) (by decide)) rfl rfl ?_
    refine qT rfl rfl (fun wq hS => R.pickF (v := (.bool false)) (congrArg Value.bool c_14) rfl) ?_
    refine qT rfl rfl (fun wq hS => R.assign (v := (.bool false)) rfl) ?_
    refine WT.nil (thn_n (WP.ret ?_))
    refine ret_of results35 (RV.tmp (v := (.bool false)) rfl RV.nil) ?_
    have hf : false = mayB 2 val pg gr pc rg run := (decide_eq_false (p := mayZ 2 val pg gr pc rg run) (fun hm => (show _ ∨ _ ∨ _ from hm).elim (fun hm => absurd hm.1 (by decide)) (fun hm => hm.elim (fun hm => (by have := hm.2.2.1; omega)) (fun hm => absurd hm.1 (by decide))))).symm
    exact ⟨congrArg Value.bool hf, h_9.chgS⟩
  ·have p_20 := of_decide_eq_false c_12
   refine WT.skipQ rfl rfl rfl (boolNe (v := .bool false) (congrArg Value.bool c_12) (by decide)) rfl rfl ?_
   refine WT.skipQ rfl rfl rfl (boolNe (v := .bool false) (congrArg Value.bool c_12) (by decide)) rfl rfl ?_
   refine WT.skipQ rfl rfl rfl (boolNe (v := .bool false) (congrArg Value.bool c_12) (by decide)) rfl rfl ?_
   refine qT rfl rfl (fun wq hS => R.pickF (v := (.bool false)) (congrArg Value.bool c_12) rfl) ?_
   refine qT rfl rfl (fun wq hS => R.move (v := (.bool false)) rfl) ?_
   refine WT.skipQ rfl rfl rfl (boolNe (v := .bool false) rfl (by decide)) rfl rfl ?_
   refine WT.skipQ rfl rfl rfl (boolNe (v := .bool false) rfl (by decide)) rfl rfl ?_
   refine WT.s ?_
   refine Op1.skip rfl rfl rfl (boolNe (v := .bool false) rfl (by decide)) rfl rfl ?_
   refine qT rfl rfl (fun wq hS => R.pickF (v := (.bool false)) rfl rfl) ?_
   refine qT rfl rfl (fun wq hS => R.assign (v := (.bool false)) rfl) ?_
   refine WT.nil (thn_n (WP.ret ?_))
   refine ret_of results35 (RV.tmp (v := (.bool false)) rfl RV.nil) ?_
   have hf : false = mayB 2 val pg gr pc rg run := (decide_eq_false (p := mayZ 2 val pg gr pc rg run) (fun hm => (show _ ∨ _ ∨ _ from hm).elim (fun hm => absurd hm.1 (by decide)) (fun hm => hm.elim (fun hm => (by have := hm.2.2.1; omega)) (fun hm => absurd hm.1 (by decide))))).symm
   exact ⟨congrArg Value.bool hf, h_9.chgS⟩
 ·have p_21 := of_decide_eq_false c_10
  refine WT.skipQ rfl rfl rfl (boolNe (v := .bool false) (congrArg Value.bool c_10) (by decide)) rfl rfl ?_
  refine WT.skipQ rfl rfl rfl (boolNe (v := .bool false) (congrArg Value.bool c_10) (by decide)) rfl rfl ?_
  refine WT.skipQ rfl rfl rfl (boolNe (v := .bool false) (congrArg Value.bool c_10) (by decide)) rfl rfl ?_
  refine qT rfl rfl (fun wq hS => R.pickF (v := (.bool false)) (congrArg Value.bool c_10) rfl) ?_
  refine qT rfl rfl (fun wq hS => R.move (v := (.bool false)) rfl) ?_
  refine WT.skipQ rfl rfl rfl (boolNe (v := .bool false) rfl (by decide)) rfl rfl ?_
  refine WT.skipQ rfl rfl rfl (boolNe (v := .bool false) rfl (by decide)) rfl rfl ?_
  refine WT.skipQ rfl rfl rfl (boolNe (v := .bool false) rfl (by decide)) rfl rfl ?_
  refine qT rfl rfl (fun wq hS => R.pickF (v := (.bool false)) rfl rfl) ?_
  refine qT rfl rfl (fun wq hS => R.move (v := (.bool false)) rfl) ?_
  refine WT.skipQ rfl rfl rfl (boolNe (v := .bool false) rfl (by decide)) rfl rfl ?_
  refine WT.skipQ rfl rfl rfl (boolNe (v := .bool false) rfl (by decide)) rfl rfl ?_
  refine WT.s ?_
  refine Op1.skip rfl rfl rfl (boolNe (v := .bool false) rfl (by decide)) rfl rfl ?_
  refine qT rfl rfl (fun wq hS => R.pickF (v := (.bool false)) rfl rfl) ?_
  refine qT rfl rfl (fun wq hS => R.assign (v := (.bool false)) rfl) ?_
  refine WT.nil (thn_n (WP.ret ?_))
  refine ret_of results35 (RV.tmp (v := (.bool false)) rfl RV.nil) ?_
  have hf : false = mayB 2 val pg gr pc rg run := (decide_eq_false (p := mayZ 2 val pg gr pc rg run) (fun hm => (show _ ∨ _ ∨ _ from hm).elim (fun hm => absurd hm.1 (by decide)) (fun hm => hm.elim (fun hm => p_21 ⟨hm.2.1, hm.2.2.2⟩) (fun hm => absurd hm.1 (by decide))))).symm
  exact ⟨congrArg Value.bool hf, h_9.chgS⟩

theorem c_MayGR_2 (val : List UInt8) (hvl : val.length = 32) (pg : Int) (hbp : -9223372036854775808 ≤ pg ∧ pg < 9223372036854775808) (gr : List UInt8) (hgr : gr.length = 128) (pc : UInt64) (rg : List UInt64) (hrg : rg.length = 8) (run : Bool) (w : World) :
  Cs Tryz.prog 36 [(.agg ⟨flat [(1, [(vi 2)]), (32, val.map vu8), (1, [(vi pg)]), (128, gr.map vu8), (1, [(vu64 pc)]), (8, rg.map vu64), (1, [(.bool run)])]⟩)].toArray w (fun v w1 => v = .bool (mayB 2 val pg gr pc rg run) ∧ Chg w w1 []) := by
 refine Cs.of (n := 61) (args := [(.agg ⟨flat [(1, [(vi 2)]), (32, val.map vu8), (1, [(vi pg)]), (128, gr.map vu8), (1, [(vu64 pc)]), (8, rg.map vu64), (1, [(.bool run)])]⟩)]) Tryz.func36 rfl rfl rfl ?_
 have h_0 := HP.init w
 refine WP.seq (WP.reg ?_)
 refine WL.box (segs := [(1, [(vi 2)]), (32, val.map vu8), (1, [(vi pg)]), (128, gr.map vu8), (1, [(vu64 pc)]), (8, rg.map vu64), (1, [(.bool run)])]) h_0 rfl rfl (sC sV (sC (s8 hvl) (sC sV (sC (s8 hgr) (sC sV (sC (SOk.u64 hrg) (sC sV sN))))))) rfl (fun b_1 w_2 h_3 => ?_)
 refine qA (.bool false) rfl rfl ?_
 refine WL.nil (thn_n (WP.seq (WP.seq (WP.reg ?_))))
 refine qV rfl (R.fieldAddr (off' := 0) rfl underlying70 rfl sizeOf68 rfl rfl) (qV rfl (R.load1 rfl isAgg68 (h_3.ok _ M0) Sg.h) ?_)
 refine WL.nil (thn_n (WP.block (WP.seq (WP.reg ?_))))
 refine qV rfl (R.bin rfl rfl (bi_eql (r := false) (by decide))) (qA (.bool false) rfl rfl ?_)
 refine WL.nil (thn_n ?_)
 refine WP.condF rfl ?_
 refine WP.seq (WP.reg ?_)
 refine qV rfl (R.bin rfl rfl (bi_eql (r := true) (by decide))) (qA (.bool true) rfl rfl ?_)
 refine WL.nil (thn_n ?_)
 refine WP.condT rfl ?_
 refine WP.seq (WP.reg ?_)
 refine qV rfl (R.fieldAddr (off' := 1) rfl underlying70 rfl sizeOf23 rfl rfl) (qV rfl (R.loadA [(1, [(vi 2)])] [(32, val.map vu8)] [(1, [(vi pg)]), (128, gr.map vu8), (1, [(vu64 pc)]), (8, rg.map vu64), (1, [(.bool run)])] (cs := val.map vu8) rfl isAgg23 sizeOf23 (h_3.ok _ M0) rfl rfl rfl rfl) (qV rfl (R.buildA (vs := []) (cs := (zB 32).map vu8) underlying23 sizeOf5 (zv typeInfo23 rfl) rfl rfl) (qV rfl (R.eqA (xs := val.map vu8) (ys := (zB 32).map vu8) (r := decide (val = List.replicate 32 (0 : UInt8))) rfl rfl eqGuardType23 kt23 (by decide) ag23 (Typ.u8s underlying23 ce23 underlying5 ce5 hvl) (Typ.u8s underlying23 ce23 underlying5 ce5 lr) (map_inj_u8.trans (decT _))) (qM (.bool (decide (val = List.replicate 32 (0 : UInt8)))) rfl rfl ?_))))
 rcases Bool.eq_false_or_eq_true (decide (val = List.replicate 32 (0 : UInt8))) with c_4 | c_4
 ·have p_5 := of_decide_eq_true c_4
  refine WL.want rfl (congrArg Value.bool c_4) ?_
  refine qV rfl (R.fieldAddr (off' := 33) rfl underlying70 rfl sizeOf3 rfl rfl) ?_
  refine WL.want rfl (congrArg Value.bool c_4) ?_
  refine qV rfl (R.load1 rfl isAgg3 (h_3.ok _ M0) (Sg.t rfl (Sg.t rfl Sg.h))) ?_
  refine WL.want rfl (congrArg Value.bool c_4) ?_
  refine WL.call Tryz.call29 rfl rfl (c_mayP12_B pg (by omega) _ ) rfl ?_
  rintro _ w_7 ⟨rfl, hc_6⟩
  have h_8 := h_3.same hc_6
  refine qV rfl (R.pickT (v := (.bool (decide (0 ≤ pg ∧ pg < 128)))) (congrArg Value.bool c_4) rfl) (qM (.bool (decide (0 ≤ pg ∧ pg < 128))) rfl rfl ?_)
  rcases Bool.eq_false_or_eq_true (decide (0 ≤ pg ∧ pg < 128)) with c_9 | c_9
  ·have p_10 := of_decide_eq_true c_9
   refine WL.want rfl (congrArg Value.bool c_9) ?_
   refine qV rfl (R.fieldAddr (off' := 162) rfl underlying70 rfl sizeOf57 rfl rfl) ?_
   refine WL.want rfl (congrArg Value.bool c_9) ?_
   refine qV rfl (R.loadA [(1, [(vi 2)]), (32, val.map vu8), (1, [(vi pg)]), (128, gr.map vu8)] [(1, [(vu64 pc)]), (8, rg.map vu64), (1, [(.bool run)])] [] rfl isAgg57 sizeOf57 (h_8.ok _ M0) rfl rfl rfl rfl) ?_
   refine WL.want rfl (congrArg Value.bool c_9) ?_
   refine qV rfl (R.buildS (pl := [(0, 1), (1, 8), (9, 1)]) (zs := [(1, [(vu64 0)]), (8, (zW 8).map vu64), (1, [(.bool false)])]) (vs := []) (out := [(1, [(vu64 0)]), (8, (zW 8).map vu64), (1, [(.bool false)])]) underlying57 (zv typeInfo57 rfl) rfl (sC sV (sC (SOk.u64 lr) (sC sV sN))) (pl57 _ underlying57) rfl FillR.nil rfl) ?_
   refine WL.want rfl (congrArg Value.bool c_9) ?_
   refine qV rfl (R.eqA (xs := flat [(1, [(vu64 pc)]), (8, rg.map vu64), (1, [(.bool run)])]) (ys := flat [(1, [(vu64 0)]), (8, (zW 8).map vu64), (1, [(.bool false)])]) (r := decide (pc = 0 ∧ rg = List.replicate 8 (0 : UInt64) ∧ run = false)) rfl rfl eqGuardType57 kt57 (by decide) ag57 (Typ.struct (h := 2) (r := [(1, [(vu64 pc)]), (8, rg.map vu64), (1, [(.bool run)])]) (cs := flat [(1, [(vu64 pc)]), (8, rg.map vu64), (1, [(.bool run)])]) underlying57 (TypF.cons (k := 1) rfl rfl (by decide) rfl (Typ.int underlying27 ce27 (wfu64 pc)) (TypF.cons (k := 8) rfl rfl (by decide) (len_map hrg) (Typ.u64s underlying55 ce55 underlying27 ce27 hrg) (TypF.cons (k := 1) rfl rfl (by decide) rfl (Typ.bool underlying4 ce4) TypF.nil))) rfl (((sC sV (sC (SOk.u64 hrg) (sC sV sN)))).len.trans ce57.symm)) (Typ.struct (h := 2) (r := [(1, [(vu64 0)]), (8, (zW 8).map vu64), (1, [(.bool false)])]) (cs := flat [(1, [(vu64 0)]), (8, (zW 8).map vu64), (1, [(.bool false)])]) underlying57 (TypF.cons (k := 1) rfl rfl (by decide) rfl (Typ.int underlying27 ce27 (wfu64 0)) (TypF.cons (k := 8) rfl rfl (by decide) (len_map lr) (Typ.u64s underlying55 ce55 underlying27 ce27 lr) (TypF.cons (k := 1) rfl rfl (by decide) rfl (Typ.bool underlying4 ce4) TypF.nil))) rfl (((sC sV (sC (SOk.u64 lr) (sC sV sN)))).len.trans ce57.symm)) ((rec3Eq hrg).trans (decT _))) (qV rfl (R.pickT (v := (.bool (decide (pc = 0 ∧ rg = List.replicate 8 (0 : UInt64) ∧ run = false)))) (congrArg Value.bool c_9) rfl) (qA (.bool (decide (pc = 0 ∧ rg = List.replicate 8 (0 : UInt64) ∧ run = false))) rfl rfl ?_))
   refine WL.nil (thn_n (WP.ret (inb_r (thn_r ?_))))
   refine ret_of results36 (RV.tmp (v := (.bool (decide (pc = 0 ∧ rg = List.replicate 8 (0 : UInt64) ∧ run = false)))) rfl RV.nil) ?_
   have hf : decide (pc = 0 ∧ rg = List.replicate 8 (0 : UInt64) ∧ run = false) = mayB 2 val pg gr pc rg run := decide_eq_decide.2 ⟨fun h8 => Or.inr (Or.inl ⟨rfl, p_5, p_10, h8⟩), fun hm => (show _ ∨ _ ∨ _ from hm).elim (fun hm => absurd hm.1 (by decide)) (fun hm => hm.elim (fun hm => hm.2.2.2) (fun hm => absurd hm.1 (by decide)))⟩
   exact ⟨congrArg Value.bool hf, h_8.chgS⟩
  ·have p_12 := of_decide_eq_false c_9
   refine WL.skip rfl (congrArg Value.bool c_9) rfl ?_
   refine WL.skip rfl (congrArg Value.bool c_9) rfl ?_
   refine WL.skip rfl (congrArg Value.bool c_9) rfl ?_
   refine WL.skip rfl (congrArg Value.bool c_9) rfl ?_
   refine qV rfl (R.pickF (v := (.bool false)) (congrArg Value.bool c_9) rfl) (qA (.bool false) rfl rfl ?_)
   refine WL.nil (thn_n (WP.ret (inb_r (thn_r ?_))))
   refine ret_of results36 (RV.tmp (v := (.bool false)) rfl RV.nil) ?_
   have hf : false = mayB 2 val pg gr pc rg run := (decide_eq_false (p := mayZ 2 val pg gr pc rg run) (fun hm => (show _ ∨ _ ∨ _ from hm).elim (fun hm => absurd hm.1 (by decide)) (fun hm => hm.elim (fun hm => p_12 hm.2.2.1) (fun hm => absurd hm.1 (by decide))))).symm
   exact ⟨congrArg Value.bool hf, h_8.chgS⟩
 ·have p_13 := of_decide_eq_false c_4
  refine WL.skip rfl (congrArg Value.bool c_4) rfl ?_
  refine WL.skip rfl (congrArg Value.bool c_4) rfl ?_
  refine WL.skip rfl (congrArg Value.bool c_4) rfl ?_
  refine qV rfl (R.pickF (v := (.bool false)) (congrArg Value.bool c_4) rfl) (qM (.bool false) rfl rfl ?_)
  refine WL.skip rfl rfl rfl ?_
  refine WL.skip rfl rfl rfl ?_
  refine WL.skip rfl rfl rfl ?_
  refine WL.skip rfl rfl rfl ?_
  refine qV rfl (R.pickF (v := (.bool false)) rfl rfl) (qA (.bool false) rfl rfl ?_)
  refine WL.nil (thn_n (WP.ret (inb_r (thn_r ?_))))
  refine ret_of results36 (RV.tmp (v := (.bool false)) rfl RV.nil) ?_
  have hf : false = mayB 2 val pg gr pc rg run := (decide_eq_false (p := mayZ 2 val pg gr pc rg run) (fun hm => (show _ ∨ _ ∨ _ from hm).elim (fun hm => absurd hm.1 (by decide)) (fun hm => hm.elim (fun hm => p_13 hm.2.1) (fun hm => absurd hm.1 (by decide))))).symm
  exact ⟨congrArg Value.bool hf, h_3.chgS⟩

theorem c_MayG_3 (val : List UInt8) (hvl : val.length = 32) (pg : Int) (hbp : -9223372036854775808 ≤ pg ∧ pg < 9223372036854775808) (gr : List UInt8) (hgr : gr.length = 128) (pc : UInt64) (rg : List UInt64) (hrg : rg.length = 8) (run : Bool) (w : World) :
  Cs Tryz.prog 35 [(.agg ⟨flat [(1, [(vi 3)]), (32, val.map vu8), (1, [(vi pg)]), (128, gr.map vu8), (1, [(vu64 pc)]), (8, rg.map vu64), (1, [(.bool run)])]⟩)].toArray w (fun v w1 => v = .bool (mayB 3 val pg gr pc rg run) ∧ Chg w w1 []) := by
 refine Cs.of (n := 34) (args := [(.agg ⟨flat [(1, [(vi 3)]), (32, val.map vu8), (1, [(vi pg)]), (128, gr.map vu8), (1, [(vu64 pc)]), (8, rg.map vu64), (1, [(.bool run)])]⟩)]) Tryz.func35 rfl rfl rfl ?_
 have h_0 := HP.init w
 refine WP.seq (WP.reg ?_)
 refine WL.box (segs := [(1, [(vi 3)]), (32, val.map vu8), (1, [(vi pg)]), (128, gr.map vu8), (1, [(vu64 pc)]), (8, rg.map vu64), (1, [(.bool run)])]) h_0 rfl rfl (sC sV (sC (s8 hvl) (sC sV (sC (s8 hgr) (sC sV (sC (SOk.u64 hrg) (sC sV sN))))))) rfl (fun b_1 w_2 h_3 => ?_)
 refine qA (.bool false) rfl rfl ?_
 refine WL.nil (thn_n (WP.seq (WP.reg ?_)))
 refine qV rfl (R.fieldAddr (off' := 0) rfl underlying70 rfl sizeOf68 rfl rfl) (qV rfl (R.load1 rfl isAgg68 (h_3.ok _ M0) Sg.h) (qV rfl (R.bin rfl rfl (bi_geq (r := true) (by decide))) (qM (.bool true) rfl rfl ?_)))
 refine WL.want rfl rfl ?_
 refine qV rfl (R.fieldAddr (off' := 0) rfl underlying70 rfl sizeOf68 rfl rfl) ?_
 refine WL.want rfl rfl ?_
 refine qV rfl (R.load1 rfl isAgg68 (h_3.ok _ M0) Sg.h) ?_
 refine WL.want rfl rfl ?_
 refine qV rfl (R.bin rfl rfl (bi_leq (r := true) (by decide))) (qV rfl (R.pickT (v := (.bool true)) rfl rfl) (qA (.bool true) rfl rfl ?_))
 refine WL.nil (thn_n (WP.seq ?_))
 refine WP.drawT (SL w.heap.size [.blk b_1 .nw 70 [(1, [(vi 3)]), (32, val.map vu8), (1, [(vi pg)]), (128, gr.map vu8), (1, [(vu64 pc)]), (8, rg.map vu64), (1, [(.bool run)])]]) (.q 0 (.q 1 (.q 2 (.q 3 (.s 4 (.q 5 (.q 6 (.q 7 (.q 8 (.q 9 (.q 10 (.q 11 (.q 12 (.q 13 (.q 14 (.q 15 (.q 16 (.q 17 (.q 18 (.q 19 (.s 20 (.q 21 (.q 22 .nil))))))))))))))))))))))) (by kernel_rfl) (by kernel_rfl) rfl (by kernel_rfl) (fun w_4 hc_6 => (SL.cons ((h_3.same hc_6).ok _ M0) (SL.nil _ _))) (fun w_4 hc_6 => ?_)
 have h_5 := h_3.same hc_6
 refine qT rfl rfl (fun wq hS => R.move (v := (.bool true)) rfl) ?_
 refine qT rfl rfl (fun wq hS => R.move (v := (.bool true)) rfl) ?_
 refine WT.q rfl (Wn.yes rfl rfl rfl) rfl rfl (fun wq hS => R.loadA [] [(1, [(vi 3)]), (32, val.map vu8), (1, [(vi pg)]), (128, gr.map vu8), (1, [(vu64 pc)]), (8, rg.map vu64), (1, [(.bool run)])] [] rfl isAgg70 sizeOf70 (hS _ M0) rfl rfl rfl rfl) ?_
 refine WT.q rfl (Wn.yes rfl rfl rfl) rfl rfl (fun wq hS => R.loadA [] [(1, [(vi 3)]), (32, val.map vu8), (1, [(vi pg)]), (128, gr.map vu8), (1, [(vu64 pc)]), (8, rg.map vu64), (1, [(.bool run)])] [] rfl isAgg70 sizeOf70 (hS _ M0) rfl rfl rfl rfl) ?_
 refine WT.s ?_
 refine Op1.one rfl (Wn.yes rfl rfl rfl) ?_
 refine WL.call Tryz.call78 rfl rfl (c_bareG_3 val hvl pg (by omega) gr hgr pc rg hrg run _ ) rfl ?_
 rintro _ w_8 ⟨rfl, hc_7⟩
 have h_9 := h_5.same hc_7
 refine WL.nil ?_
 refine ⟨(N0 h_9.ok), ?_⟩
 refine WT.q rfl (Wn.yes rfl rfl rfl) rfl rfl (fun wq hS => R.eqA (xs := flat [(1, [(vi 3)]), (32, val.map vu8), (1, [(vi pg)]), (128, gr.map vu8), (1, [(vu64 pc)]), (8, rg.map vu64), (1, [(.bool run)])]) (ys := flat [(1, [(vi 3)]), (32, (zB 32).map vu8), (1, [(vi 0)]), (128, (zB 128).map vu8), (1, [(vu64 pc)]), (8, rg.map vu64), (1, [(.bool run)])]) (r := decide (val = List.replicate 32 (0 : UInt8) ∧ pg = 0 ∧ gr = List.replicate 128 (0 : UInt8))) rfl rfl eqGuardType70 kt70 (by decide) ag70 (typR 3 (by decide) val hvl pg (by omega) gr hgr pc rg hrg run) (typR 3 (by decide) (zB 32) lr 0 (by decide) (zB 128) lr pc rg hrg run) ((recEq3 hvl hgr hrg).trans (decT _))) ?_
 refine qT rfl rfl (fun wq hS => R.pickT (v := (.bool (decide (val = List.replicate 32 (0 : UInt8) ∧ pg = 0 ∧ gr = List.replicate 128 (0 : UInt8))))) rfl rfl) ?_
 refine qT rfl rfl (fun wq hS => R.move (v := (.bool (decide (val = List.replicate 32 (0 : UInt8) ∧ pg = 0 ∧ gr = List.replicate 128 (0 : UInt8))))) rfl) ?_
 rcases Bool.eq_false_or_eq_true (decide (val = List.replicate 32 (0 : UInt8) ∧ pg = 0 ∧ gr = List.replicate 128 (0 : UInt8))) with c_10 | c_10
 ·have p_11 := of_decide_eq_true c_10
  refine WT.q rfl (Wn.yes rfl rfl (congrArg Value.bool c_10)) rfl rfl (fun wq hS => R.fieldAddr (off' := 33) rfl underlying70 rfl sizeOf3 rfl rfl) ?_
  refine WT.q rfl (Wn.yes rfl rfl (congrArg Value.bool c_10)) rfl rfl (fun wq hS => R.load1 rfl isAgg3 (hS _ M0) (Sg.t rfl (Sg.t rfl Sg.h))) ?_
  refine WT.q rfl (Wn.yes rfl rfl (congrArg Value.bool c_10)) rfl rfl (fun wq hS => R.bin rfl rfl (bi_geq (r := decide ((pg : Int) ≥ 0)) rfl)) ?_
  refine qT rfl rfl (fun wq hS => R.pickT (v := (.bool (decide ((pg : Int) ≥ 0)))) (congrArg Value.bool c_10) rfl) ?_
  refine qT rfl rfl (fun wq hS => R.move (v := (.bool (decide ((pg : Int) ≥ 0)))) rfl) ?_
  rcases Bool.eq_false_or_eq_true (decide ((pg : Int) ≥ 0)) with c_12 | c_12
  ·have p_13 := of_decide_eq_true c_12
   refine WT.q rfl (Wn.yes rfl rfl (congrArg Value.bool c_12)) rfl rfl (fun wq hS => R.fieldAddr (off' := 33) rfl underlying70 rfl sizeOf3 rfl rfl) ?_
   refine WT.q rfl (Wn.yes rfl rfl (congrArg Value.bool c_12)) rfl rfl (fun wq hS => R.load1 rfl isAgg3 (hS _ M0) (Sg.t rfl (Sg.t rfl Sg.h))) ?_
   refine WT.q rfl (Wn.yes rfl rfl (congrArg Value.bool c_12)) rfl rfl (fun wq hS => R.bin rfl rfl (bi_lss (r := decide ((pg : Int) < 128)) rfl)) ?_
   refine qT rfl rfl (fun wq hS => R.pickT (v := (.bool (decide ((pg : Int) < 128)))) (congrArg Value.bool c_12) rfl) ?_
   refine qT rfl rfl (fun wq hS => R.move (v := (.bool (decide ((pg : Int) < 128)))) rfl) ?_
   rcases Bool.eq_false_or_eq_true (decide ((pg : Int) < 128)) with c_14 | c_14
   ·have p_15 := of_decide_eq_true c_14
    refine WT.q rfl (Wn.yes rfl rfl (congrArg Value.bool c_14)) rfl rfl (fun wq hS => R.fieldAddr (off' := 162) rfl underlying70 rfl sizeOf57 rfl rfl) ?_
    refine WT.q rfl (Wn.yes rfl rfl (congrArg Value.bool c_14)) rfl rfl (fun wq hS => R.loadA [(1, [(vi 3)]), (32, val.map vu8), (1, [(vi pg)]), (128, gr.map vu8)] [(1, [(vu64 pc)]), (8, rg.map vu64), (1, [(.bool run)])] [] rfl isAgg57 sizeOf57 (hS _ M0) rfl rfl rfl rfl) ?_
    refine WT.s ?_
    refine Op1.one rfl (Wn.yes rfl rfl (congrArg Value.bool c_14)) ?_
    refine WL.call Tryz.call79 rfl rfl (c_MayRec pc rg hrg run _ ) rfl ?_
    rintro _ w_17 ⟨rfl, hc_16⟩
    have h_18 := h_9.same hc_16
    refine WL.nil ?_
    refine ⟨(N0 h_18.ok), ?_⟩
    refine qT rfl rfl (fun wq hS => R.pickT (v := (.bool (decide (pc % 8 = 0)))) (congrArg Value.bool c_14) rfl) ?_
    refine qT rfl rfl (fun wq hS => R.assign (v := (.bool (decide (pc % 8 = 0)))) rfl) ?_
    refine WT.nil (thn_n (WP.ret ?_))
    refine ret_of results35 (RV.tmp (v := (.bool (decide (pc % 8 = 0)))) rfl RV.nil) ?_
    obtain ⟨e1, e2, e3⟩ := p_11
    have hf : decide (pc % 8 = 0) = mayB 3 val pg gr pc rg run := decide_eq_decide.2 ⟨fun h8 => Or.inr (Or.inr ⟨rfl, e1, e2, e3, decide_eq_true h8⟩), fun hm => (show _ ∨ _ ∨ _ from hm).elim (fun hm => absurd hm.1 (by decide)) (fun hm => hm.elim (fun hm => absurd hm.1 (by decide)) (fun hm => of_decide_eq_true hm.2.2.2.2))⟩
    exact ⟨congrArg Value.bool hf, h_18.chgS⟩
   ·have p_19 := of_decide_eq_false c_14
    refine WT.skipQ rfl rfl rfl (boolNe (v := .bool false) (congrArg Value.bool c_14) (by decide)) rfl rfl ?_
    refine WT.skipQ rfl rfl rfl (boolNe (v := .bool false) (congrArg Value.bool c_14) (by decide)) rfl rfl ?_
    refine WT.s ?_
    refine Op1.skip rfl rfl rfl (boolNe (v := .bool false) (congrArg Value.bool c_14) (by decide)) rfl rfl ?_
    refine qT rfl rfl (fun wq hS => R.pickF (v := (.bool false)) (congrArg Value.bool c_14) rfl) ?_
    refine qT rfl rfl (fun wq hS => R.assign (v := (.bool false)) rfl) ?_
    refine WT.nil (thn_n (WP.ret ?_))
    refine ret_of results35 (RV.tmp (v := (.bool false)) rfl RV.nil) ?_
    exact absurd p_11.2.1 (by omega)
  ·have p_20 := of_decide_eq_false c_12
   refine WT.skipQ rfl rfl rfl (boolNe (v := .bool false) (congrArg Value.bool c_12) (by decide)) rfl rfl ?_
   refine WT.skipQ rfl rfl rfl (boolNe (v := .bool false) (congrArg Value.bool c_12) (by decide)) rfl rfl ?_
   refine WT.skipQ rfl rfl rfl (boolNe (v := .bool false) (congrArg Value.bool c_12) (by decide)) rfl rfl ?_
   refine qT rfl rfl (fun wq hS => R.pickF (v := (.bool false)) (congrArg Value.bool c_12) rfl) ?_
   refine qT rfl rfl (fun wq hS => R.move (v := (.bool false)) rfl) ?_
   refine WT.skipQ rfl rfl rfl (boolNe (v := .bool false) rfl (by decide)) rfl rfl ?_
   refine WT.skipQ rfl rfl rfl (boolNe (v := .bool false) rfl (by decide)) rfl rfl ?_
   refine WT.s ?_
   refine Op1.skip rfl rfl rfl (boolNe (v := .bool false) rfl (by decide)) rfl rfl ?_
   refine qT rfl rfl (fun wq hS => R.pickF (v := (.bool false)) rfl rfl) ?_
   refine qT rfl rfl (fun wq hS => R.assign (v := (.bool false)) rfl) ?_
   refine WT.nil (thn_n (WP.ret ?_))
   refine ret_of results35 (RV.tmp (v := (.bool false)) rfl RV.nil) ?_
   exact absurd p_11.2.1 (by omega)
 ·have p_21 := of_decide_eq_false c_10
  refine WT.skipQ rfl rfl rfl (boolNe (v := .bool false) (congrArg Value.bool c_10) (by decide)) rfl rfl ?_
  refine WT.skipQ rfl rfl rfl (boolNe (v := .bool false) (congrArg Value.bool c_10) (by decide)) rfl rfl ?_
  refine WT.skipQ rfl rfl rfl (boolNe (v := .bool false) (congrArg Value.bool c_10) (by decide)) rfl rfl ?_
  refine qT rfl rfl (fun wq hS => R.pickF (v := (.bool false)) (congrArg Value.bool c_10) rfl) ?_
  refine qT rfl rfl (fun wq hS => R.move (v := (.bool false)) rfl) ?_
  refine WT.skipQ rfl rfl rfl (boolNe (v := .bool false) rfl (by decide)) rfl rfl ?_
  refine WT.skipQ rfl rfl rfl (boolNe (v := .bool false) rfl (by decide)) rfl rfl ?_
  refine WT.skipQ rfl rfl rfl (boolNe (v := .bool false) rfl (by decide)) rfl rfl ?_
  refine qT rfl rfl (fun wq hS => R.pickF (v := (.bool false)) rfl rfl) ?_
  refine qT rfl rfl (fun wq hS => R.move (v := (.bool false)) rfl) ?_
  refine WT.skipQ rfl rfl rfl (boolNe (v := .bool false) rfl (by decide)) rfl rfl ?_
  refine WT.skipQ rfl rfl rfl (boolNe (v := .bool false) rfl (by decide)) rfl rfl ?_
  refine WT.s ?_
  refine Op1.skip rfl rfl rfl (boolNe (v := .bool false) rfl (by decide)) rfl rfl ?_
  refine qT rfl rfl (fun wq hS => R.pickF (v := (.bool false)) rfl rfl) ?_
  refine qT rfl rfl (fun wq hS => R.assign (v := (.bool false)) rfl) ?_
  refine WT.nil (thn_n (WP.ret ?_))
  refine ret_of results35 (RV.tmp (v := (.bool false)) rfl RV.nil) ?_
  have hf : false = mayB 3 val pg gr pc rg run := (decide_eq_false (p := mayZ 3 val pg gr pc rg run) (fun hm => (show _ ∨ _ ∨ _ from hm).elim (fun hm => absurd hm.1 (by decide)) (fun hm => hm.elim (fun hm => absurd hm.1 (by decide)) (fun hm => p_21 ⟨hm.2.1, hm.2.2.1, hm.2.2.2.1⟩)))).symm
  exact ⟨congrArg Value.bool hf, h_9.chgS⟩

theorem c_MayGR_3 (val : List UInt8) (hvl : val.length = 32) (pg : Int) (hbp : -9223372036854775808 ≤ pg ∧ pg < 9223372036854775808) (gr : List UInt8) (hgr : gr.length = 128) (pc : UInt64) (rg : List UInt64) (hrg : rg.length = 8) (run : Bool) (w : World) :
  Cs Tryz.prog 36 [(.agg ⟨flat [(1, [(vi 3)]), (32, val.map vu8), (1, [(vi pg)]), (128, gr.map vu8), (1, [(vu64 pc)]), (8, rg.map vu64), (1, [(.bool run)])]⟩)].toArray w (fun v w1 => v = .bool (mayB 3 val pg gr pc rg run) ∧ Chg w w1 []) := by
 refine Cs.of (n := 61) (args := [(.agg ⟨flat [(1, [(vi 3)]), (32, val.map vu8), (1, [(vi pg)]), (128, gr.map vu8), (1, [(vu64 pc)]), (8, rg.map vu64), (1, [(.bool run)])]⟩)]) Tryz.func36 rfl rfl rfl ?_
 have h_0 := HP.init w
 refine WP.seq (WP.reg ?_)
 refine WL.box (segs := [(1, [(vi 3)]), (32, val.map vu8), (1, [(vi pg)]), (128, gr.map vu8), (1, [(vu64 pc)]), (8, rg.map vu64), (1, [(.bool run)])]) h_0 rfl rfl (sC sV (sC (s8 hvl) (sC sV (sC (s8 hgr) (sC sV (sC (SOk.u64 hrg) (sC sV sN))))))) rfl (fun b_1 w_2 h_3 => ?_)
 refine qA (.bool false) rfl rfl ?_
 refine WL.nil (thn_n (WP.seq (WP.seq (WP.reg ?_))))
 refine qV rfl (R.fieldAddr (off' := 0) rfl underlying70 rfl sizeOf68 rfl rfl) (qV rfl (R.load1 rfl isAgg68 (h_3.ok _ M0) Sg.h) ?_)
 refine WL.nil (thn_n (WP.block (WP.seq (WP.reg ?_))))
 refine qV rfl (R.bin rfl rfl (bi_eql (r := false) (by decide))) (qA (.bool false) rfl rfl ?_)
 refine WL.nil (thn_n ?_)
 refine WP.condF rfl ?_
 refine WP.seq (WP.reg ?_)
 refine qV rfl (R.bin rfl rfl (bi_eql (r := false) (by decide))) (qA (.bool false) rfl rfl ?_)
 refine WL.nil (thn_n ?_)
 refine WP.condF rfl ?_
 refine WP.seq (WP.reg ?_)
 refine qV rfl (R.bin rfl rfl (bi_eql (r := true) (by decide))) (qA (.bool true) rfl rfl ?_)
 refine WL.nil (thn_n ?_)
 refine WP.condT rfl ?_
 refine WP.seq (WP.reg ?_)
 refine qV rfl (R.fieldAddr (off' := 1) rfl underlying70 rfl sizeOf23 rfl rfl) (qV rfl (R.loadA [(1, [(vi 3)])] [(32, val.map vu8)] [(1, [(vi pg)]), (128, gr.map vu8), (1, [(vu64 pc)]), (8, rg.map vu64), (1, [(.bool run)])] (cs := val.map vu8) rfl isAgg23 sizeOf23 (h_3.ok _ M0) rfl rfl rfl rfl) (qV rfl (R.buildA (vs := []) (cs := (zB 32).map vu8) underlying23 sizeOf5 (zv typeInfo23 rfl) rfl rfl) (qV rfl (R.eqA (xs := val.map vu8) (ys := (zB 32).map vu8) (r := decide (val = List.replicate 32 (0 : UInt8))) rfl rfl eqGuardType23 kt23 (by decide) ag23 (Typ.u8s underlying23 ce23 underlying5 ce5 hvl) (Typ.u8s underlying23 ce23 underlying5 ce5 lr) (map_inj_u8.trans (decT _))) (qM (.bool (decide (val = List.replicate 32 (0 : UInt8)))) rfl rfl ?_))))
 rcases Bool.eq_false_or_eq_true (decide (val = List.replicate 32 (0 : UInt8))) with c_4 | c_4
 ·have p_5 := of_decide_eq_true c_4
  refine WL.want rfl (congrArg Value.bool c_4) ?_
  refine qV rfl (R.fieldAddr (off' := 33) rfl underlying70 rfl sizeOf3 rfl rfl) ?_
  refine WL.want rfl (congrArg Value.bool c_4) ?_
  refine qV rfl (R.load1 rfl isAgg3 (h_3.ok _ M0) (Sg.t rfl (Sg.t rfl Sg.h))) ?_
  refine WL.want rfl (congrArg Value.bool c_4) ?_
  refine qV rfl (R.bin rfl rfl (bi_eql (r := decide ((pg : Int) = 0)) rfl)) (qV rfl (R.pickT (v := (.bool (decide ((pg : Int) = 0)))) (congrArg Value.bool c_4) rfl) (qM (.bool (decide ((pg : Int) = 0))) rfl rfl ?_))
  rcases Bool.eq_false_or_eq_true (decide ((pg : Int) = 0)) with c_6 | c_6
  ·have p_7 := of_decide_eq_true c_6
   refine WL.want rfl (congrArg Value.bool c_6) ?_
   refine qV rfl (R.fieldAddr (off' := 34) rfl underlying70 rfl sizeOf29 rfl rfl) ?_
   refine WL.want rfl (congrArg Value.bool c_6) ?_
   refine qV rfl (R.loadA [(1, [(vi 3)]), (32, val.map vu8), (1, [(vi pg)])] [(128, gr.map vu8)] [(1, [(vu64 pc)]), (8, rg.map vu64), (1, [(.bool run)])] (cs := gr.map vu8) rfl isAgg29 sizeOf29 (h_3.ok _ M0) rfl rfl rfl rfl) ?_
   refine WL.want rfl (congrArg Value.bool c_6) ?_
   refine qV rfl (R.buildA (vs := []) (cs := (zB 128).map vu8) underlying29 sizeOf5 (zv typeInfo29 rfl) rfl rfl) ?_
   refine WL.want rfl (congrArg Value.bool c_6) ?_
   refine qV rfl (R.eqA (xs := gr.map vu8) (ys := (zB 128).map vu8) (r := decide (gr = List.replicate 128 (0 : UInt8))) rfl rfl eqGuardType29 kt29 (by decide) ag29 (Typ.u8s underlying29 ce29 underlying5 ce5 hgr) (Typ.u8s underlying29 ce29 underlying5 ce5 lr) (map_inj_u8.trans (decT _))) (qV rfl (R.pickT (v := (.bool (decide (gr = List.replicate 128 (0 : UInt8))))) (congrArg Value.bool c_6) rfl) (qM (.bool (decide (gr = List.replicate 128 (0 : UInt8)))) rfl rfl ?_))
   rcases Bool.eq_false_or_eq_true (decide (gr = List.replicate 128 (0 : UInt8))) with c_8 | c_8
   ·have p_9 := of_decide_eq_true c_8
    refine WL.want rfl (congrArg Value.bool c_8) ?_
    refine qV rfl (R.fieldAddr (off' := 162) rfl underlying70 rfl sizeOf57 rfl rfl) ?_
    refine WL.want rfl (congrArg Value.bool c_8) ?_
    refine qV rfl (R.loadA [(1, [(vi 3)]), (32, val.map vu8), (1, [(vi pg)]), (128, gr.map vu8)] [(1, [(vu64 pc)]), (8, rg.map vu64), (1, [(.bool run)])] [] rfl isAgg57 sizeOf57 (h_3.ok _ M0) rfl rfl rfl rfl) ?_
    refine WL.want rfl (congrArg Value.bool c_8) ?_
    refine WL.call Tryz.call32 rfl rfl (c_MayRecR pc rg hrg run _ ) rfl ?_
    rintro _ w_11 ⟨rfl, hc_10⟩
    have h_12 := h_3.same hc_10
    refine qV rfl (R.pickT (v := (.bool (decide (pc % 8 = 0)))) (congrArg Value.bool c_8) rfl) (qA (.bool (decide (pc % 8 = 0))) rfl rfl ?_)
    refine WL.nil (thn_n (WP.ret (inb_r (thn_r ?_))))
    refine ret_of results36 (RV.tmp (v := (.bool (decide (pc % 8 = 0)))) rfl RV.nil) ?_
    have hf : decide (pc % 8 = 0) = mayB 3 val pg gr pc rg run := decide_eq_decide.2 ⟨fun h8 => Or.inr (Or.inr ⟨rfl, p_5, p_7, p_9, decide_eq_true h8⟩), fun hm => (show _ ∨ _ ∨ _ from hm).elim (fun hm => absurd hm.1 (by decide)) (fun hm => hm.elim (fun hm => absurd hm.1 (by decide)) (fun hm => of_decide_eq_true hm.2.2.2.2))⟩
    exact ⟨congrArg Value.bool hf, h_12.chgS⟩
   ·have p_13 := of_decide_eq_false c_8
    refine WL.skip rfl (congrArg Value.bool c_8) rfl ?_
    refine WL.skip rfl (congrArg Value.bool c_8) rfl ?_
    refine WL.skip rfl (congrArg Value.bool c_8) rfl ?_
    refine qV rfl (R.pickF (v := (.bool false)) (congrArg Value.bool c_8) rfl) (qA (.bool false) rfl rfl ?_)
    refine WL.nil (thn_n (WP.ret (inb_r (thn_r ?_))))
    refine ret_of results36 (RV.tmp (v := (.bool false)) rfl RV.nil) ?_
    have hf : false = mayB 3 val pg gr pc rg run := (decide_eq_false (p := mayZ 3 val pg gr pc rg run) (fun hm => (show _ ∨ _ ∨ _ from hm).elim (fun hm => absurd hm.1 (by decide)) (fun hm => hm.elim (fun hm => absurd hm.1 (by decide)) (fun hm => p_13 hm.2.2.2.1)))).symm
    exact ⟨congrArg Value.bool hf, h_3.chgS⟩
  ·have p_14 := of_decide_eq_false c_6
   refine WL.skip rfl (congrArg Value.bool c_6) rfl ?_
   refine WL.skip rfl (congrArg Value.bool c_6) rfl ?_
   refine WL.skip rfl (congrArg Value.bool c_6) rfl ?_
   refine WL.skip rfl (congrArg Value.bool c_6) rfl ?_
   refine qV rfl (R.pickF (v := (.bool false)) (congrArg Value.bool c_6) rfl) (qM (.bool false) rfl rfl ?_)
   refine WL.skip rfl rfl rfl ?_
   refine WL.skip rfl rfl rfl ?_
   refine WL.skip rfl rfl rfl ?_
   refine qV rfl (R.pickF (v := (.bool false)) rfl rfl) (qA (.bool false) rfl rfl ?_)
   refine WL.nil (thn_n (WP.ret (inb_r (thn_r ?_))))
   refine ret_of results36 (RV.tmp (v := (.bool false)) rfl RV.nil) ?_
   have hf : false = mayB 3 val pg gr pc rg run := (decide_eq_false (p := mayZ 3 val pg gr pc rg run) (fun hm => (show _ ∨ _ ∨ _ from hm).elim (fun hm => absurd hm.1 (by decide)) (fun hm => hm.elim (fun hm => absurd hm.1 (by decide)) (fun hm => p_14 hm.2.2.1)))).symm
   exact ⟨congrArg Value.bool hf, h_3.chgS⟩
 ·have p_15 := of_decide_eq_false c_4
  refine WL.skip rfl (congrArg Value.bool c_4) rfl ?_
  refine WL.skip rfl (congrArg Value.bool c_4) rfl ?_
  refine WL.skip rfl (congrArg Value.bool c_4) rfl ?_
  refine qV rfl (R.pickF (v := (.bool false)) (congrArg Value.bool c_4) rfl) (qM (.bool false) rfl rfl ?_)
  refine WL.skip rfl rfl rfl ?_
  refine WL.skip rfl rfl rfl ?_
  refine WL.skip rfl rfl rfl ?_
  refine WL.skip rfl rfl rfl ?_
  refine qV rfl (R.pickF (v := (.bool false)) rfl rfl) (qM (.bool false) rfl rfl ?_)
  refine WL.skip rfl rfl rfl ?_
  refine WL.skip rfl rfl rfl ?_
  refine WL.skip rfl rfl rfl ?_
  refine qV rfl (R.pickF (v := (.bool false)) rfl rfl) (qA (.bool false) rfl rfl ?_)
  refine WL.nil (thn_n (WP.ret (inb_r (thn_r ?_))))
  refine ret_of results36 (RV.tmp (v := (.bool false)) rfl RV.nil) ?_
  have hf : false = mayB 3 val pg gr pc rg run := (decide_eq_false (p := mayZ 3 val pg gr pc rg run) (fun hm => (show _ ∨ _ ∨ _ from hm).elim (fun hm => absurd hm.1 (by decide)) (fun hm => hm.elim (fun hm => absurd hm.1 (by decide)) (fun hm => p_15 hm.2.1)))).symm
  exact ⟨congrArg Value.bool hf, h_3.chgS⟩

theorem c_MayG_lo (kd : Int) (hbk : -9223372036854775808 ≤ kd ∧ kd < 9223372036854775808) (val : List UInt8) (hvl : val.length = 32) (pg : Int) (hbp : -9223372036854775808 ≤ pg ∧ pg < 9223372036854775808) (gr : List UInt8) (hgr : gr.length = 128) (pc : UInt64) (rg : List UInt64) (hrg : rg.length = 8) (run : Bool) (h : kd < 1) (w : World) :
  Cs Tryz.prog 35 [(.agg ⟨flat [(1, [(vi kd)]), (32, val.map vu8), (1, [(vi pg)]), (128, gr.map vu8), (1, [(vu64 pc)]), (8, rg.map vu64), (1, [(.bool run)])]⟩)].toArray w (fun v w1 => v = (.bool false) ∧ Chg w w1 []) := by
 refine Cs.of (n := 34) (args := [(.agg ⟨flat [(1, [(vi kd)]), (32, val.map vu8), (1, [(vi pg)]), (128, gr.map vu8), (1, [(vu64 pc)]), (8, rg.map vu64), (1, [(.bool run)])]⟩)]) Tryz.func35 rfl rfl rfl ?_
 have h_0 := HP.init w
 refine WP.seq (WP.reg ?_)
 refine WL.box (segs := [(1, [(vi kd)]), (32, val.map vu8), (1, [(vi pg)]), (128, gr.map vu8), (1, [(vu64 pc)]), (8, rg.map vu64), (1, [(.bool run)])]) h_0 rfl rfl (sC sV (sC (s8 hvl) (sC sV (sC (s8 hgr) (sC sV (sC (SOk.u64 hrg) (sC sV sN))))))) rfl (fun b_1 w_2 h_3 => ?_)
 refine qA (.bool false) rfl rfl ?_
 refine WL.nil (thn_n (WP.seq (WP.reg ?_)))
 refine qV rfl (R.fieldAddr (off' := 0) rfl underlying70 rfl sizeOf68 rfl rfl) (qV rfl (R.load1 rfl isAgg68 (h_3.ok _ M0) Sg.h) (qV rfl (R.bin rfl rfl (bi_geq (r := decide ((kd : Int) ≥ 1)) rfl)) (qM (.bool (decide ((kd : Int) ≥ 1))) rfl rfl ?_)))
 refine WL.skip rfl (congrArg Value.bool (decide_eq_false (by omega))) rfl ?_
 refine WL.skip rfl (congrArg Value.bool (decide_eq_false (by omega))) rfl ?_
 refine WL.skip rfl (congrArg Value.bool (decide_eq_false (by omega))) rfl ?_
 refine qV rfl (R.pickF (v := (.bool false)) (congrArg Value.bool (decide_eq_false (by omega))) rfl) (qA (.bool false) rfl rfl ?_)
 refine WL.nil (thn_n (WP.seq ?_))
 refine WP.drawT (SL w.heap.size [.blk b_1 .nw 70 [(1, [(vi kd)]), (32, val.map vu8), (1, [(vi pg)]), (128, gr.map vu8), (1, [(vu64 pc)]), (8, rg.map vu64), (1, [(.bool run)])]]) (.q 0 (.q 1 (.q 2 (.q 3 (.s 4 (.q 5 (.q 6 (.q 7 (.q 8 (.q 9 (.q 10 (.q 11 (.q 12 (.q 13 (.q 14 (.q 15 (.q 16 (.q 17 (.q 18 (.q 19 (.s 20 (.q 21 (.q 22 .nil))))))))))))))))))))))) (by kernel_rfl) (by kernel_rfl) rfl (by kernel_rfl) (fun w_4 hc_6 => (SL.cons ((h_3.same hc_6).ok _ M0) (SL.nil _ _))) (fun w_4 hc_6 => ?_)
 have h_5 := h_3.same hc_6
 refine qT rfl rfl (fun wq hS => R.move (v := (.bool false)) rfl) ?_
 refine qT rfl rfl (fun wq hS => R.move (v := (.bool false)) rfl) ?_
 refine WT.skipQ rfl rfl rfl (boolNe (v := .bool false) rfl (by decide)) rfl rfl ?_
 refine WT.skipQ rfl rfl rfl (boolNe (v := .bool false) rfl (by decide)) rfl rfl ?_
 refine WT.s ?_
 refine Op1.skip rfl rfl rfl (boolNe (v := .bool false) rfl (by decide)) rfl rfl ?_
 refine WT.skipQ rfl rfl rfl (boolNe (v := .bool false) rfl (by decide)) rfl rfl ?_
 refine qT rfl rfl (fun wq hS => R.pickF (v := (.bool false)) rfl rfl) ?_
 refine qT rfl rfl (fun wq hS => R.move (v := (.bool false)) rfl) ?_
 refine WT.skipQ rfl rfl rfl (boolNe (v := .bool false) rfl (by decide)) rfl rfl ?_
 refine WT.skipQ rfl rfl rfl (boolNe (v := .bool false) rfl (by decide)) rfl rfl ?_
 refine WT.skipQ rfl rfl rfl (boolNe (v := .bool false) rfl (by decide)) rfl rfl ?_
 refine qT rfl rfl (fun wq hS => R.pickF (v := (.bool false)) rfl rfl) ?_
 refine qT rfl rfl (fun wq hS => R.move (v := (.bool false)) rfl) ?_
 refine WT.skipQ rfl rfl rfl (boolNe (v := .bool false) rfl (by decide)) rfl rfl ?_
 refine WT.skipQ rfl rfl rfl (boolNe (v := .bool false) rfl (by decide)) rfl rfl ?_
 refine WT.skipQ rfl rfl rfl (boolNe (v := .bool false) rfl (by decide)) rfl rfl ?_
 refine qT rfl rfl (fun wq hS => R.pickF (v := (.bool false)) rfl rfl) ?_
 refine qT rfl rfl (fun wq hS => R.move (v := (.bool false)) rfl) ?_
 refine WT.skipQ rfl rfl rfl (boolNe (v := .bool false) rfl (by decide)) rfl rfl ?_
 refine WT.skipQ rfl rfl rfl (boolNe (v := .bool false) rfl (by decide)) rfl rfl ?_
 refine WT.s ?_
 refine Op1.skip rfl rfl rfl (boolNe (v := .bool false) rfl (by decide)) rfl rfl ?_
 refine qT rfl rfl (fun wq hS => R.pickF (v := (.bool false)) rfl rfl) ?_
 refine qT rfl rfl (fun wq hS => R.assign (v := (.bool false)) rfl) ?_
 refine WT.nil (thn_n (WP.ret ?_))
 refine ret_of results35 (RV.tmp (v := (.bool false)) rfl RV.nil) ?_
 exact ⟨rfl, h_5.chgS⟩

theorem c_MayG_hi (kd : Int) (hbk : -9223372036854775808 ≤ kd ∧ kd < 9223372036854775808) (val : List UInt8) (hvl : val.length = 32) (pg : Int) (hbp : -9223372036854775808 ≤ pg ∧ pg < 9223372036854775808) (gr : List UInt8) (hgr : gr.length = 128) (pc : UInt64) (rg : List UInt64) (hrg : rg.length = 8) (run : Bool) (h : 3 < kd) (w : World) :
  Cs Tryz.prog 35 [(.agg ⟨flat [(1, [(vi kd)]), (32, val.map vu8), (1, [(vi pg)]), (128, gr.map vu8), (1, [(vu64 pc)]), (8, rg.map vu64), (1, [(.bool run)])]⟩)].toArray w (fun v w1 => v = (.bool false) ∧ Chg w w1 []) := by
 refine Cs.of (n := 34) (args := [(.agg ⟨flat [(1, [(vi kd)]), (32, val.map vu8), (1, [(vi pg)]), (128, gr.map vu8), (1, [(vu64 pc)]), (8, rg.map vu64), (1, [(.bool run)])]⟩)]) Tryz.func35 rfl rfl rfl ?_
 have h_0 := HP.init w
 refine WP.seq (WP.reg ?_)
 refine WL.box (segs := [(1, [(vi kd)]), (32, val.map vu8), (1, [(vi pg)]), (128, gr.map vu8), (1, [(vu64 pc)]), (8, rg.map vu64), (1, [(.bool run)])]) h_0 rfl rfl (sC sV (sC (s8 hvl) (sC sV (sC (s8 hgr) (sC sV (sC (SOk.u64 hrg) (sC sV sN))))))) rfl (fun b_1 w_2 h_3 => ?_)
 refine qA (.bool false) rfl rfl ?_
 refine WL.nil (thn_n (WP.seq (WP.reg ?_)))
 refine qV rfl (R.fieldAddr (off' := 0) rfl underlying70 rfl sizeOf68 rfl rfl) (qV rfl (R.load1 rfl isAgg68 (h_3.ok _ M0) Sg.h) (qV rfl (R.bin rfl rfl (bi_geq (r := decide ((kd : Int) ≥ 1)) rfl)) (qM (.bool (decide ((kd : Int) ≥ 1))) rfl rfl ?_)))
 refine WL.want rfl (congrArg Value.bool (decide_eq_true (by omega))) ?_
 refine qV rfl (R.fieldAddr (off' := 0) rfl underlying70 rfl sizeOf68 rfl rfl) ?_
 refine WL.want rfl (congrArg Value.bool (decide_eq_true (by omega))) ?_
 refine qV rfl (R.load1 rfl isAgg68 (h_3.ok _ M0) Sg.h) ?_
 refine WL.want rfl (congrArg Value.bool (decide_eq_true (by omega))) ?_
 refine qV rfl (R.bin rfl rfl (bi_leq (r := decide ((kd : Int) ≤ 3)) rfl)) (qV rfl (R.pickT (v := (.bool (decide ((kd : Int) ≤ 3)))) (congrArg Value.bool (decide_eq_true (by omega))) rfl) (qA (.bool (decide ((kd : Int) ≤ 3))) rfl rfl ?_))
 refine WL.nil (thn_n (WP.seq ?_))
 refine WP.drawT (SL w.heap.size [.blk b_1 .nw 70 [(1, [(vi kd)]), (32, val.map vu8), (1, [(vi pg)]), (128, gr.map vu8), (1, [(vu64 pc)]), (8, rg.map vu64), (1, [(.bool run)])]]) (.q 0 (.q 1 (.q 2 (.q 3 (.s 4 (.q 5 (.q 6 (.q 7 (.q 8 (.q 9 (.q 10 (.q 11 (.q 12 (.q 13 (.q 14 (.q 15 (.q 16 (.q 17 (.q 18 (.q 19 (.s 20 (.q 21 (.q 22 .nil))))))))))))))))))))))) (by kernel_rfl) (by kernel_rfl) rfl (by kernel_rfl) (fun w_4 hc_6 => (SL.cons ((h_3.same hc_6).ok _ M0) (SL.nil _ _))) (fun w_4 hc_6 => ?_)
 have h_5 := h_3.same hc_6
 refine qT rfl rfl (fun wq hS => R.move (v := (.bool (decide ((kd : Int) ≤ 3)))) rfl) ?_
 refine qT rfl rfl (fun wq hS => R.move (v := (.bool (decide ((kd : Int) ≤ 3)))) rfl) ?_
 refine WT.skipQ rfl rfl rfl (boolNe (v := .bool false) (congrArg Value.bool (decide_eq_false (by omega))) (by decide)) rfl rfl ?_
 refine WT.skipQ rfl rfl rfl (boolNe (v := .bool false) (congrArg Value.bool (decide_eq_false (by omega))) (by decide)) rfl rfl ?_
 refine WT.s ?_
 refine Op1.skip rfl rfl rfl (boolNe (v := .bool false) (congrArg Value.bool (decide_eq_false (by omega))) (by decide)) rfl rfl ?_
 refine WT.skipQ rfl rfl rfl (boolNe (v := .bool false) (congrArg Value.bool (decide_eq_false (by omega))) (by decide)) rfl rfl ?_
 refine qT rfl rfl (fun wq hS => R.pickF (v := (.bool false)) (congrArg Value.bool (decide_eq_false (by omega))) rfl) ?_
 refine qT rfl rfl (fun wq hS => R.move (v := (.bool false)) rfl) ?_
 refine WT.skipQ rfl rfl rfl (boolNe (v := .bool false) rfl (by decide)) rfl rfl ?_
 refine WT.skipQ rfl rfl rfl (boolNe (v := .bool false) rfl (by decide)) rfl rfl ?_
 refine WT.skipQ rfl rfl rfl (boolNe (v := .bool false) rfl (by decide)) rfl rfl ?_
 refine qT rfl rfl (fun wq hS => R.pickF (v := (.bool false)) rfl rfl) ?_
 refine qT rfl rfl (fun wq hS => R.move (v := (.bool false)) rfl) ?_
 refine WT.skipQ rfl rfl rfl (boolNe (v := .bool false) rfl (by decide)) rfl rfl ?_
 refine WT.skipQ rfl rfl rfl (boolNe (v := .bool false) rfl (by decide)) rfl rfl ?_
 refine WT.skipQ rfl rfl rfl (boolNe (v := .bool false) rfl (by decide)) rfl rfl ?_
 refine qT rfl rfl (fun wq hS => R.pickF (v := (.bool false)) rfl rfl) ?_
 refine qT rfl rfl (fun wq hS => R.move (v := (.bool false)) rfl) ?_
 refine WT.skipQ rfl rfl rfl (boolNe (v := .bool false) rfl (by decide)) rfl rfl ?_
 refine WT.skipQ rfl rfl rfl (boolNe (v := .bool false) rfl (by decide)) rfl rfl ?_
 refine WT.s ?_
 refine Op1.skip rfl rfl rfl (boolNe (v := .bool false) rfl (by decide)) rfl rfl ?_
 refine qT rfl rfl (fun wq hS => R.pickF (v := (.bool false)) rfl rfl) ?_
 refine qT rfl rfl (fun wq hS => R.assign (v := (.bool false)) rfl) ?_
 refine WT.nil (thn_n (WP.ret ?_))
 refine ret_of results35 (RV.tmp (v := (.bool false)) rfl RV.nil) ?_
 exact ⟨rfl, h_5.chgS⟩

theorem c_MayGR_x (kd : Int) (hbk : -9223372036854775808 ≤ kd ∧ kd < 9223372036854775808) (val : List UInt8) (hvl : val.length = 32) (pg : Int) (hbp : -9223372036854775808 ≤ pg ∧ pg < 9223372036854775808) (gr : List UInt8) (hgr : gr.length = 128) (pc : UInt64) (rg : List UInt64) (hrg : rg.length = 8) (run : Bool) (h1 : ¬ kd = 1) (h2 : ¬ kd = 2) (h3 : ¬ kd = 3) (w : World) :
  Cs Tryz.prog 36 [(.agg ⟨flat [(1, [(vi kd)]), (32, val.map vu8), (1, [(vi pg)]), (128, gr.map vu8), (1, [(vu64 pc)]), (8, rg.map vu64), (1, [(.bool run)])]⟩)].toArray w (fun v w1 => v = (.bool false) ∧ Chg w w1 []) := by
 refine Cs.of (n := 61) (args := [(.agg ⟨flat [(1, [(vi kd)]), (32, val.map vu8), (1, [(vi pg)]), (128, gr.map vu8), (1, [(vu64 pc)]), (8, rg.map vu64), (1, [(.bool run)])]⟩)]) Tryz.func36 rfl rfl rfl ?_
 have h_0 := HP.init w
 refine WP.seq (WP.reg ?_)
 refine WL.box (segs := [(1, [(vi kd)]), (32, val.map vu8), (1, [(vi pg)]), (128, gr.map vu8), (1, [(vu64 pc)]), (8, rg.map vu64), (1, [(.bool run)])]) h_0 rfl rfl (sC sV (sC (s8 hvl) (sC sV (sC (s8 hgr) (sC sV (sC (SOk.u64 hrg) (sC sV sN))))))) rfl (fun b_1 w_2 h_3 => ?_)
 refine qA (.bool false) rfl rfl ?_
 refine WL.nil (thn_n (WP.seq (WP.seq (WP.reg ?_))))
 refine qV rfl (R.fieldAddr (off' := 0) rfl underlying70 rfl sizeOf68 rfl rfl) (qV rfl (R.load1 rfl isAgg68 (h_3.ok _ M0) Sg.h) ?_)
 refine WL.nil (thn_n (WP.block (WP.seq (WP.reg ?_))))
 refine qV rfl (R.bin rfl rfl (bi_eql (r := decide ((kd : Int) = 1)) rfl)) (qA (.bool (decide ((kd : Int) = 1))) rfl rfl ?_)
 refine WL.nil (thn_n ?_)
 refine WP.condF (congrArg Value.bool (decide_eq_false h1)) ?_
 refine WP.seq (WP.reg ?_)
 refine qV rfl (R.bin rfl rfl (bi_eql (r := decide ((kd : Int) = 2)) rfl)) (qA (.bool (decide ((kd : Int) = 2))) rfl rfl ?_)
 refine WL.nil (thn_n ?_)
 refine WP.condF (congrArg Value.bool (decide_eq_false h2)) ?_
 refine WP.seq (WP.reg ?_)
 refine qV rfl (R.bin rfl rfl (bi_eql (r := decide ((kd : Int) = 3)) rfl)) (qA (.bool (decide ((kd : Int) = 3))) rfl rfl ?_)
 refine WL.nil (thn_n ?_)
 refine WP.condF (congrArg Value.bool (decide_eq_false h3)) ?_
 refine WP.skip (inb_n (thn_n (WP.seq (WP.reg ?_))))
 refine qA (.bool false) rfl rfl ?_
 refine WL.nil (thn_n (WP.ret ?_))
 refine ret_of results36 (RV.tmp (v := (.bool false)) rfl RV.nil) ?_
 exact ⟨rfl, h_3.chgS⟩

theorem c_MayA (kd : Int) (hbk : -9223372036854775808 ≤ kd ∧ kd < 9223372036854775808) (val : List UInt8) (hvl : val.length = 32) (pg : Int) (hbp : -9223372036854775808 ≤ pg ∧ pg < 9223372036854775808) (gr : List UInt8) (hgr : gr.length = 128) (pc : UInt64) (rg : List UInt64) (hrg : rg.length = 8) (run : Bool) (w : World) : Cs Tryz.prog 35 [(.agg ⟨flat [(1, [(vi kd)]), (32, val.map vu8), (1, [(vi pg)]), (128, gr.map vu8), (1, [(vu64 pc)]), (8, rg.map vu64), (1, [(.bool run)])]⟩)].toArray w (fun v w1 => v = .bool (mayB kd val pg gr pc rg run) ∧ Chg w w1 []) := by
 by_cases k1 : kd = 1
 ·subst k1; exact c_MayG_1 val hvl pg hbp gr hgr pc rg hrg run w
 by_cases k2 : kd = 2
 ·subst k2; exact c_MayG_2 val hvl pg hbp gr hgr pc rg hrg run w
 by_cases k3 : kd = 3
 ·subst k3; exact c_MayG_3 val hvl pg hbp gr hgr pc rg hrg run w
 have hf : mayB kd val pg gr pc rg run = false := decide_eq_false (by
  unfold mayZ; rintro (hm | hm | hm)
  ·exact k1 hm.1
  ·exact k2 hm.1
  ·exact k3 hm.1)
 rw [hf]
 by_cases hn : kd < 1
 ·exact c_MayG_lo kd hbk val hvl pg hbp gr hgr pc rg hrg run hn w
 ·exact c_MayG_hi kd hbk val hvl pg hbp gr hgr pc rg hrg run (by omega) w

theorem c_MayAR (kd : Int) (hbk : -9223372036854775808 ≤ kd ∧ kd < 9223372036854775808) (val : List UInt8) (hvl : val.length = 32) (pg : Int) (hbp : -9223372036854775808 ≤ pg ∧ pg < 9223372036854775808) (gr : List UInt8) (hgr : gr.length = 128) (pc : UInt64) (rg : List UInt64) (hrg : rg.length = 8) (run : Bool) (w : World) : Cs Tryz.prog 36 [(.agg ⟨flat [(1, [(vi kd)]), (32, val.map vu8), (1, [(vi pg)]), (128, gr.map vu8), (1, [(vu64 pc)]), (8, rg.map vu64), (1, [(.bool run)])]⟩)].toArray w (fun v w1 => v = .bool (mayB kd val pg gr pc rg run) ∧ Chg w w1 []) := by
 by_cases k1 : kd = 1
 ·subst k1; exact c_MayGR_1 val hvl pg hbp gr hgr pc rg hrg run w
 by_cases k2 : kd = 2
 ·subst k2; exact c_MayGR_2 val hvl pg hbp gr hgr pc rg hrg run w
 by_cases k3 : kd = 3
 ·subst k3; exact c_MayGR_3 val hvl pg hbp gr hgr pc rg hrg run w
 have hf : mayB kd val pg gr pc rg run = false := decide_eq_false (by
  unfold mayZ; rintro (hm | hm | hm)
  ·exact k1 hm.1
  ·exact k2 hm.1
  ·exact k3 hm.1)
 rw [hf]
 exact c_MayGR_x kd hbk val hvl pg hbp gr hgr pc rg hrg run k1 k2 k3 w
end Go.Proofs.YteclkcpdclimnaaGreat

namespace Go.Vc
open Go.RowKit
def Taken (P : Program) : List Nat → World → World → Prop
  | [], w, w' => w' = w
  | D :: ds, w, w' => ∃ w1, (Instr.takeDeferred D).run P w = .ok [] w1 ∧ Taken P ds w1 w'
def retM (P : Program) (fn : Func) (R : Value → World → Prop) : Exit → Fr → World → Prop
  | .normal, F, w | .ret, F, w => ∃ w', Taken P F.ds w w' ∧ ∃ v, (∀ tmps : Array Value, (∀ t, tmps.getD t undef = F t) → (results fn tmps).run P w' = .ok v w') ∧ R v w'
  | _, _, _ => False
section
variable {P : Program} {n : Nat} {Q : Exit → Fr → World → Prop} {F : Fr} {w w0 : World} {L : List Ent}
end
end Go.Vc
namespace Go.Vc
open Go.RowKit
section
variable {P : Program} {F : Fr} {w : World} {ty : TypeId} {pos : String} {after : Array Edge} {dst : Option Tmp} {g : Option (Nat × Bool)}
theorem eq_nilF {T : TypeId} {ps rs : Array TypeId} {v : Bool} {f : Fn} {fi ca : Array Value} (hT : P.underlying T = some (.func ps rs v)) (d : Nat) : (Op.equalIn (d + 1) T (.func f fi ca) .nilFunc).run P w = .ok false w := by
  unfold Op.equalIn
  rw [Sem.run_bind, run_underlying hT]
  rfl
theorem R.eqNilF {T T' : TypeId} {x y : Operand} {ps rs : Array TypeId} {v : Bool} {f : Fn} {fi ca : Array Value} (hx : evO F x = .func f fi ca) (hy : evO F y = .nilFunc) (hT : P.underlying T = some (.func ps rs v)) :
    (execOp (evO F) ⟨dst, .binOp .eql T x y T', ty, pos, after, g⟩).run P w = .ok (.value (.bool false)) w := R.eqOf hx hy rfl (eq_nilF hT) rfl
end
end Go.Vc

namespace Go.Vc
open Go.RowKit Go.ChangeShapes Go.WideShapes Go.ChangeAt
section
variable {P : Program} {w : World} {t : TypeId} {cs : List Value}
theorem Tr.slG {e : TypeId} {s : Nat} (hu : P.underlying t = some (.slice e)) (hce : P.cellsOf e = s) (hs : 1 ≤ s) (h : Tr P w t cs) :
    ∃ a n cap, ∃ els : List (List Value), cs = [.slice a n cap] ∧ els.length = n ∧ n ≤ cap ∧ cap ≤ maxLen ∧ (∀ y ∈ els, y.length = s ∧ Tr P w e y) ∧ (Ent.view a els.flatten).ok w.heap.size w := by
  rcases Tr.nilOrSlice hu h with rfl | ⟨a, len, cap, rfl, h1, h2, h3⟩
  · exact ⟨none, 0, 0, [], rfl, rfl, Nat.le_refl _, by simp [maxLen], (by intro y hy; cases hy), ⟨View.nil _ _, fun ad h => by cases h⟩⟩
  · have key : ∀ k, k ≤ len → ∃ els : List (List Value), els.length = k ∧ els.flatten.length = s * k ∧ (∀ y ∈ els, y.length = s ∧ Tr P w e y) ∧ View w (some a) els.flatten := by
      intro k
      induction k with
      | zero => intro _; exact ⟨[], rfl, rfl, (by intro y hy; cases hy), View.nil _ _⟩
      | succ k ih =>
        intro hk
        obtain ⟨els, hl, hf, he, hv⟩ := ih (by omega)
        obtain ⟨ys, hys, ht⟩ := h3 k (by omega)
        rw [hce] at hys
        obtain ⟨hyl, hyc⟩ := cells?_all hys
        refine ⟨els ++ [ys], by simp [hl], by simp [hf, hyl, Nat.mul_succ], fun y hy => ?_, fun i v hv' => ?_⟩
        · rcases List.mem_append.1 hy with hy | hy
          · exact he y hy
          · rw [List.mem_singleton] at hy; subst hy; exact ⟨hyl, ht⟩
        · rw [List.flatten_append] at hv'
          by_cases hi : i < els.flatten.length
          · refine hv i v ?_
            rw [List.getElem?_append_left hi] at hv'
            exact hv'
          · rw [List.getElem?_append_right (by omega)] at hv'
            have h4 := hyc (i - els.flatten.length) v (by rw [List.flatten_cons, List.flatten_nil, List.append_nil] at hv'; exact hv')
            rw [add_add, hf, Nat.mul_comm k, show s * k + (i - s * k) = i by omega] at h4
            exact ⟨a, rfl, h4⟩
    obtain ⟨els, hl, hf, he, hv⟩ := key len (Nat.le_refl _)
    refine ⟨some a, len, cap, els, rfl, hl, h1, h2, he, ⟨hv, fun ad ha hne => ?_⟩⟩
    cases ha
    cases hx : els.flatten with
    | nil => rw [hx] at hne; simp at hne
    | cons x l =>
      obtain ⟨ad', e, hc⟩ := hv 0 x (by rw [hx]; rfl)
      cases e
      have := block_lt_of_cell hc
      rwa [Addr.add_block] at this
end
theorem els_of {α : Type} {f : α → List Value} {p : α → Prop} : ∀ {els : List (List Value)}, (∀ y ∈ els, ∃ r, y = f r ∧ p r) → ∃ rs : List α, els = rs.map f ∧ ∀ r ∈ rs, p r
  | [], _ => ⟨[], rfl, fun r h => by cases h⟩
  | y :: els, h => by
    obtain ⟨r, hr, hp⟩ := h y (List.mem_cons_self ..)
    obtain ⟨rs, hrs, hps⟩ := els_of (els := els) fun z hz => h z (List.mem_cons_of_mem _ hz)
    refine ⟨r :: rs, by rw [hr, hrs]; rfl, fun q hq => ?_⟩
    rcases List.mem_cons.1 hq with rfl | hq
    · exact hp
    · exact hps q hq
theorem flat_len {α : Type} {f : α → List Value} {s : Nat} : ∀ {rs : List α}, (∀ r ∈ rs, (f r).length = s) → (rs.map f).flatten.length = rs.length * s
  | [], _ => by simp
  | r :: rs, h => by
    rw [List.map_cons, List.flatten_cons, List.length_append, flat_len fun q hq => h q (List.mem_cons_of_mem _ hq), h r (List.mem_cons_self ..), List.length_cons, Nat.succ_mul]; omega
theorem flat_at {α : Type} {f : α → List Value} {s : Nat} {z : α} : ∀ {rs : List α} {k : Nat}, (∀ r ∈ rs, (f r).length = s) → k < rs.length → ((rs.map f).flatten.drop (k * s)).take s = f (rs.getD k z)
  | r :: rs, 0, h, _ => by
    have := h r (List.mem_cons_self ..)
    rw [Nat.zero_mul, List.drop_zero, List.map_cons, List.flatten_cons, List.take_append_of_le_length (by omega), List.take_of_length_le (by omega)]; rfl
  | r :: rs, k + 1, h, hk => by
    have h1 := h r (List.mem_cons_self ..)
    have h2 := flat_at (z := z) (rs := rs) (k := k) (fun q hq => h q (List.mem_cons_of_mem _ hq)) (by simpa using hk)
    rw [List.map_cons, List.flatten_cons, show (k + 1) * s = (f r).length + k * s by rw [h1, Nat.succ_mul]; omega, ← List.drop_drop, List.drop_left]
    simpa using h2
theorem getD_mem {α : Type} {z : α} {rs : List α} {k : Nat} (h : k < rs.length) : rs.getD k z ∈ rs := by
  have e : rs.getD k z = rs[k] := by simp [h]
  rw [e]; exact List.getElem_mem h
end Go.Vc

namespace Go.Orc
open Go.Vc Go.RowKit
def dr (df : List UInt8) (i : Nat) : List UInt8 := (df.drop (i * 32)).take 32
def Unl (df : List UInt8) (n : Nat) (d : List UInt8) : Prop := (∀ i, i < n → (∀ k, k < i → dr df k ≠ dr df i) ∧ df.getD (i * 32 + 31) 0 ≠ 1 ∧ dr df i ≠ d) ∧ d.getD 31 0 ≠ 1
def Apt (df : List UInt8) (n : Nat) : Prop := ∀ i, i < n → (∀ k, k < i → dr df k ≠ dr df i) ∧ df.getD (i * 32 + 31) 0 ≠ 1
section
variable {df : List UInt8} {n : Nat} {d : List UInt8}
def DL (df : List UInt8) (n u : Nat) (l : Lg) : Prop := u = l.length ∧ ∀ i, i < l.length → (l.getD i ((0, [], 0, []), [])).2 = drawF df n i
end
end Go.Orc
namespace Go.Vc
open Go.RowKit
section
variable {P : Program} {F : Fr} {w : World} {ty : TypeId} {pos : String} {after : Array Edge} {dst : Option Tmp} {g : Option (Nat × Bool)}
end
end Go.Vc
namespace Go.Vc
open Go.RowKit
section
variable {P : Program} {F : Fr} {w : World} {ty : TypeId} {pos : String} {after : Array Edge} {dst : Option Tmp} {g : Option (Nat × Bool)}
end
end Go.Vc
