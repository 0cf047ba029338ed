/- Rules for walks and contracts of the functions that the law reaches, one behind the other. Conditions: none beyond what each theorem states. -/
import Derived.Test.YteclkcpdclimnaaZ2OracleBridge
set_option linter.unusedVariables false
set_option linter.unusedSimpArgs false
set_option linter.unusedSectionVars false
namespace Go.Orc
open Go.Vc Go.RowKit
def i2u8 (x : Int) : UInt8 := UInt8.ofNat x.toNat
theorem i2u8_w {x : Int} (h : 0 ≤ x) : IntKind.u8.wrap x = ((i2u8 x).toNat : Int) := by
  obtain ⟨n, rfl⟩ := Int.eq_ofNat_of_zero_le h
  rw [w8_nat, i2u8]; rfl
def cT (q : Qn) : List UInt8 := ([i2u8 q.1] ++ q.2.1) ++ [i2u8 q.2.2.1] ++ q.2.2.2
theorem cT_len {q : Qn} {n : Nat} (hq : okQ q) (h : q.2.2.2.length = n) : (cT q).length = 34 + n := by
  obtain ⟨k, key, d, data⟩ := q
  have := hq.1
  simp [cT] at *
  omega
def cF (q : Qn) : List UInt8 := if q.1 = 1 then Go.Sh.sumL (cT q) else Go.Sh.tagL q.2.1 (cT q)
theorem cF_len (q : Qn) : (cF q).length = 32 := by
  unfold cF; split
  · exact Go.Sh.sumL_len _
  · exact Go.Sh.tagL_len _ _
def mF (id : Bool) (df : List UInt8) (dn u : Nat) (q : Qn) : List UInt8 := bif id then drawF df dn u else cF q
theorem mF_len {id : Bool} {df : List UInt8} {dn u : Nat} {q : Qn} (h : df.length = 32 * dn) : (mF id df dn u q).length = 32 := by
  cases id
  · exact cF_len q
  · exact drawF_len h
def anD (id : Bool) (df : List UInt8) (dn u : Nat) (l : Lg) (q : Qn) : List UInt8 := match fdq q l 0 with
  | some i => (l.getD i (q, [])).2
  | none => mF id df dn u q
def anU (id : Bool) (u : Nat) (l : Lg) (q : Qn) : Nat := match fdq q l 0 with
  | some _ => u
  | none => bif id then u + 1 else u
def anL (id : Bool) (df : List UInt8) (dn u : Nat) (l : Lg) (q : Qn) : Lg := match fdq q l 0 with
  | some _ => l
  | none => l ++ [(q, mF id df dn u q)]
section
variable {id : Bool} {df : List UInt8} {dn u : Nat} {l : Lg} {q : Qn} {i : Nat}
theorem anD_hit (h : fdq q l 0 = some i) : anD id df dn u l q = (l.getD i (q, [])).2 := by rw [anD, h]
theorem anU_hit (h : fdq q l 0 = some i) : anU id u l q = u := by rw [anU, h]
theorem anL_hit (h : fdq q l 0 = some i) : anL id df dn u l q = l := by rw [anL, h]
theorem anD_miss (h : fdq q l 0 = none) : anD id df dn u l q = mF id df dn u q := by rw [anD, h]
theorem anU_miss (h : fdq q l 0 = none) : anU id u l q = bif id then u + 1 else u := by rw [anU, h]
theorem anL_miss (h : fdq q l 0 = none) : anL id df dn u l q = l ++ [(q, mF id df dn u q)] := by rw [anL, h]
theorem anU_le (id : Bool) (u : Nat) (l : Lg) (q : Qn) : anU id u l q ≤ u + 1 := by
  rw [anU]; split
  · omega
  · cases id
    · exact Nat.le_succ u
    · exact Nat.le_refl _
theorem anL_le (id : Bool) (df : List UInt8) (dn u : Nat) (l : Lg) (q : Qn) : (anL id df dn u l q).length ≤ l.length + 1 := by
  rw [anL]; split
  · omega
  · rw [snoc_len]; exact Nat.le_refl _
theorem anD_len (h : df.length = 32 * dn) (hl : ok32 l) : (anD id df dn u l q).length = 32 := by
  rw [anD]
  split
  · rename_i i hi
    have := fdq_lt hi
    have hlt : i < l.length := by omega
    have e : l.getD i (q, []) = l[i] := by simp [hlt]
    rw [e]; exact hl _ (List.getElem_mem hlt)
  · exact mF_len h
theorem anL_32 (h : df.length = 32 * dn) (hl : ok32 l) : ok32 (anL id df dn u l q) := by
  rw [anL]
  split
  · exact hl
  · intro p hp
    rcases List.mem_append.1 hp with hp | hp
    · exact hl p hp
    · rw [List.mem_singleton] at hp; subst hp; exact mF_len h
end
end Go.Orc
namespace Go.Orc
open Go.Vc Go.RowKit
theorem okN : ok32 ([] : Lg) := fun p hp => by cases hp
def sT (df : List UInt8) (dn : Nat) (key : List UInt8) (dm : Int) (data : List UInt8) (u : Nat) (lg : Lg) : Nat → Nat × Lg × List UInt8
  | 0 => (u, lg, [])
  | k + 1 => (anU true (sT df dn key dm data u lg k).1 (sT df dn key dm data u lg k).2.1 (4, key, dm, data ++ leN 8 k), anL true df dn (sT df dn key dm data u lg k).1 (sT df dn key dm data u lg k).2.1 (4, key, dm, data ++ leN 8 k), (sT df dn key dm data u lg k).2.2 ++ anD true df dn (sT df dn key dm data u lg k).1 (sT df dn key dm data u lg k).2.1 (4, key, dm, data ++ leN 8 k))
section
variable {df : List UInt8} {dn : Nat} {key : List UInt8} {dm : Int} {data : List UInt8} {u : Nat} {lg : Lg}
end
end Go.Orc

namespace Go.Proofs.Yteclkcpdclimnaa
open Go.Proofs.Try
open Go.Vc Go.Orc Go.Sh Go.RowKit
set_option maxRecDepth 20000
theorem ce5 : Try.prog.cellsOf 5 = 1 := by kernel_rfl
theorem ce9 : Try.prog.cellsOf 9 = 1 := by kernel_rfl
theorem ce23 : Try.prog.cellsOf 23 = 32 := by kernel_rfl
theorem ce52 : Try.prog.cellsOf 52 = 1 := by kernel_rfl
theorem ce53 : Try.prog.cellsOf 53 = 1 := by kernel_rfl
theorem ce118 : Try.prog.cellsOf 118 = 35 := by kernel_rfl
theorem el61 : ElT Try.prog 61 64 67 104 := ElT.mk' underlying61 (i := Try.t64) rfl rfl rfl rfl rfl rfl
theorem kt118 : Try.prog.keyTypeAt 3 118 = true := by kernel_rfl
theorem ag118 : aggB Try.prog 118 = true := by unfold aggB; rw [underlying118]
theorem pl64 : ∀ fs, Try.prog.underlying 64 = some (.struct fs) → Places Try.prog fs [(0, 35), (35, 32)] := by
 intro fs h w; rw [underlying64] at h; cases h; simp
theorem pl118 : ∀ fs, Try.prog.underlying 118 = some (.struct fs) → Places Try.prog fs [(0, 1), (1, 32), (33, 1), (34, 1)] := by
 intro fs h w; rw [underlying118] at h; cases h; simp
theorem typQ (q : Qn) (h : okQ q) : Typ Try.prog 3 118 (kC q) := by
 obtain ⟨h0, h1, h2, h3⟩ := h
 have h : okQ q := ⟨h0, h1, h2, h3⟩
 exact (Typ.struct (h := 2) (r := [(1, [(vi q.1)]), (32, q.2.1.map vu8), (1, [(vi q.2.2.1)]), (1, [(.string (bstr q.2.2.2))])]) (cs := flat [(1, [(vi q.1)]), (32, q.2.1.map vu8), (1, [(vi q.2.2.1)]), (1, [(.string (bstr q.2.2.2))])]) underlying118 (TypF.cons (k := 1) rfl rfl (by decide) rfl (Typ.int underlying52 ce52 (WalkArith.wf_i64 (by omega))) (TypF.cons (k := 32) rfl rfl (by decide) (len_map h.1) (Typ.u8s underlying23 ce23 underlying5 ce5 h.1) (TypF.cons (k := 1) rfl rfl (by decide) rfl (Typ.int underlying53 ce53 (WalkArith.wf_i64 (by omega))) (TypF.cons (k := 1) rfl rfl (by decide) rfl (Typ.str underlying9 ce9 (by rw [bstr_size]; simp only [maxLen]; omega)) TypF.nil)))) rfl (((sC sV (sC (s8 h.1) (sC sV (sC sV sN))))).len.trans ce118.symm))

theorem c_oText (kd dm : Int) (key data : List UInt8) (qa : Option Addr) (qn qc : Nat) (hq : okQ (kd, key, dm, data)) (hdl : data.length = qn) (w : World) (hv : View w qa (data.map vu8)) :
  Cs Try.prog 49 [(.agg ⟨flat [(1, [(vi kd)]), (32, key.map vu8), (1, [(vi dm)]), (1, [(.slice qa qn qc)])]⟩)].toArray w (fun v w1 => ∃ a cap, v = .slice a (34 + qn) cap ∧ Chg w w1 [] ∧ Own w.heap.size w1 5 1 a (34 + qn) cap ((cT (kd, key, dm, data)).map vu8)) := by
 have hk1 : 1 ≤ kd ∧ kd ≤ 4 := hq.2.1
 have hd1 : 1 ≤ dm ∧ dm ≤ 16 := hq.2.2.1
 have hqn : data.length ≤ 1000000000 := hq.2.2.2
 refine Cs.of (n := 20) (args := [(.agg ⟨flat [(1, [(vi kd)]), (32, key.map vu8), (1, [(vi dm)]), (1, [(.slice qa qn qc)])]⟩)]) Try.func49 rfl rfl rfl ?_
 have h_0 := HP.init w
 have h_00 := h_0.old (View.arg hv) (fun f hf => by cases hf)
 refine WP.seq (WP.reg ?_)
 refine WL.box (segs := [(1, [(vi kd)]), (32, key.map vu8), (1, [(vi dm)]), (1, [(.slice qa qn qc)])]) h_00 rfl rfl (sC sV (sC (s8 hq.1) (sC sV (sC sV sN)))) rfl (fun b_1 w_2 h_3 => ?_)
 refine qA (.slice none 0 0) rfl rfl ?_
 refine WL.nil (thn_n (WP.seq ?_))
 refine WP.drawT (SL w.heap.size [.blk b_1 .nw 56 [(1, [(vi kd)]), (32, key.map vu8), (1, [(vi dm)]), (1, [(.slice qa qn qc)])], .view qa (data.map vu8)]) (.q 0 (.q 1 (.q 2 (.q 4 (.q 5 (.s 3 (.s 6 (.q 7 .nil)))))))) (by kernel_rfl) (by kernel_rfl) rfl (by kernel_rfl) (fun w_4 hc_6 => (SL.cons ((h_3.same hc_6).ok _ M0) (SL.cons ((h_3.same hc_6).ok _ M1) (SL.nil _ _)))) (fun w_4 hc_6 => ?_)
 have h_5 := h_3.same hc_6
 refine qT rfl rfl (fun wq hS => R.fieldAddr (off' := 0) rfl underlying56 rfl sizeOf52 rfl rfl) ?_
 refine qT rfl rfl (fun wq hS => R.load1 rfl isAgg52 (hS _ M0) Sg.h) ?_
 refine qT rfl rfl (fun wq hS => R.conv (b := ((i2u8 kd) : UInt8).toNat) rfl underlying52 underlying5 (i2u8_w (by omega))) ?_
 refine qT rfl rfl (fun wq hS => R.fieldAddr (off' := 1) rfl underlying56 rfl sizeOf23 rfl rfl) ?_
 refine qT rfl rfl (fun wq hS => R.sliceA (b := b_1) (off := 1) (off' := 1) (l := 0) (h := 32) rfl EvB.dflt EvB.dflt (by decide) (by decide) underlying23 sizeOf5 rfl) ?_
 refine WT.s (oN rfl ?_)
 refine WL.buildSl (vs := [(0, (vu8 (i2u8 kd)))]) (cs := ([i2u8 kd] : List UInt8).map vu8) h_5 underlying54 sizeOf5 (zv typeInfo5 rfl) rfl rfl (by kernel_rfl) rfl (one_u8 _) rfl rfl (fun b_7 w_8 h_9 => ?_)
 refine WL.nil ?_
 refine ⟨(N1_2 h_9.ok), ?_⟩
 refine WT.s (oN rfl ?_)
 have h_10 := HP.blkRow (m := 1) (s := 1) h_9 At.h rfl (by simp only [maxLen]; decide)
 refine WL.append (km := 33) (xs := ([i2u8 kd] : List UInt8).map vu8) (ys := key.map vu8) (zs := (([i2u8 kd] : List UInt8) ++ key).map vu8) h_10 rfl rfl el54 (viewB (h_10.ok _ M1) (Sg.t rfl Sg.h)) ((len_map hq.1).trans (Nat.mul_one _).symm) (one_u8 _) (by simp only [List.map_append, List.map_nil]) rfl (by omega) (by omega) (fun _ _ => At.h) rfl (fun a_11 c_12 w_13 h_14 => ?_)
 refine WL.nil ?_
 refine ⟨(N1_2 h_14.ok), ?_⟩
 refine qT rfl rfl (fun wq hS => R.assign (v := (.slice a_11 33 c_12)) rfl) ?_
 refine WT.nil (thn_n (WP.seq ?_))
 refine WP.drawT (SL w.heap.size [.blk b_1 .nw 56 [(1, [(vi kd)]), (32, key.map vu8), (1, [(vi dm)]), (1, [(.slice qa qn qc)])], .view qa (data.map vu8)]) (.q 0 (.q 1 (.q 2 (.q 3 (.q 6 (.q 7 (.s 4 (.s 5 (.s 8 (.q 9 .nil)))))))))) (by kernel_rfl) (by kernel_rfl) rfl (by kernel_rfl) (fun w_15 hc_17 => (SL.cons ((h_14.same hc_17).ok _ M1) (SL.cons ((h_14.same hc_17).ok _ M2) (SL.nil _ _)))) (fun w_15 hc_17 => ?_)
 have h_16 := h_14.same hc_17
 refine qT rfl rfl (fun wq hS => R.move (v := (.slice a_11 33 c_12)) rfl) ?_
 refine qT rfl rfl (fun wq hS => R.fieldAddr (off' := 33) rfl underlying56 rfl sizeOf53 rfl rfl) ?_
 refine qT rfl rfl (fun wq hS => R.load1 rfl isAgg53 (hS _ M0) (Sg.t rfl (Sg.t rfl Sg.h))) ?_
 refine qT rfl rfl (fun wq hS => R.conv (b := ((i2u8 dm) : UInt8).toNat) rfl underlying53 underlying5 (i2u8_w (by omega))) ?_
 refine qT rfl rfl (fun wq hS => R.fieldAddr (off' := 34) rfl underlying56 rfl sizeOf54 rfl rfl) ?_
 refine qT rfl rfl (fun wq hS => R.load1 rfl isAgg54 (hS _ M0) (Sg.t rfl (Sg.t rfl (Sg.t rfl Sg.h)))) ?_
 refine WT.s (oN rfl ?_)
 refine WL.buildSl (vs := [(0, (vu8 (i2u8 dm)))]) (cs := ([i2u8 dm] : List UInt8).map vu8) h_16 underlying54 sizeOf5 (zv typeInfo5 rfl) rfl rfl (by kernel_rfl) rfl (one_u8 _) rfl rfl (fun b_18 w_19 h_20 => ?_)
 refine WL.nil ?_
 refine ⟨(N2_3 h_20.ok), ?_⟩
 refine WT.s (oN rfl ?_)
 refine WL.append (km := 34) (xs := (([i2u8 kd] : List UInt8) ++ key).map vu8) (ys := ([i2u8 dm] : List UInt8).map vu8) (zs := ((([i2u8 kd] : List UInt8) ++ key) ++ ([i2u8 dm] : List UInt8)).map vu8) h_20 rfl rfl el54 (viewB (h_20.ok _ M0) Sg.h) ((len_map (rfl : List.length ([i2u8 dm] : List UInt8) = 1)).trans (Nat.mul_one _).symm) (one_u8 _) (by simp only [List.map_append, List.map_nil]) rfl (by omega) (by omega) (fun _ _ => Y1) rfl (fun a_21 c_22 w_23 h_24 => ?_)
 refine WL.nil ?_
 refine ⟨(N2_3 h_24.ok), ?_⟩
 refine WT.s (oN rfl ?_)
 refine WL.append (km := 34 + qn) (xs := ((([i2u8 kd] : List UInt8) ++ key) ++ ([i2u8 dm] : List UInt8)).map vu8) (ys := data.map vu8) (zs := (((([i2u8 kd] : List UInt8) ++ key) ++ ([i2u8 dm] : List UInt8)) ++ data).map vu8) h_24 rfl rfl el54 (viewV (h_24.ok _ M3)) ((len_map hdl).trans (Nat.mul_one _).symm) (one_u8 _) (by simp only [List.map_append, List.map_nil]) (by omega) (by omega) (by omega) (fun _ _ => Y1) rfl (fun a_25 c_26 w_27 h_28 => ?_)
 refine WL.nil ?_
 refine ⟨(N2_3 h_28.ok), ?_⟩
 refine qT rfl rfl (fun wq hS => R.assign (v := (.slice a_25 (34 + qn) c_26)) rfl) ?_
 refine WT.nil (thn_n (WP.ret ?_))
 refine ret_of results49 (RV.tmp (v := (.slice a_25 (34 + qn) c_26)) rfl RV.nil) ?_
 exact ⟨_, _, by first | rfl | exact congrArg (fun n => Value.slice _ n _) (by omega), h_28.chgS, by first | exact h_28.ok _ M1 | (have hx := h_28.own M1; rwa [show 34 + qn = 34 + qn by omega] at hx)⟩

theorem c_oCl (kd dm : Int) (key data : List UInt8) (qa : Option Addr) (qn qc : Nat) (hq : okQ (kd, key, dm, data)) (hdl : data.length = qn) (bq : Nat) (w : World) (hv : View w qa (data.map vu8)) (hcb : (Ent.blk bq .ro 56 [(1, [(vi kd)]), (32, key.map vu8), (1, [(vi dm)]), (1, [(.slice qa qn qc)])]).ok w.heap.size w) :
  Cs Try.prog 47 [(.pointer (some ⟨bq, 0, none⟩))].toArray w (fun v w1 => v = (.agg ⟨(cF (kd, key, dm, data)).map vu8⟩) ∧ Chg w w1 []) := by
 have hk1 : 1 ≤ kd ∧ kd ≤ 4 := hq.2.1
 have hd1 : 1 ≤ dm ∧ dm ≤ 16 := hq.2.2.1
 have hqn : data.length ≤ 1000000000 := hq.2.2.2
 refine Cs.of (n := 13) (args := [(pO bq 0)]) Try.func47 rfl rfl rfl ?_
 have h_0 := HP.init w
 have h_01 := h_0.oldV (View.arg hv) rfl (by simp [Ent.mut])
 have h_00 := h_01.oldV hcb rfl (by simp [Ent.mut])
 refine WP.seq (WP.reg ?_)
 refine WL.alloc (segs := [(32, (zB 32).map vu8)]) h_00 (zv typeInfo23 rfl) rfl (sC (s8 lr) sN) rfl (fun b_1 w_2 h_3 => ?_)
 refine WL.nil (thn_n (WP.seq (WP.seq (WP.reg ?_))))
 refine qV rfl (R.fieldAddr (off' := 0) rfl underlying56 rfl sizeOf52 rfl rfl) (qV rfl (R.load1 rfl isAgg52 (h_3.ok _ M1) Sg.h) (qV rfl (R.bin rfl rfl (bi_eql (r := decide ((kd : Int) = 1)) rfl)) ?_))
 refine WL.nil (thn_n ?_)
 refine WP.cond (b := decide ((kd : Int) = 1)) rfl (fun c_4 => ?_) (fun c_4 => ?_)
 ·have p_5 := of_decide_eq_true c_4
  refine WP.seq (WP.reg ?_)
  refine qV rfl (R.loadA [] [(1, [(vi kd)]), (32, key.map vu8), (1, [(vi dm)]), (1, [(.slice qa qn qc)])] [] rfl isAgg56 sizeOf56 (h_3.ok _ M1) rfl rfl rfl rfl) ?_
  refine WL.call Try.call49 rfl rfl (c_oText kd dm key data qa qn qc hq hdl _ (viewV (h_3.ok _ M2))) rfl ?_
  rintro _ w_8 ⟨a_6, cap_7, rfl, hc_9, ho_10⟩
  have h_11 := h_3.gotRow hc_9 ho_10
  refine WL.call Try.call48 rfl rfl (c_Sum a_6 (34 + qn) cap_7 (cT (kd, key, dm, data)) (cT_len hq hdl) (by omega) (h_11.own M0).2.2.1 _ (ownView (h_11.ok _ M0))) rfl ?_
  rintro _ w_13 ⟨rfl, hc_12⟩
  have h_14 := h_11.same hc_12
  refine WL.storeA [] [(32, (zB 32).map vu8)] [(32, (sumL (cT (kd, key, dm, data))).map vu8)] [] h_14 rfl rfl sizeOf23 Y1 (by decide) rfl rfl rfl rfl rfl rfl (sC (s8 (sumL_len _)) sN) (fun w_15 h_16 => ?_)
  refine WL.nil (thn_n (WP.ret (thn_r ?_)))
  refine ret_of results47 (RV.cell rfl (h_16.loadA (cs := (sumL (cT (kd, key, dm, data))).map vu8) isAgg23 sizeOf23 M1 rfl rfl) RV.nil) ?_
  exact ⟨by rw [cF, if_pos p_5]; rfl, h_16.chgS⟩
 ·have p_17 := of_decide_eq_false c_4
  refine WP.skip (thn_n (WP.seq ?_))
  refine WP.drawZ 5 (SL w.heap.size [.blk b_1 .nw 23 [(32, (zB 32).map vu8)], .blk bq .ro 56 [(1, [(vi kd)]), (32, key.map vu8), (1, [(vi dm)]), (1, [(.slice qa qn qc)])], .view qa (data.map vu8)]) (.q 0 (.q 1 (.q 2 (.s 3 (.s 4 (.s 5 .nil)))))) (by kernel_rfl) (by kernel_rfl) rfl (by kernel_rfl) (fun w_18 hc_20 => (SL.cons ((h_3.same hc_20).ok _ M0) (SL.cons ((h_3.same hc_20).ok _ M1) (SL.cons ((h_3.same hc_20).ok _ M2) (SL.nil _ _))))) (fun w_18 hc_20 => ?_)
  have h_19 := h_3.same hc_20
  refine ZT.q rfl (Wn.no rfl) rfl rfl (fun wq hS => R.fieldAddr (off' := 1) rfl underlying56 rfl sizeOf23 rfl rfl) ?_
  refine ZT.q rfl (Wn.no rfl) rfl rfl (fun wq hS => R.sliceA (b := bq) (off := 1) (off' := 1) (l := 0) (h := 32) rfl EvB.dflt EvB.dflt (by decide) (by decide) underlying23 sizeOf5 rfl) ?_
  refine ZT.q rfl (Wn.no rfl) rfl rfl (fun wq hS => R.loadA [] [(1, [(vi kd)]), (32, key.map vu8), (1, [(vi dm)]), (1, [(.slice qa qn qc)])] [] rfl isAgg56 sizeOf56 (hS _ M1) rfl rfl rfl rfl) ?_
  refine ZT.s ?_
  refine OpZ.one rfl (Wn.no rfl) ?_
  refine WL.call Try.call49 rfl rfl (c_oText kd dm key data qa qn qc hq hdl _ (viewV (h_19.ok _ M2))) rfl ?_
  rintro _ w_23 ⟨a_21, cap_22, rfl, hc_24, ho_25⟩
  have h_26 := h_19.gotRow hc_24 ho_25
  refine WL.nil ?_
  refine ⟨(N1_2_3 h_26.ok), ?_⟩
  refine ZT.s ?_
  refine OpZ.one rfl (Wn.no rfl) ?_
  refine WL.call Try.call50 rfl rfl (c_Tag (some ⟨bq, 1, none⟩) 32 32 key hq.1 (by decide) (by decide) a_21 (34 + qn) cap_22 (cT (kd, key, dm, data)) (cT_len hq hdl) (h_26.own M0).2.2.1 (by omega) _ (viewB (h_26.ok _ M2) (Sg.t rfl Sg.h)) (ownView (h_26.ok _ M0))) rfl ?_
  rintro _ w_28 ⟨rfl, hc_27⟩
  have h_29 := h_26.same hc_27
  refine WL.nil ?_
  refine ⟨(N1_2_3 h_29.ok), ?_⟩
  refine ZT.s ?_
  refine OpZ.last rfl (Wn.no rfl) ?_
  refine WL.storeA [] [(32, (zB 32).map vu8)] [(32, (tagL key (cT (kd, key, dm, data))).map vu8)] [] h_29 rfl rfl sizeOf23 Y1 (by decide) rfl rfl rfl rfl rfl rfl (sC (s8 (tagL_len _ _)) sN) (fun w_30 h_31 => ?_)
  refine WL.nil (ZT.nil (thn_n (WP.ret ?_)))
  refine ret_of results47 (RV.cell rfl (h_31.loadA (cs := (tagL key (cT (kd, key, dm, data))).map vu8) isAgg23 sizeOf23 M1 rfl rfl) RV.nil) ?_
  exact ⟨by rw [cF, if_neg p_17]; rfl, h_31.chgS⟩

theorem c_ans_hit {w00 : World} {L : List Ent} (id : Bool) (ob mp : Nat) (ms df : List UInt8) (hms : ms.length = 32) (da : Option Addr) (dn dc u : Nat) (hdf : df.length = 32 * dn) (la : Option Addr) (lc : Nat) (lx : List Value) (lg : Lg) (hu : u ≤ 1000000) (hlg : lg.length ≤ 1000000) (kd dm : Int) (key data : List UInt8) (qa : Option Addr) (qn qc : Nat) (hq : okQ (kd, key, dm, data)) (hdl : data.length = qn) (cv : Value) (i : Nat) (hfd : fdq (kd, key, dm, data) lg 0 = some i) (w : World) (h_0 : HP w00 w (Ent.blk ob .nw 90 [(1, [(.bool id)]), (32, ms.map vu8), (1, [(.slice da dn dc)]), (1, [(vi ((u : Nat) : Int))]), (1, [(.map (some mp))]), (1, [(.slice la lg.length lc)])] :: Ent.row la lg.length lc 64 67 lx :: Ent.obj mp .nw (.map (mArr lg) lg.length) :: Ent.pin (sblks lx) (fun w => Lgs w lx lg) :: Ent.view da (df.map vu8) :: Ent.view qa (data.map vu8) :: L)) :
  Cs Try.prog 46 [(.pointer (some ⟨ob, 0, none⟩)), (.agg ⟨flat [(1, [(vi kd)]), (32, key.map vu8), (1, [(vi dm)]), (1, [(.slice qa qn qc)])]⟩), cv].toArray w (fun v w1 => ∃ la' lc' lx', v = (.agg ⟨(anD id df dn u lg (kd, key, dm, data)).map vu8⟩) ∧ HP w00 w1 (Ent.blk ob .nw 90 [(1, [(.bool id)]), (32, ms.map vu8), (1, [(.slice da dn dc)]), (1, [(vi (((anU id u lg (kd, key, dm, data)) : Nat) : Int))]), (1, [(.map (some mp))]), (1, [(.slice la' ((anL id df dn u lg (kd, key, dm, data)).length) lc')])] :: Ent.row la' ((anL id df dn u lg (kd, key, dm, data)).length) lc' 64 67 lx' :: Ent.obj mp .nw (.map (mArr (anL id df dn u lg (kd, key, dm, data))) ((anL id df dn u lg (kd, key, dm, data)).length)) :: Ent.pin (sblks lx') (fun w => Lgs w lx' (anL id df dn u lg (kd, key, dm, data))) :: Ent.view da (df.map vu8) :: Ent.view qa (data.map vu8) :: L)) := by
 have hlgs : Lgs w lx lg := (h_0.ok _ M3).1
 have hlo := hlgs.ok
 have hqn : data.length ≤ 1000000000 := hq.2.2.2
 have hil : i < lg.length := by have := fdq_lt hfd; omega
 refine Cs.of (n := 74) (args := [(pO ob 0), (.agg ⟨flat [(1, [(vi kd)]), (32, key.map vu8), (1, [(vi dm)]), (1, [(.slice qa qn qc)])]⟩), cv]) Try.func46 rfl rfl rfl ?_
 refine WP.seq (WP.reg ?_)
 refine WL.box (segs := [(1, [(vi kd)]), (32, key.map vu8), (1, [(vi dm)]), (1, [(.slice qa qn qc)])]) h_0 rfl rfl (sC sV (sC (s8 hq.1) (sC sV (sC sV sN)))) rfl (fun b_1 w_2 h_3 => ?_)
 refine WL.alloc (segs := [(32, (zB 32).map vu8)]) h_3 (zv typeInfo23 rfl) rfl (sC (s8 lr) sN) rfl (fun b_4 w_5 h_6 => ?_)
 refine WL.nil (thn_n (WP.seq (WP.reg ?_)))
 refine qV rfl (R.fieldAddr (off' := 0) rfl underlying56 rfl sizeOf52 rfl rfl) (qV rfl (R.load1 rfl isAgg52 (h_6.ok _ M1) Sg.h) (qV rfl (R.fieldAddr (off' := 1) rfl underlying56 rfl sizeOf23 rfl rfl) (qV rfl (R.loadA [(1, [(vi kd)])] [(32, key.map vu8)] [(1, [(vi dm)]), (1, [(.slice qa qn qc)])] (cs := key.map vu8) rfl isAgg23 sizeOf23 (h_6.ok _ M1) rfl rfl rfl rfl) (qV rfl (R.fieldAddr (off' := 33) rfl underlying56 rfl sizeOf53 rfl rfl) (qV rfl (R.load1 rfl isAgg53 (h_6.ok _ M1) (Sg.t rfl (Sg.t rfl Sg.h))) (qV rfl (R.fieldAddr (off' := 34) rfl underlying56 rfl sizeOf54 rfl rfl) (qV rfl (R.load1 rfl isAgg54 (h_6.ok _ M1) (Sg.t rfl (Sg.t rfl (Sg.t rfl Sg.h)))) (qV rfl (R.toStr (bs := data) rfl underlying54 underlying5 underlying9 (viewV (h_6.ok _ M7)) hdl) (qV rfl (R.buildS (pl := [(0, 1), (1, 32), (33, 1), (34, 1)]) (zs := [(1, [(vi 0)]), (32, (zB 32).map vu8), (1, [(vi 0)]), (1, [(.string (bstr ([] : List UInt8)))])]) (vs := [(0, (vi kd)), (1, (.agg ⟨key.map vu8⟩)), (2, (vi dm)), (3, (.string (bstr data)))]) (out := [(1, [(vi kd)]), (32, key.map vu8), (1, [(vi dm)]), (1, [(.string (bstr data))])]) underlying118 (zv typeInfo118 rfl) rfl (sC sV (sC (s8 lr) (sC sV (sC sV sN)))) (pl118 _ underlying118) rfl (FillR.cons [] [(1, [(vi 0)])] [(1, [(vi kd)])] [(32, (zB 32).map vu8), (1, [(vi 0)]), (1, [(.string (bstr ([] : List UInt8)))])] rfl rfl rfl rfl (sC sV sN) rfl rfl rfl (FillR.cons [(1, [(vi kd)])] [(32, (zB 32).map vu8)] [(32, key.map vu8)] [(1, [(vi 0)]), (1, [(.string (bstr ([] : List UInt8)))])] rfl rfl rfl rfl (sC (s8 hq.1) sN) rfl rfl rfl (FillR.cons [(1, [(vi kd)]), (32, key.map vu8)] [(1, [(vi 0)])] [(1, [(vi dm)])] [(1, [(.string (bstr ([] : List UInt8)))])] rfl rfl rfl rfl (sC sV sN) rfl rfl rfl (FillR.cons [(1, [(vi kd)]), (32, key.map vu8), (1, [(vi dm)])] [(1, [(.string (bstr ([] : List UInt8)))])] [(1, [(.string (bstr data))])] [] rfl rfl rfl rfl (sC sV sN) rfl rfl rfl FillR.nil)))) rfl) ?_)))))))))
 refine WL.alloc (segs := [(1, [(vi 0)]), (32, (zB 32).map vu8), (1, [(vi 0)]), (1, [(.string (bstr ([] : List UInt8)))])]) h_6 (zv typeInfo118 rfl) rfl (sC sV (sC (s8 lr) (sC sV (sC sV sN)))) rfl (fun b_8 w_9 h_10 => ?_)
 refine WL.storeA [] [(1, [(vi 0)]), (32, (zB 32).map vu8), (1, [(vi 0)]), (1, [(.string (bstr ([] : List UInt8)))])] [(1, [(vi kd)]), (32, key.map vu8), (1, [(vi dm)]), (1, [(.string (bstr data))])] [] h_10 rfl rfl sizeOf118 At.h (by decide) rfl rfl rfl rfl rfl rfl (sC sV (sC (s8 hq.1) (sC sV (sC sV sN)))) (fun w_11 h_12 => ?_)
 refine WL.nil (thn_n (WP.seq (WP.seq ?_)))
 refine WP.drawT (SL w00.heap.size [.blk b_8 .nw 118 [(1, [(vi kd)]), (32, key.map vu8), (1, [(vi dm)]), (1, [(.string (bstr data))])], .blk b_4 .nw 23 [(32, (zB 32).map vu8)], .blk b_1 .nw 56 [(1, [(vi kd)]), (32, key.map vu8), (1, [(vi dm)]), (1, [(.slice qa qn qc)])], .blk ob .nw 90 [(1, [(.bool id)]), (32, ms.map vu8), (1, [(.slice da dn dc)]), (1, [(vn u)]), (1, [(.map (some mp))]), (1, [(.slice la lg.length lc)])], .row la lg.length lc 64 67 lx, .obj mp .nw (.map (mArr lg) lg.length), .pin (sblks lx) (fun w => Lgs w lx lg), .view da (df.map vu8), .view qa (data.map vu8)]) (.q 0 (.q 1 (.q 2 (.q 3 (.q 4 (.s 5 (.q 6 (.q 7 (.q 8 (.q 9 (.q 10 .nil))))))))))) (by kernel_rfl) (by kernel_rfl) rfl (by kernel_rfl) (fun w_13 hc_15 => (SL.cons ((h_12.same hc_15).ok _ M0) (SL.cons ((h_12.same hc_15).ok _ M1) (SL.cons ((h_12.same hc_15).ok _ M2) (SL.cons ((h_12.same hc_15).ok _ M3) (SL.cons ((h_12.same hc_15).ok _ M4) (SL.cons ((h_12.same hc_15).ok _ M5) (SL.cons ((h_12.same hc_15).ok _ M6) (SL.cons ((h_12.same hc_15).ok _ M7) (SL.cons ((h_12.same hc_15).ok _ M8) (SL.nil _ _))))))))))) (fun w_13 hc_15 => ?_)
 have h_14 := h_12.same hc_15
 refine qT rfl rfl (fun wq hS => R.move (v := (pO ob 0)) rfl) ?_
 refine qT rfl rfl (fun wq hS => R.nilCheck rfl) ?_
 refine qT rfl rfl (fun wq hS => R.fieldAddr (off' := 35) rfl underlying90 rfl sizeOf88 rfl rfl) ?_
 refine qT rfl rfl (fun wq hS => R.load1 rfl isAgg88 (hS _ M3) (Sg.t rfl (Sg.t rfl (Sg.t rfl (Sg.t rfl Sg.h))))) ?_
 refine qT rfl rfl (fun wq hS => R.loadA [] [(1, [(vi kd)]), (32, key.map vu8), (1, [(vi dm)]), (1, [(.string (bstr data))])] [] rfl isAgg118 sizeOf118 (hS _ M0) rfl rfl rfl rfl) ?_
 refine WT.s (oN rfl ?_)
 refine qV rfl (R.lookup (r := some (i, vi (i : Int))) (z := (vi 0)) (v := (vn i)) (ok := true) rfl rfl underlying88 (h_14.ok _ M5) (Ck.agg kt118 (by decide) ag118 (typQ (kd, key, dm, data) hq)) (log_hit kt118 (by decide) ag118 typQ hq hlo hfd) (zv typeInfo3 rfl) rfl rfl) ?_
 refine WL.nil ?_
 refine ⟨(N0_1_2_3_4_5_6_7_8 h_14.ok), ?_⟩
 refine qT rfl rfl (fun wq hS => R.move (v := (.tuple [(vn i), (.bool true)].toArray)) rfl) ?_
 refine qT rfl rfl (fun wq hS => R.extract rfl rfl) ?_
 refine qT rfl rfl (fun wq hS => R.extract rfl rfl) ?_
 refine qT rfl rfl (fun wq hS => R.assign (v := (vn i)) rfl) ?_
 refine qT rfl rfl (fun wq hS => R.assign (v := (.bool true)) rfl) ?_
 refine WT.nil (thn_n (WP.seq (WP.reg ?_)))
 refine qM (.bool true) rfl rfl ?_
 refine WL.nil (thn_n ?_)
 refine WP.condT rfl ?_
 refine WP.seq (WP.reg ?_)
 refine qM (pO ob 0) rfl rfl (qV rfl (R.nilCheck rfl) (qV rfl (R.fieldAddr (off' := 36) rfl underlying90 rfl sizeOf61 rfl rfl) (qV rfl (R.load1 rfl isAgg61 (h_14.ok _ M3) (Sg.t rfl (Sg.t rfl (Sg.t rfl (Sg.t rfl (Sg.t rfl Sg.h)))))) (qM (vn i) rfl rfl (qV rfl (R.indexS (a := la) (i := i) (off := i * 67) (xs := lx) rfl rfl rfl (by omega) (ownView (h_14.ok _ M4)) (by rw [Lgs.len hlgs]; omega) underlying61 sizeOf64 rfl) (qV rfl (R.fieldG (a := la) (i := i * 67) (off' := i * 67 + 35) rfl underlying64 rfl sizeOf23 rfl rfl) (qV rfl (R.loadGA (a := la) (i := i * 67 + 35) (xs := lx) (cs := ((lg.getD i ((kd, key, dm, data), [])).2).map vu8) rfl (ownView (h_14.ok _ M4)) isAgg23 sizeOf23 (Lgs.ans (z := ((kd, key, dm, data), [])) hlgs (i := i) hil).1 (len_map (Lgs.ans (z := ((kd, key, dm, data), [])) hlgs (i := i) hil).2) (by decide)) ?_)))))))
 refine WL.storeA [] [(32, (zB 32).map vu8)] [(32, ((lg.getD i ((kd, key, dm, data), [])).2).map vu8)] [] h_14 rfl rfl sizeOf23 Y1 (by decide) rfl rfl rfl rfl rfl rfl (sC (s8 ((Lgs.ans (z := ((kd, key, dm, data), [])) hlgs (i := i) hil).2)) sN) (fun w_16 h_17 => ?_)
 refine WL.nil (thn_n (WP.ret (thn_r ?_)))
 refine ret_of results46 (RV.cell rfl (h_17.loadA (cs := ((lg.getD i ((kd, key, dm, data), [])).2).map vu8) isAgg23 sizeOf23 M1 rfl rfl) RV.nil) ?_
 have h_26 := ((((((((h_17.drop rfl).drop rfl).drop rfl).up J5).up J5).up J5).up J5).up J5).up J5
 exact ⟨la, lc, lx, by rw [anD_hit hfd]; rfl, by rw [anU_hit hfd, anL_hit hfd]; exact h_26⟩

theorem c_ans_missT {w00 : World} {L : List Ent} (ob mp : Nat) (ms df : List UInt8) (hms : ms.length = 32) (da : Option Addr) (dn dc u : Nat) (hdf : df.length = 32 * dn) (la : Option Addr) (lc : Nat) (lx : List Value) (lg : Lg) (hu : u ≤ 1000000) (hlg : lg.length ≤ 1000000) (kd dm : Int) (key data : List UInt8) (qa : Option Addr) (qn qc : Nat) (hq : okQ (kd, key, dm, data)) (hdl : data.length = qn) (cv : Value) (hfd : fdq (kd, key, dm, data) lg 0 = none) (w : World) (h_0 : HP w00 w (Ent.blk ob .nw 90 [(1, [(.bool true)]), (32, ms.map vu8), (1, [(.slice da dn dc)]), (1, [(vi ((u : Nat) : Int))]), (1, [(.map (some mp))]), (1, [(.slice la lg.length lc)])] :: Ent.row la lg.length lc 64 67 lx :: Ent.obj mp .nw (.map (mArr lg) lg.length) :: Ent.pin (sblks lx) (fun w => Lgs w lx lg) :: Ent.view da (df.map vu8) :: Ent.view qa (data.map vu8) :: L)) :
  Cs Try.prog 46 [(.pointer (some ⟨ob, 0, none⟩)), (.agg ⟨flat [(1, [(vi kd)]), (32, key.map vu8), (1, [(vi dm)]), (1, [(.slice qa qn qc)])]⟩), cv].toArray w (fun v w1 => ∃ la' lc' lx', v = (.agg ⟨(anD true df dn u lg (kd, key, dm, data)).map vu8⟩) ∧ HP w00 w1 (Ent.blk ob .nw 90 [(1, [(.bool true)]), (32, ms.map vu8), (1, [(.slice da dn dc)]), (1, [(vi (((anU true u lg (kd, key, dm, data)) : Nat) : Int))]), (1, [(.map (some mp))]), (1, [(.slice la' ((anL true df dn u lg (kd, key, dm, data)).length) lc')])] :: Ent.row la' ((anL true df dn u lg (kd, key, dm, data)).length) lc' 64 67 lx' :: Ent.obj mp .nw (.map (mArr (anL true df dn u lg (kd, key, dm, data))) ((anL true df dn u lg (kd, key, dm, data)).length)) :: Ent.pin (sblks lx') (fun w => Lgs w lx' (anL true df dn u lg (kd, key, dm, data))) :: Ent.view da (df.map vu8) :: Ent.view qa (data.map vu8) :: L)) := by
 have hlgs : Lgs w lx lg := (h_0.ok _ M3).1
 have hlo := hlgs.ok
 have hqn : data.length ≤ 1000000000 := hq.2.2.2
 refine Cs.of (n := 74) (args := [(pO ob 0), (.agg ⟨flat [(1, [(vi kd)]), (32, key.map vu8), (1, [(vi dm)]), (1, [(.slice qa qn qc)])]⟩), cv]) Try.func46 rfl rfl rfl ?_
 refine WP.seq (WP.reg ?_)
 refine WL.box (segs := [(1, [(vi kd)]), (32, key.map vu8), (1, [(vi dm)]), (1, [(.slice qa qn qc)])]) h_0 rfl rfl (sC sV (sC (s8 hq.1) (sC sV (sC sV sN)))) rfl (fun b_1 w_2 h_3 => ?_)
 refine WL.alloc (segs := [(32, (zB 32).map vu8)]) h_3 (zv typeInfo23 rfl) rfl (sC (s8 lr) sN) rfl (fun b_4 w_5 h_6 => ?_)
 refine WL.nil (thn_n (WP.seq (WP.reg ?_)))
 refine qV rfl (R.fieldAddr (off' := 0) rfl underlying56 rfl sizeOf52 rfl rfl) (qV rfl (R.load1 rfl isAgg52 (h_6.ok _ M1) Sg.h) (qV rfl (R.fieldAddr (off' := 1) rfl underlying56 rfl sizeOf23 rfl rfl) (qV rfl (R.loadA [(1, [(vi kd)])] [(32, key.map vu8)] [(1, [(vi dm)]), (1, [(.slice qa qn qc)])] (cs := key.map vu8) rfl isAgg23 sizeOf23 (h_6.ok _ M1) rfl rfl rfl rfl) (qV rfl (R.fieldAddr (off' := 33) rfl underlying56 rfl sizeOf53 rfl rfl) (qV rfl (R.load1 rfl isAgg53 (h_6.ok _ M1) (Sg.t rfl (Sg.t rfl Sg.h))) (qV rfl (R.fieldAddr (off' := 34) rfl underlying56 rfl sizeOf54 rfl rfl) (qV rfl (R.load1 rfl isAgg54 (h_6.ok _ M1) (Sg.t rfl (Sg.t rfl (Sg.t rfl Sg.h)))) (qV rfl (R.toStr (bs := data) rfl underlying54 underlying5 underlying9 (viewV (h_6.ok _ M7)) hdl) (qV rfl (R.buildS (pl := [(0, 1), (1, 32), (33, 1), (34, 1)]) (zs := [(1, [(vi 0)]), (32, (zB 32).map vu8), (1, [(vi 0)]), (1, [(.string (bstr ([] : List UInt8)))])]) (vs := [(0, (vi kd)), (1, (.agg ⟨key.map vu8⟩)), (2, (vi dm)), (3, (.string (bstr data)))]) (out := [(1, [(vi kd)]), (32, key.map vu8), (1, [(vi dm)]), (1, [(.string (bstr data))])]) underlying118 (zv typeInfo118 rfl) rfl (sC sV (sC (s8 lr) (sC sV (sC sV sN)))) (pl118 _ underlying118) rfl (FillR.cons [] [(1, [(vi 0)])] [(1, [(vi kd)])] [(32, (zB 32).map vu8), (1, [(vi 0)]), (1, [(.string (bstr ([] : List UInt8)))])] rfl rfl rfl rfl (sC sV sN) rfl rfl rfl (FillR.cons [(1, [(vi kd)])] [(32, (zB 32).map vu8)] [(32, key.map vu8)] [(1, [(vi 0)]), (1, [(.string (bstr ([] : List UInt8)))])] rfl rfl rfl rfl (sC (s8 hq.1) sN) rfl rfl rfl (FillR.cons [(1, [(vi kd)]), (32, key.map vu8)] [(1, [(vi 0)])] [(1, [(vi dm)])] [(1, [(.string (bstr ([] : List UInt8)))])] rfl rfl rfl rfl (sC sV sN) rfl rfl rfl (FillR.cons [(1, [(vi kd)]), (32, key.map vu8), (1, [(vi dm)])] [(1, [(.string (bstr ([] : List UInt8)))])] [(1, [(.string (bstr data))])] [] rfl rfl rfl rfl (sC sV sN) rfl rfl rfl FillR.nil)))) rfl) ?_)))))))))
 refine WL.alloc (segs := [(1, [(vi 0)]), (32, (zB 32).map vu8), (1, [(vi 0)]), (1, [(.string (bstr ([] : List UInt8)))])]) h_6 (zv typeInfo118 rfl) rfl (sC sV (sC (s8 lr) (sC sV (sC sV sN)))) rfl (fun b_8 w_9 h_10 => ?_)
 refine WL.storeA [] [(1, [(vi 0)]), (32, (zB 32).map vu8), (1, [(vi 0)]), (1, [(.string (bstr ([] : List UInt8)))])] [(1, [(vi kd)]), (32, key.map vu8), (1, [(vi dm)]), (1, [(.string (bstr data))])] [] h_10 rfl rfl sizeOf118 At.h (by decide) rfl rfl rfl rfl rfl rfl (sC sV (sC (s8 hq.1) (sC sV (sC sV sN)))) (fun w_11 h_12 => ?_)
 refine WL.nil (thn_n (WP.seq (WP.seq ?_)))
 refine WP.drawT (SL w00.heap.size [.blk b_8 .nw 118 [(1, [(vi kd)]), (32, key.map vu8), (1, [(vi dm)]), (1, [(.string (bstr data))])], .blk b_4 .nw 23 [(32, (zB 32).map vu8)], .blk b_1 .nw 56 [(1, [(vi kd)]), (32, key.map vu8), (1, [(vi dm)]), (1, [(.slice qa qn qc)])], .blk ob .nw 90 [(1, [(.bool true)]), (32, ms.map vu8), (1, [(.slice da dn dc)]), (1, [(vn u)]), (1, [(.map (some mp))]), (1, [(.slice la lg.length lc)])], .row la lg.length lc 64 67 lx, .obj mp .nw (.map (mArr lg) lg.length), .pin (sblks lx) (fun w => Lgs w lx lg), .view da (df.map vu8), .view qa (data.map vu8)]) (.q 0 (.q 1 (.q 2 (.q 3 (.q 4 (.s 5 (.q 6 (.q 7 (.q 8 (.q 9 (.q 10 .nil))))))))))) (by kernel_rfl) (by kernel_rfl) rfl (by kernel_rfl) (fun w_13 hc_15 => (SL.cons ((h_12.same hc_15).ok _ M0) (SL.cons ((h_12.same hc_15).ok _ M1) (SL.cons ((h_12.same hc_15).ok _ M2) (SL.cons ((h_12.same hc_15).ok _ M3) (SL.cons ((h_12.same hc_15).ok _ M4) (SL.cons ((h_12.same hc_15).ok _ M5) (SL.cons ((h_12.same hc_15).ok _ M6) (SL.cons ((h_12.same hc_15).ok _ M7) (SL.cons ((h_12.same hc_15).ok _ M8) (SL.nil _ _))))))))))) (fun w_13 hc_15 => ?_)
 have h_14 := h_12.same hc_15
 refine qT rfl rfl (fun wq hS => R.move (v := (pO ob 0)) rfl) ?_
 refine qT rfl rfl (fun wq hS => R.nilCheck rfl) ?_
 refine qT rfl rfl (fun wq hS => R.fieldAddr (off' := 35) rfl underlying90 rfl sizeOf88 rfl rfl) ?_
 refine qT rfl rfl (fun wq hS => R.load1 rfl isAgg88 (hS _ M3) (Sg.t rfl (Sg.t rfl (Sg.t rfl (Sg.t rfl Sg.h))))) ?_
 refine qT rfl rfl (fun wq hS => R.loadA [] [(1, [(vi kd)]), (32, key.map vu8), (1, [(vi dm)]), (1, [(.string (bstr data))])] [] rfl isAgg118 sizeOf118 (hS _ M0) rfl rfl rfl rfl) ?_
 refine WT.s (oN rfl ?_)
 refine qV rfl (R.lookup (r := none) (z := (vi 0)) (v := (vi 0)) (ok := false) rfl rfl underlying88 (h_14.ok _ M5) (Ck.agg kt118 (by decide) ag118 (typQ (kd, key, dm, data) hq)) (log_miss kt118 (by decide) ag118 typQ hq hlo hfd) (zv typeInfo3 rfl) rfl rfl) ?_
 refine WL.nil ?_
 refine ⟨(N0_1_2_3_4_5_6_7_8 h_14.ok), ?_⟩
 refine qT rfl rfl (fun wq hS => R.move (v := (.tuple [(vi 0), (.bool false)].toArray)) rfl) ?_
 refine qT rfl rfl (fun wq hS => R.extract rfl rfl) ?_
 refine qT rfl rfl (fun wq hS => R.extract rfl rfl) ?_
 refine qT rfl rfl (fun wq hS => R.assign (v := (vi 0)) rfl) ?_
 refine qT rfl rfl (fun wq hS => R.assign (v := (.bool false)) rfl) ?_
 refine WT.nil (thn_n (WP.seq (WP.reg ?_)))
 refine qM (.bool false) rfl rfl ?_
 refine WL.nil (thn_n ?_)
 refine WP.condF rfl ?_
 refine WP.skip (thn_n (WP.seq (WP.reg ?_)))
 refine WL.alloc (segs := [(32, (zB 32).map vu8)]) h_14 (zv typeInfo23 rfl) rfl (sC (s8 lr) sN) rfl (fun b_16 w_17 h_18 => ?_)
 refine WL.nil (thn_n (WP.seq (WP.seq (WP.reg ?_))))
 refine qM (pO ob 0) rfl rfl (qV rfl (R.nilCheck rfl) (qV rfl (R.fieldAddr (off' := 0) rfl underlying90 rfl sizeOf4 rfl rfl) (qV rfl (R.load1 rfl isAgg4 (h_18.ok _ M4) Sg.h) ?_)))
 refine WL.nil (thn_n ?_)
 refine WP.condT rfl ?_
 refine WP.reg ?_
 refine qM (pO ob 0) rfl rfl ?_
 have h_20 := (h_18.up J8).up J5
 refine WL.call Try.call64 rfl rfl (c_draw true ob mp ms df hms da dn dc u hdf la lc lx lg (by omega) (by omega) _ h_20) rfl ?_
 rintro _ w_21 ⟨rfl, h_22⟩
 refine WL.storeA [] [(32, (zB 32).map vu8)] [(32, (drawF df dn u).map vu8)] [] h_22 rfl rfl sizeOf23 Y2 (by decide) rfl rfl rfl rfl rfl rfl (sC (s8 (drawF_len hdf)) sN) (fun w_23 h_24 => ?_)
 refine WL.nil (thn_n (WP.seq (WP.reg ?_)))
 refine qV rfl (R.fieldAddr (off' := 34) rfl underlying56 rfl sizeOf54 rfl rfl) (qV rfl (R.load1 rfl isAgg54 (h_24.ok _ M5) (Sg.t rfl (Sg.t rfl (Sg.t rfl Sg.h)))) ?_)
 refine WL.call Try.call53 rfl rfl (c_Clone qa qn qc data hdl (by omega) _ (viewV (h_24.ok _ M9))) rfl ?_
 rintro _ w_27 ⟨a_25, cap_26, rfl, hc_28, ho_29⟩
 have h_30 := h_24.gotRow hc_28 ho_29
 refine qV rfl (R.fieldAddr (off' := 34) rfl underlying56 rfl sizeOf54 rfl rfl) ?_
 refine WL.store1 h_30 rfl rfl sizeOf54 rfl Y6 (by decide) (Sg.t rfl (Sg.t rfl (Sg.t rfl Sg.h))) (fun w_31 h_32 => ?_)
 refine WL.nil (thn_n (WP.seq ?_))
 refine WP.drawT (SL w00.heap.size [.row a_25 qn cap_26 5 1 (data.map vu8), .blk ob .nw 90 [(1, [(.bool true)]), (32, ms.map vu8), (1, [(.slice da dn dc)]), (1, [(vn ((u + 1)))]), (1, [(.map (some mp))]), (1, [(.slice la lg.length lc)])], .view da (df.map vu8), .blk b_16 .nw 23 [(32, (drawF df dn u).map vu8)], .blk b_8 .nw 118 [(1, [(vi kd)]), (32, key.map vu8), (1, [(vi dm)]), (1, [(.string (bstr data))])], .blk b_4 .nw 23 [(32, (zB 32).map vu8)], .blk b_1 .nw 56 [(1, [(vi kd)]), (32, key.map vu8), (1, [(vi dm)]), (1, [(.slice a_25 qn cap_26)])], .row la lg.length lc 64 67 lx, .pin (sblks lx) (fun w => Lgs w lx lg), .view qa (data.map vu8)]) (.q 0 (.q 1 (.q 2 (.q 3 (.q 4 (.q 5 (.q 6 (.q 7 (.q 8 (.q 9 (.s 10 .nil))))))))))) (by kernel_rfl) (by kernel_rfl) rfl (by kernel_rfl) (fun w_33 hc_35 => (SL.cons ((h_32.same hc_35).ok _ M0) (SL.cons ((h_32.same hc_35).ok _ M1) (SL.cons ((h_32.same hc_35).ok _ M2) (SL.cons ((h_32.same hc_35).ok _ M3) (SL.cons ((h_32.same hc_35).ok _ M4) (SL.cons ((h_32.same hc_35).ok _ M5) (SL.cons ((h_32.same hc_35).ok _ M6) (SL.cons ((h_32.same hc_35).ok _ M7) (SL.cons ((h_32.same hc_35).ok _ M9) (SL.cons ((h_32.same hc_35).ok _ M10) (SL.nil _ _)))))))))))) (fun w_33 hc_35 => ?_)
 have h_34 := h_32.same hc_35
 refine qT rfl rfl (fun wq hS => R.move (v := (pO ob 0)) rfl) ?_
 refine qT rfl rfl (fun wq hS => R.nilCheck rfl) ?_
 refine qT rfl rfl (fun wq hS => R.fieldAddr (off' := 35) rfl underlying90 rfl sizeOf88 rfl rfl) ?_
 refine qT rfl rfl (fun wq hS => R.load1 rfl isAgg88 (hS _ M1) (Sg.t rfl (Sg.t rfl (Sg.t rfl (Sg.t rfl Sg.h))))) ?_
 refine qT rfl rfl (fun wq hS => R.loadA [] [(1, [(vi kd)]), (32, key.map vu8), (1, [(vi dm)]), (1, [(.string (bstr data))])] [] rfl isAgg118 sizeOf118 (hS _ M4) rfl rfl rfl rfl) ?_
 refine qT rfl rfl (fun wq hS => R.move (v := (pO ob 0)) rfl) ?_
 refine qT rfl rfl (fun wq hS => R.nilCheck rfl) ?_
 refine qT rfl rfl (fun wq hS => R.fieldAddr (off' := 36) rfl underlying90 rfl sizeOf61 rfl rfl) ?_
 refine qT rfl rfl (fun wq hS => R.load1 rfl isAgg61 (hS _ M1) (Sg.t rfl (Sg.t rfl (Sg.t rfl (Sg.t rfl (Sg.t rfl Sg.h)))))) ?_
 refine qT rfl rfl (fun wq hS => R.lenS (a := la) (m := lg.length) rfl rfl underlying61) ?_
 refine WT.s (oN rfl ?_)
 refine WL.mapUpdate (k := (.agg ⟨flat [(1, [(vi kd)]), (32, key.map vu8), (1, [(vi dm)]), (1, [(.string (bstr data))])]⟩)) (v := (vn (lg.length))) h_34 rfl rfl rfl underlying88 Y8 (by decide) (Ck.agg kt118 (by decide) ag118 (typQ (kd, key, dm, data) hq)) (log_miss kt118 (by decide) ag118 typQ hq hlo hfd) (fun w_36 h_37 => ?_)
 refine WL.nil ?_
 refine ⟨(SL.cons (h_37.ok _ M0) (SL.cons (h_37.ok _ M1) (SL.cons (h_37.ok _ M2) (SL.cons (h_37.ok _ M3) (SL.cons (h_37.ok _ M4) (SL.cons (h_37.ok _ M5) (SL.cons (h_37.ok _ M6) (SL.cons (h_37.ok _ M7) (SL.cons (h_37.ok _ M9) (SL.cons (h_37.ok _ M10) (SL.nil _ _))))))))))), ?_⟩
 refine WT.nil (thn_n (WP.seq ?_))
 refine WP.cutG (G := Nat × Option Addr × Nat) [61, 62, 63, 64, 65, 66, 67, 68, 69, 70, 71, 72] (fun (bY11Y8Y0Y0, aY11Y9Y0Y0, cY11Y9Y0Y0) => [(61, (pO ob 0)), (62, (pO ob 0)), (63, (pO ob 0)), (64, (pO ob 36)), (66, (.agg ⟨flat [(1, [(vi kd)]), (32, key.map vu8), (1, [(vi dm)]), (1, [(.slice a_25 qn cap_26)])]⟩)), (67, (.agg ⟨(drawF df dn u).map vu8⟩)), (68, (.agg ⟨flat [(1, [(vi kd)]), (32, key.map vu8), (1, [(vi dm)]), (1, [(.slice a_25 qn cap_26)]), (32, (drawF df dn u).map vu8)]⟩)), (65, (.slice la lg.length lc)), (69, (.slice (some ⟨bY11Y8Y0Y0, 0, none⟩) 1 1)), (70, (.slice aY11Y9Y0Y0 (lg.length + 1) cY11Y9Y0Y0)), (71, (pO ob 0)), (72, (pO ob 36))]) (fun (bY11Y8Y0Y0, aY11Y9Y0Y0, cY11Y9Y0Y0) w1 => HP w00 w1 (Ent.blk bY11Y8Y0Y0 .nw 64 [(67, aC (kd, key, dm, data) (.slice a_25 qn cap_26) (drawF df dn u))] :: Ent.row a_25 qn cap_26 5 1 (data.map vu8) :: Ent.blk ob .nw 90 [(1, [(.bool true)]), (32, ms.map vu8), (1, [(.slice da dn dc)]), (1, [(vn ((u + 1)))]), (1, [(.map (some mp))]), (1, [(.slice aY11Y9Y0Y0 (lg.length + 1) cY11Y9Y0Y0)])] :: Ent.view da (df.map vu8) :: Ent.blk b_16 .nw 23 [(32, (drawF df dn u).map vu8)] :: Ent.blk b_8 .nw 118 [(1, [(vi kd)]), (32, key.map vu8), (1, [(vi dm)]), (1, [(.string (bstr data))])] :: Ent.blk b_4 .nw 23 [(32, (zB 32).map vu8)] :: Ent.blk b_1 .nw 56 [(1, [(vi kd)]), (32, key.map vu8), (1, [(vi dm)]), (1, [(.slice a_25 qn cap_26)])] :: Ent.row aY11Y9Y0Y0 (lg.length + 1) cY11Y9Y0Y0 64 67 (lx ++ aC (kd, key, dm, data) (.slice a_25 qn cap_26) (drawF df dn u)) :: Ent.obj mp .nw (.map ((mArr lg).push { key := (.agg ⟨flat [(1, [(vi kd)]), (32, key.map vu8), (1, [(vi dm)]), (1, [(.string (bstr data))])]⟩), val := (vn (lg.length)), born := lg.length }) (lg.length + 1)) :: Ent.pin (sblks lx) (fun w => Lgs w lx lg) :: Ent.view qa (data.map vu8) :: L)) ?_ ?_
 ·refine WP.drawT (SL w00.heap.size [.row a_25 qn cap_26 5 1 (data.map vu8), .view da (df.map vu8), .blk b_16 .nw 23 [(32, (drawF df dn u).map vu8)], .blk b_8 .nw 118 [(1, [(vi kd)]), (32, key.map vu8), (1, [(vi dm)]), (1, [(.string (bstr data))])], .blk b_4 .nw 23 [(32, (zB 32).map vu8)], .blk b_1 .nw 56 [(1, [(vi kd)]), (32, key.map vu8), (1, [(vi dm)]), (1, [(.slice a_25 qn cap_26)])], .obj mp .nw (.map ((mArr lg).push { key := (.agg ⟨flat [(1, [(vi kd)]), (32, key.map vu8), (1, [(vi dm)]), (1, [(.string (bstr data))])]⟩), val := (vn (lg.length)), born := lg.length }) (lg.length + 1)), .pin (sblks lx) (fun w => Lgs w lx lg), .view qa (data.map vu8)]) (.q 0 (.q 1 (.q 2 (.q 3 (.q 5 (.q 6 (.q 7 (.s2 4 8 (.s 8 (.s 9 (.q 10 (.q 11 (.s 12 .nil))))) (.s 4 (.s 9 (.q 10 (.q 11 (.s 12 .nil))))))))))))) (by kernel_rfl) (by kernel_rfl) rfl (by kernel_rfl) (fun w_38 hc_40 => (SL.cons ((h_37.same hc_40).ok _ M0) (SL.cons ((h_37.same hc_40).ok _ M2) (SL.cons ((h_37.same hc_40).ok _ M3) (SL.cons ((h_37.same hc_40).ok _ M4) (SL.cons ((h_37.same hc_40).ok _ M5) (SL.cons ((h_37.same hc_40).ok _ M6) (SL.cons ((h_37.same hc_40).ok _ M8) (SL.cons ((h_37.same hc_40).ok _ M9) (SL.cons ((h_37.same hc_40).ok _ M10) (SL.nil _ _))))))))))) (fun w_38 hc_40 => ?_)
  have h_39 := h_37.same hc_40
  refine qT rfl rfl (fun wq hS => R.move (v := (pO ob 0)) rfl) ?_
  refine qT rfl rfl (fun wq hS => R.move (v := (pO ob 0)) rfl) ?_
  refine qT rfl rfl (fun wq hS => R.nilCheck rfl) ?_
  refine qT rfl rfl (fun wq hS => R.fieldAddr (off' := 36) rfl underlying90 rfl sizeOf61 rfl rfl) ?_
  refine qT rfl rfl (fun wq hS => R.loadA [] [(1, [(vi kd)]), (32, key.map vu8), (1, [(vi dm)]), (1, [(.slice a_25 qn cap_26)])] [] rfl isAgg56 sizeOf56 (hS _ M5) rfl rfl rfl rfl) ?_
  refine qT rfl rfl (fun wq hS => R.loadA [] [(32, (drawF df dn u).map vu8)] [] (cs := (drawF df dn u).map vu8) rfl isAgg23 sizeOf23 (hS _ M2) rfl rfl rfl rfl) ?_
  refine qT rfl rfl (fun wq hS => R.buildS (pl := [(0, 35), (35, 32)]) (zs := [(1, [(vi 0)]), (32, (zB 32).map vu8), (1, [(vi 0)]), (1, [(.slice none 0 0)]), (32, (zB 32).map vu8)]) (vs := [(0, (.agg ⟨flat [(1, [(vi kd)]), (32, key.map vu8), (1, [(vi dm)]), (1, [(.slice a_25 qn cap_26)])]⟩)), (1, (.agg ⟨(drawF df dn u).map vu8⟩))]) (out := [(1, [(vi kd)]), (32, key.map vu8), (1, [(vi dm)]), (1, [(.slice a_25 qn cap_26)]), (32, (drawF df dn u).map vu8)]) underlying64 (zv typeInfo64 rfl) rfl (sC sV (sC (s8 lr) (sC sV (sC sV (sC (s8 lr) sN))))) (pl64 _ underlying64) rfl (FillR.cons [] [(1, [(vi 0)]), (32, (zB 32).map vu8), (1, [(vi 0)]), (1, [(.slice none 0 0)])] [(1, [(vi kd)]), (32, key.map vu8), (1, [(vi dm)]), (1, [(.slice a_25 qn cap_26)])] [(32, (zB 32).map vu8)] rfl rfl rfl rfl (sC sV (sC (s8 hq.1) (sC sV (sC sV sN)))) rfl rfl rfl (FillR.cons [(1, [(vi kd)]), (32, key.map vu8), (1, [(vi dm)]), (1, [(.slice a_25 qn cap_26)])] [(32, (zB 32).map vu8)] [(32, (drawF df dn u).map vu8)] [] rfl rfl rfl rfl (sC (s8 (drawF_len hdf)) sN) rfl rfl rfl FillR.nil)) rfl) ?_
  refine WT.s2 ?_ ?_
  ·refine oN rfl ?_
   refine qV rfl (R.load1 rfl isAgg61 (h_39.ok _ M1) (Sg.t rfl (Sg.t rfl (Sg.t rfl (Sg.t rfl (Sg.t rfl Sg.h)))))) ?_
   refine WL.nil ?_
   refine ⟨(SL.cons (h_39.ok _ M0) (SL.cons (h_39.ok _ M2) (SL.cons (h_39.ok _ M3) (SL.cons (h_39.ok _ M4) (SL.cons (h_39.ok _ M5) (SL.cons (h_39.ok _ M6) (SL.cons (h_39.ok _ M8) (SL.cons (h_39.ok _ M9) (SL.cons (h_39.ok _ M10) (SL.nil _ _)))))))))), ?_⟩
   refine WT.s (oN rfl ?_)
   refine WL.buildSl (vs := [(0, (.agg ⟨flat [(1, [(vi kd)]), (32, key.map vu8), (1, [(vi dm)]), (1, [(.slice a_25 qn cap_26)]), (32, (drawF df dn u).map vu8)]⟩))]) (cs := aC (kd, key, dm, data) (.slice a_25 qn cap_26) (drawF df dn u)) h_39 underlying61 sizeOf64 (zv typeInfo64 rfl) rfl rfl (fill_1 (zc := flat [(1, [vi 0]), (32, List.replicate 32 (vu8 0)), (1, [vi 0]), (1, [.slice none 0 0]), (32, List.replicate 32 (vu8 0))]) (by kernel_rfl) (sC (s := (67, flat [(1, [vi 0]), (32, List.replicate 32 (vu8 0)), (1, [vi 0]), (1, [.slice none 0 0]), (32, List.replicate 32 (vu8 0))])) ⟨by decide, SsOk.one (sC sV (sC (SOk.rep rfl) (sC sV (sC sV (sC (SOk.rep rfl) sN)))))⟩ sN) (aC_ok (q := (kd, key, dm, data)) (s := (.slice a_25 qn cap_26)) (d := drawF df dn u) hq.1 (drawF_len hdf) rfl)) ((aC_ok (q := (kd, key, dm, data)) (s := (.slice a_25 qn cap_26)) (d := drawF df dn u) hq.1 (drawF_len hdf) rfl)).head.len ((aC_ok (q := (kd, key, dm, data)) (s := (.slice a_25 qn cap_26)) (d := drawF df dn u) hq.1 (drawF_len hdf) rfl)).head.one rfl rfl (fun b_42 w_43 h_44 => ?_)
   refine WL.nil ?_
   refine ⟨(N1_3_4_5_6_7_9_10_11 h_44.ok), ?_⟩
   refine WT.s (oN rfl ?_)
   refine WL.append (km := lg.length + 1) (xs := lx) (ys := aC (kd, key, dm, data) (.slice a_25 qn cap_26) (drawF df dn u)) (zs := lx ++ aC (kd, key, dm, data) (.slice a_25 qn cap_26) (drawF df dn u)) h_44 rfl rfl el61 (viewB (h_44.ok _ M0) Sg.h) ((aC_ok (q := (kd, key, dm, data)) (s := (.slice a_25 qn cap_26)) (d := drawF df dn u) hq.1 (drawF_len hdf) rfl)).head.len ((aC_ok (q := (kd, key, dm, data)) (s := (.slice a_25 qn cap_26)) (d := drawF df dn u) hq.1 (drawF_len hdf) rfl)).head.one rfl (by omega) (by omega) (by omega) (fun _ _ => Y8) rfl (fun a_45 c_46 w_47 h_48 => ?_)
   refine WL.nil ?_
   refine ⟨(N1_3_4_5_6_7_9_10_11 h_48.ok), ?_⟩
   refine qT rfl rfl (fun wq hS => R.nilCheck rfl) ?_
   refine qT rfl rfl (fun wq hS => R.fieldAddr (off' := 36) rfl underlying90 rfl sizeOf61 rfl rfl) ?_
   refine WT.s (oN rfl ?_)
   refine WL.store1 h_48 rfl rfl sizeOf61 rfl Y2 (by decide) (Sg.t rfl (Sg.t rfl (Sg.t rfl (Sg.t rfl (Sg.t rfl Sg.h))))) (fun w_49 h_50 => ?_)
   refine WL.nil ?_
   refine ⟨(N1_3_4_5_6_7_9_10_11 h_50.ok), ?_⟩
   refine WT.nil (thn_n ?_)
   exact ⟨(b_42, a_45, c_46), (U4 rfl rfl rfl rfl (U4 rfl rfl rfl rfl (U4 rfl rfl rfl rfl (Ag.refl _ _)))), ⟨rfl, rfl, rfl, rfl, rfl, rfl, rfl, rfl, rfl, rfl, rfl, rfl, trivial⟩, h_50⟩
  ·refine oN rfl ?_
   refine WL.buildSl (vs := [(0, (.agg ⟨flat [(1, [(vi kd)]), (32, key.map vu8), (1, [(vi dm)]), (1, [(.slice a_25 qn cap_26)]), (32, (drawF df dn u).map vu8)]⟩))]) (cs := aC (kd, key, dm, data) (.slice a_25 qn cap_26) (drawF df dn u)) h_39 underlying61 sizeOf64 (zv typeInfo64 rfl) rfl rfl (fill_1 (zc := flat [(1, [vi 0]), (32, List.replicate 32 (vu8 0)), (1, [vi 0]), (1, [.slice none 0 0]), (32, List.replicate 32 (vu8 0))]) (by kernel_rfl) (sC (s := (67, flat [(1, [vi 0]), (32, List.replicate 32 (vu8 0)), (1, [vi 0]), (1, [.slice none 0 0]), (32, List.replicate 32 (vu8 0))])) ⟨by decide, SsOk.one (sC sV (sC (SOk.rep rfl) (sC sV (sC sV (sC (SOk.rep rfl) sN)))))⟩ sN) (aC_ok (q := (kd, key, dm, data)) (s := (.slice a_25 qn cap_26)) (d := drawF df dn u) hq.1 (drawF_len hdf) rfl)) ((aC_ok (q := (kd, key, dm, data)) (s := (.slice a_25 qn cap_26)) (d := drawF df dn u) hq.1 (drawF_len hdf) rfl)).head.len ((aC_ok (q := (kd, key, dm, data)) (s := (.slice a_25 qn cap_26)) (d := drawF df dn u) hq.1 (drawF_len hdf) rfl)).head.one rfl rfl (fun b_51 w_52 h_53 => ?_)
   refine WL.nil ?_
   refine ⟨(N1_3_4_5_6_7_9_10_11 h_53.ok), ?_⟩
   refine WT.s (oN rfl ?_)
   refine qV rfl (R.load1 rfl isAgg61 (h_53.ok _ M2) (Sg.t rfl (Sg.t rfl (Sg.t rfl (Sg.t rfl (Sg.t rfl Sg.h)))))) ?_
   refine WL.nil ?_
   refine ⟨(N1_3_4_5_6_7_9_10_11 h_53.ok), ?_⟩
   refine WT.s (oN rfl ?_)
   refine WL.append (km := lg.length + 1) (xs := lx) (ys := aC (kd, key, dm, data) (.slice a_25 qn cap_26) (drawF df dn u)) (zs := lx ++ aC (kd, key, dm, data) (.slice a_25 qn cap_26) (drawF df dn u)) h_53 rfl rfl el61 (viewB (h_53.ok _ M0) Sg.h) ((aC_ok (q := (kd, key, dm, data)) (s := (.slice a_25 qn cap_26)) (d := drawF df dn u) hq.1 (drawF_len hdf) rfl)).head.len ((aC_ok (q := (kd, key, dm, data)) (s := (.slice a_25 qn cap_26)) (d := drawF df dn u) hq.1 (drawF_len hdf) rfl)).head.one rfl (by omega) (by omega) (by omega) (fun _ _ => Y8) rfl (fun a_54 c_55 w_56 h_57 => ?_)
   refine WL.nil ?_
   refine ⟨(N1_3_4_5_6_7_9_10_11 h_57.ok), ?_⟩
   refine qT rfl rfl (fun wq hS => R.nilCheck rfl) ?_
   refine qT rfl rfl (fun wq hS => R.fieldAddr (off' := 36) rfl underlying90 rfl sizeOf61 rfl rfl) ?_
   refine WT.s (oN rfl ?_)
   refine WL.store1 h_57 rfl rfl sizeOf61 rfl Y2 (by decide) (Sg.t rfl (Sg.t rfl (Sg.t rfl (Sg.t rfl (Sg.t rfl Sg.h))))) (fun w_58 h_59 => ?_)
   refine WL.nil ?_
   refine ⟨(N1_3_4_5_6_7_9_10_11 h_59.ok), ?_⟩
   refine WT.nil (thn_n ?_)
   exact ⟨(b_51, a_54, c_55), (U4 rfl rfl rfl rfl (U4 rfl rfl rfl rfl (U4 rfl rfl rfl rfl (Ag.refl _ _)))), ⟨rfl, rfl, rfl, rfl, rfl, rfl, rfl, rfl, rfl, rfl, rfl, rfl, trivial⟩, h_59⟩
 ·rintro ⟨b_63, a_64, c_65⟩ J_60 w_61 h_62
  refine thn_n (WP.seq (WP.reg ?_))
  refine qV rfl (R.loadA [] [(32, (drawF df dn u).map vu8)] [] (cs := (drawF df dn u).map vu8) rfl isAgg23 sizeOf23 (h_62.ok _ M4) rfl rfl rfl rfl) ?_
  refine WL.storeA [] [(32, (zB 32).map vu8)] [(32, (drawF df dn u).map vu8)] [] h_62 rfl rfl sizeOf23 Y6 (by decide) rfl rfl rfl rfl rfl rfl (sC (s8 (drawF_len hdf)) sN) (fun w_66 h_67 => ?_)
  refine WL.nil (thn_n (WP.ret ?_))
  refine ret_of results46 (RV.cell rfl (h_67.loadA (cs := (drawF df dn u).map vu8) isAgg23 sizeOf23 M6 rfl rfl) RV.nil) ?_
  have h_83 := (((((((((((((((h_67.drop rfl).up J3).drop rfl).up J3).drop rfl).up J3).drop rfl).up J3).drop rfl).up J6).up J3).up J5).up J5).up J5).up J6).up J6
  have h_84 := HP_logPush (q := (kd, key, dm, data)) (d := drawF df dn u) h_83 hq (drawF_len hdf) hdl
  have h_95 := (((((((((h_84.up J1).drop rfl).up J1).drop rfl).up J5).up J5).up J2).up J5).up J5).up J5
  have hse : lg.length + 1 = (lg ++ [((kd, key, dm, data), drawF df dn u)]).length := snoc_len.symm
  have hme := mArr_push lg (kd, key, dm, data) (drawF df dn u)
  have h_85 := h_95
  rw [hse] at h_85
  exact ⟨_, _, _, by rw [anD_miss hfd]; rfl, by rw [anU_miss hfd, anL_miss hfd]; show HP _ _ (_ :: _ :: .obj _ _ (.map (mArr (lg ++ [((kd, key, dm, data), drawF df dn u)])) _) :: _); rw [hme]; exact h_85⟩

theorem c_ans_missF {w00 : World} {L : List Ent} (ob mp : Nat) (ms df : List UInt8) (hms : ms.length = 32) (da : Option Addr) (dn dc u : Nat) (hdf : df.length = 32 * dn) (la : Option Addr) (lc : Nat) (lx : List Value) (lg : Lg) (hu : u ≤ 1000000) (hlg : lg.length ≤ 1000000) (kd dm : Int) (key data : List UInt8) (qa : Option Addr) (qn qc : Nat) (hq : okQ (kd, key, dm, data)) (hdl : data.length = qn) (bq : Nat) (hfd : fdq (kd, key, dm, data) lg 0 = none) (w : World) (h_0 : HP w00 w (Ent.blk ob .nw 90 [(1, [(.bool false)]), (32, ms.map vu8), (1, [(.slice da dn dc)]), (1, [(vi ((u : Nat) : Int))]), (1, [(.map (some mp))]), (1, [(.slice la lg.length lc)])] :: Ent.row la lg.length lc 64 67 lx :: Ent.obj mp .nw (.map (mArr lg) lg.length) :: Ent.pin (sblks lx) (fun w => Lgs w lx lg) :: Ent.view da (df.map vu8) :: Ent.view qa (data.map vu8) :: Ent.blk bq .nw 56 [(1, [(vi kd)]), (32, key.map vu8), (1, [(vi dm)]), (1, [(.slice qa qn qc)])] :: L)) :
  Cs Try.prog 46 [(.pointer (some ⟨ob, 0, none⟩)), (.agg ⟨flat [(1, [(vi kd)]), (32, key.map vu8), (1, [(vi dm)]), (1, [(.slice qa qn qc)])]⟩), (Value.func (Fn.func 47) [].toArray [(Value.pointer (some ⟨bq, 0, none⟩))].toArray)].toArray w (fun v w1 => ∃ la' lc' lx', v = (.agg ⟨(anD false df dn u lg (kd, key, dm, data)).map vu8⟩) ∧ HP w00 w1 (Ent.blk ob .nw 90 [(1, [(.bool false)]), (32, ms.map vu8), (1, [(.slice da dn dc)]), (1, [(vi (((anU false u lg (kd, key, dm, data)) : Nat) : Int))]), (1, [(.map (some mp))]), (1, [(.slice la' ((anL false df dn u lg (kd, key, dm, data)).length) lc')])] :: Ent.row la' ((anL false df dn u lg (kd, key, dm, data)).length) lc' 64 67 lx' :: Ent.obj mp .nw (.map (mArr (anL false df dn u lg (kd, key, dm, data))) ((anL false df dn u lg (kd, key, dm, data)).length)) :: Ent.pin (sblks lx') (fun w => Lgs w lx' (anL false df dn u lg (kd, key, dm, data))) :: Ent.view da (df.map vu8) :: Ent.view qa (data.map vu8) :: Ent.blk bq .nw 56 [(1, [(vi kd)]), (32, key.map vu8), (1, [(vi dm)]), (1, [(.slice qa qn qc)])] :: L)) := by
 have hlgs : Lgs w lx lg := (h_0.ok _ M3).1
 have hlo := hlgs.ok
 have hqn : data.length ≤ 1000000000 := hq.2.2.2
 refine Cs.of (n := 74) (args := [(pO ob 0), (.agg ⟨flat [(1, [(vi kd)]), (32, key.map vu8), (1, [(vi dm)]), (1, [(.slice qa qn qc)])]⟩), (Value.func (Fn.func 47) [].toArray [(Value.pointer (some ⟨bq, 0, none⟩))].toArray)]) Try.func46 rfl rfl rfl ?_
 refine WP.seq (WP.reg ?_)
 refine WL.box (segs := [(1, [(vi kd)]), (32, key.map vu8), (1, [(vi dm)]), (1, [(.slice qa qn qc)])]) h_0 rfl rfl (sC sV (sC (s8 hq.1) (sC sV (sC sV sN)))) rfl (fun b_1 w_2 h_3 => ?_)
 refine WL.alloc (segs := [(32, (zB 32).map vu8)]) h_3 (zv typeInfo23 rfl) rfl (sC (s8 lr) sN) rfl (fun b_4 w_5 h_6 => ?_)
 refine WL.nil (thn_n (WP.seq (WP.reg ?_)))
 refine qV rfl (R.fieldAddr (off' := 0) rfl underlying56 rfl sizeOf52 rfl rfl) (qV rfl (R.load1 rfl isAgg52 (h_6.ok _ M1) Sg.h) (qV rfl (R.fieldAddr (off' := 1) rfl underlying56 rfl sizeOf23 rfl rfl) (qV rfl (R.loadA [(1, [(vi kd)])] [(32, key.map vu8)] [(1, [(vi dm)]), (1, [(.slice qa qn qc)])] (cs := key.map vu8) rfl isAgg23 sizeOf23 (h_6.ok _ M1) rfl rfl rfl rfl) (qV rfl (R.fieldAddr (off' := 33) rfl underlying56 rfl sizeOf53 rfl rfl) (qV rfl (R.load1 rfl isAgg53 (h_6.ok _ M1) (Sg.t rfl (Sg.t rfl Sg.h))) (qV rfl (R.fieldAddr (off' := 34) rfl underlying56 rfl sizeOf54 rfl rfl) (qV rfl (R.load1 rfl isAgg54 (h_6.ok _ M1) (Sg.t rfl (Sg.t rfl (Sg.t rfl Sg.h)))) (qV rfl (R.toStr (bs := data) rfl underlying54 underlying5 underlying9 (viewV (h_6.ok _ M7)) hdl) (qV rfl (R.buildS (pl := [(0, 1), (1, 32), (33, 1), (34, 1)]) (zs := [(1, [(vi 0)]), (32, (zB 32).map vu8), (1, [(vi 0)]), (1, [(.string (bstr ([] : List UInt8)))])]) (vs := [(0, (vi kd)), (1, (.agg ⟨key.map vu8⟩)), (2, (vi dm)), (3, (.string (bstr data)))]) (out := [(1, [(vi kd)]), (32, key.map vu8), (1, [(vi dm)]), (1, [(.string (bstr data))])]) underlying118 (zv typeInfo118 rfl) rfl (sC sV (sC (s8 lr) (sC sV (sC sV sN)))) (pl118 _ underlying118) rfl (FillR.cons [] [(1, [(vi 0)])] [(1, [(vi kd)])] [(32, (zB 32).map vu8), (1, [(vi 0)]), (1, [(.string (bstr ([] : List UInt8)))])] rfl rfl rfl rfl (sC sV sN) rfl rfl rfl (FillR.cons [(1, [(vi kd)])] [(32, (zB 32).map vu8)] [(32, key.map vu8)] [(1, [(vi 0)]), (1, [(.string (bstr ([] : List UInt8)))])] rfl rfl rfl rfl (sC (s8 hq.1) sN) rfl rfl rfl (FillR.cons [(1, [(vi kd)]), (32, key.map vu8)] [(1, [(vi 0)])] [(1, [(vi dm)])] [(1, [(.string (bstr ([] : List UInt8)))])] rfl rfl rfl rfl (sC sV sN) rfl rfl rfl (FillR.cons [(1, [(vi kd)]), (32, key.map vu8), (1, [(vi dm)])] [(1, [(.string (bstr ([] : List UInt8)))])] [(1, [(.string (bstr data))])] [] rfl rfl rfl rfl (sC sV sN) rfl rfl rfl FillR.nil)))) rfl) ?_)))))))))
 refine WL.alloc (segs := [(1, [(vi 0)]), (32, (zB 32).map vu8), (1, [(vi 0)]), (1, [(.string (bstr ([] : List UInt8)))])]) h_6 (zv typeInfo118 rfl) rfl (sC sV (sC (s8 lr) (sC sV (sC sV sN)))) rfl (fun b_8 w_9 h_10 => ?_)
 refine WL.storeA [] [(1, [(vi 0)]), (32, (zB 32).map vu8), (1, [(vi 0)]), (1, [(.string (bstr ([] : List UInt8)))])] [(1, [(vi kd)]), (32, key.map vu8), (1, [(vi dm)]), (1, [(.string (bstr data))])] [] h_10 rfl rfl sizeOf118 At.h (by decide) rfl rfl rfl rfl rfl rfl (sC sV (sC (s8 hq.1) (sC sV (sC sV sN)))) (fun w_11 h_12 => ?_)
 refine WL.nil (thn_n (WP.seq (WP.seq ?_)))
 refine WP.drawT (SL w00.heap.size [.blk b_8 .nw 118 [(1, [(vi kd)]), (32, key.map vu8), (1, [(vi dm)]), (1, [(.string (bstr data))])], .blk b_4 .nw 23 [(32, (zB 32).map vu8)], .blk b_1 .nw 56 [(1, [(vi kd)]), (32, key.map vu8), (1, [(vi dm)]), (1, [(.slice qa qn qc)])], .blk ob .nw 90 [(1, [(.bool false)]), (32, ms.map vu8), (1, [(.slice da dn dc)]), (1, [(vn u)]), (1, [(.map (some mp))]), (1, [(.slice la lg.length lc)])], .row la lg.length lc 64 67 lx, .obj mp .nw (.map (mArr lg) lg.length), .pin (sblks lx) (fun w => Lgs w lx lg), .view da (df.map vu8), .view qa (data.map vu8), .blk bq .nw 56 [(1, [(vi kd)]), (32, key.map vu8), (1, [(vi dm)]), (1, [(.slice qa qn qc)])]]) (.q 0 (.q 1 (.q 2 (.q 3 (.q 4 (.s 5 (.q 6 (.q 7 (.q 8 (.q 9 (.q 10 .nil))))))))))) (by kernel_rfl) (by kernel_rfl) rfl (by kernel_rfl) (fun w_13 hc_15 => (SL.cons ((h_12.same hc_15).ok _ M0) (SL.cons ((h_12.same hc_15).ok _ M1) (SL.cons ((h_12.same hc_15).ok _ M2) (SL.cons ((h_12.same hc_15).ok _ M3) (SL.cons ((h_12.same hc_15).ok _ M4) (SL.cons ((h_12.same hc_15).ok _ M5) (SL.cons ((h_12.same hc_15).ok _ M6) (SL.cons ((h_12.same hc_15).ok _ M7) (SL.cons ((h_12.same hc_15).ok _ M8) (SL.cons ((h_12.same hc_15).ok _ M9) (SL.nil _ _)))))))))))) (fun w_13 hc_15 => ?_)
 have h_14 := h_12.same hc_15
 refine qT rfl rfl (fun wq hS => R.move (v := (pO ob 0)) rfl) ?_
 refine qT rfl rfl (fun wq hS => R.nilCheck rfl) ?_
 refine qT rfl rfl (fun wq hS => R.fieldAddr (off' := 35) rfl underlying90 rfl sizeOf88 rfl rfl) ?_
 refine qT rfl rfl (fun wq hS => R.load1 rfl isAgg88 (hS _ M3) (Sg.t rfl (Sg.t rfl (Sg.t rfl (Sg.t rfl Sg.h))))) ?_
 refine qT rfl rfl (fun wq hS => R.loadA [] [(1, [(vi kd)]), (32, key.map vu8), (1, [(vi dm)]), (1, [(.string (bstr data))])] [] rfl isAgg118 sizeOf118 (hS _ M0) rfl rfl rfl rfl) ?_
 refine WT.s (oN rfl ?_)
 refine qV rfl (R.lookup (r := none) (z := (vi 0)) (v := (vi 0)) (ok := false) rfl rfl underlying88 (h_14.ok _ M5) (Ck.agg kt118 (by decide) ag118 (typQ (kd, key, dm, data) hq)) (log_miss kt118 (by decide) ag118 typQ hq hlo hfd) (zv typeInfo3 rfl) rfl rfl) ?_
 refine WL.nil ?_
 refine ⟨(SL.cons (h_14.ok _ M0) (SL.cons (h_14.ok _ M1) (SL.cons (h_14.ok _ M2) (SL.cons (h_14.ok _ M3) (SL.cons (h_14.ok _ M4) (SL.cons (h_14.ok _ M5) (SL.cons (h_14.ok _ M6) (SL.cons (h_14.ok _ M7) (SL.cons (h_14.ok _ M8) (SL.cons (h_14.ok _ M9) (SL.nil _ _))))))))))), ?_⟩
 refine qT rfl rfl (fun wq hS => R.move (v := (.tuple [(vi 0), (.bool false)].toArray)) rfl) ?_
 refine qT rfl rfl (fun wq hS => R.extract rfl rfl) ?_
 refine qT rfl rfl (fun wq hS => R.extract rfl rfl) ?_
 refine qT rfl rfl (fun wq hS => R.assign (v := (vi 0)) rfl) ?_
 refine qT rfl rfl (fun wq hS => R.assign (v := (.bool false)) rfl) ?_
 refine WT.nil (thn_n (WP.seq (WP.reg ?_)))
 refine qM (.bool false) rfl rfl ?_
 refine WL.nil (thn_n ?_)
 refine WP.condF rfl ?_
 refine WP.skip (thn_n (WP.seq (WP.reg ?_)))
 refine WL.alloc (segs := [(32, (zB 32).map vu8)]) h_14 (zv typeInfo23 rfl) rfl (sC (s8 lr) sN) rfl (fun b_16 w_17 h_18 => ?_)
 refine WL.nil (thn_n (WP.seq (WP.seq (WP.reg ?_))))
 refine qM (pO ob 0) rfl rfl (qV rfl (R.nilCheck rfl) (qV rfl (R.fieldAddr (off' := 0) rfl underlying90 rfl sizeOf4 rfl rfl) (qV rfl (R.load1 rfl isAgg4 (h_18.ok _ M4) Sg.h) ?_)))
 refine WL.nil (thn_n ?_)
 refine WP.condF rfl ?_
 refine WP.reg ?_
 refine qM (Value.func (Fn.func 47) [].toArray [(Value.pointer (some ⟨bq, 0, none⟩))].toArray) rfl rfl ?_
 refine WL.call Try.call47 rfl rfl (c_oCl kd dm key data qa qn qc hq hdl bq _ (viewV (h_18.ok _ M9)) (h_18.argR M10)) rfl ?_
 rintro _ w_20 ⟨rfl, hc_19⟩
 have h_21 := h_18.same hc_19
 refine WL.storeA [] [(32, (zB 32).map vu8)] [(32, (cF (kd, key, dm, data)).map vu8)] [] h_21 rfl rfl sizeOf23 At.h (by decide) rfl rfl rfl rfl rfl rfl (sC (s8 (cF_len _)) sN) (fun w_22 h_23 => ?_)
 refine WL.nil (thn_n (WP.seq (WP.reg ?_)))
 refine qV rfl (R.fieldAddr (off' := 34) rfl underlying56 rfl sizeOf54 rfl rfl) (qV rfl (R.load1 rfl isAgg54 (h_23.ok _ M3) (Sg.t rfl (Sg.t rfl (Sg.t rfl Sg.h)))) ?_)
 refine WL.call Try.call53 rfl rfl (c_Clone qa qn qc data hdl (by omega) _ (viewV (h_23.ok _ M9))) rfl ?_
 rintro _ w_26 ⟨a_24, cap_25, rfl, hc_27, ho_28⟩
 have h_29 := h_23.gotRow hc_27 ho_28
 refine qV rfl (R.fieldAddr (off' := 34) rfl underlying56 rfl sizeOf54 rfl rfl) ?_
 refine WL.store1 h_29 rfl rfl sizeOf54 rfl Y4 (by decide) (Sg.t rfl (Sg.t rfl (Sg.t rfl Sg.h))) (fun w_30 h_31 => ?_)
 refine WL.nil (thn_n (WP.seq ?_))
 refine WP.drawT (SL w00.heap.size [.row a_24 qn cap_25 5 1 (data.map vu8), .blk b_16 .nw 23 [(32, (cF (kd, key, dm, data)).map vu8)], .blk b_8 .nw 118 [(1, [(vi kd)]), (32, key.map vu8), (1, [(vi dm)]), (1, [(.string (bstr data))])], .blk b_4 .nw 23 [(32, (zB 32).map vu8)], .blk b_1 .nw 56 [(1, [(vi kd)]), (32, key.map vu8), (1, [(vi dm)]), (1, [(.slice a_24 qn cap_25)])], .blk ob .nw 90 [(1, [(.bool false)]), (32, ms.map vu8), (1, [(.slice da dn dc)]), (1, [(vn u)]), (1, [(.map (some mp))]), (1, [(.slice la lg.length lc)])], .row la lg.length lc 64 67 lx, .pin (sblks lx) (fun w => Lgs w lx lg), .view da (df.map vu8), .view qa (data.map vu8), .blk bq .nw 56 [(1, [(vi kd)]), (32, key.map vu8), (1, [(vi dm)]), (1, [(.slice qa qn qc)])]]) (.q 0 (.q 1 (.q 2 (.q 3 (.q 4 (.q 5 (.q 6 (.q 7 (.q 8 (.q 9 (.s 10 .nil))))))))))) (by kernel_rfl) (by kernel_rfl) rfl (by kernel_rfl) (fun w_32 hc_34 => (SL.cons ((h_31.same hc_34).ok _ M0) (SL.cons ((h_31.same hc_34).ok _ M1) (SL.cons ((h_31.same hc_34).ok _ M2) (SL.cons ((h_31.same hc_34).ok _ M3) (SL.cons ((h_31.same hc_34).ok _ M4) (SL.cons ((h_31.same hc_34).ok _ M5) (SL.cons ((h_31.same hc_34).ok _ M6) (SL.cons ((h_31.same hc_34).ok _ M8) (SL.cons ((h_31.same hc_34).ok _ M9) (SL.cons ((h_31.same hc_34).ok _ M10) (SL.cons ((h_31.same hc_34).ok _ M11) (SL.nil _ _))))))))))))) (fun w_32 hc_34 => ?_)
 have h_33 := h_31.same hc_34
 refine qT rfl rfl (fun wq hS => R.move (v := (pO ob 0)) rfl) ?_
 refine qT rfl rfl (fun wq hS => R.nilCheck rfl) ?_
 refine qT rfl rfl (fun wq hS => R.fieldAddr (off' := 35) rfl underlying90 rfl sizeOf88 rfl rfl) ?_
 refine qT rfl rfl (fun wq hS => R.load1 rfl isAgg88 (hS _ M5) (Sg.t rfl (Sg.t rfl (Sg.t rfl (Sg.t rfl Sg.h))))) ?_
 refine qT rfl rfl (fun wq hS => R.loadA [] [(1, [(vi kd)]), (32, key.map vu8), (1, [(vi dm)]), (1, [(.string (bstr data))])] [] rfl isAgg118 sizeOf118 (hS _ M2) rfl rfl rfl rfl) ?_
 refine qT rfl rfl (fun wq hS => R.move (v := (pO ob 0)) rfl) ?_
 refine qT rfl rfl (fun wq hS => R.nilCheck rfl) ?_
 refine qT rfl rfl (fun wq hS => R.fieldAddr (off' := 36) rfl underlying90 rfl sizeOf61 rfl rfl) ?_
 refine qT rfl rfl (fun wq hS => R.load1 rfl isAgg61 (hS _ M5) (Sg.t rfl (Sg.t rfl (Sg.t rfl (Sg.t rfl (Sg.t rfl Sg.h)))))) ?_
 refine qT rfl rfl (fun wq hS => R.lenS (a := la) (m := lg.length) rfl rfl underlying61) ?_
 refine WT.s (oN rfl ?_)
 refine WL.mapUpdate (k := (.agg ⟨flat [(1, [(vi kd)]), (32, key.map vu8), (1, [(vi dm)]), (1, [(.string (bstr data))])]⟩)) (v := (vn (lg.length))) h_33 rfl rfl rfl underlying88 Y7 (by decide) (Ck.agg kt118 (by decide) ag118 (typQ (kd, key, dm, data) hq)) (log_miss kt118 (by decide) ag118 typQ hq hlo hfd) (fun w_35 h_36 => ?_)
 refine WL.nil ?_
 refine ⟨(SL.cons (h_36.ok _ M0) (SL.cons (h_36.ok _ M1) (SL.cons (h_36.ok _ M2) (SL.cons (h_36.ok _ M3) (SL.cons (h_36.ok _ M4) (SL.cons (h_36.ok _ M5) (SL.cons (h_36.ok _ M6) (SL.cons (h_36.ok _ M8) (SL.cons (h_36.ok _ M9) (SL.cons (h_36.ok _ M10) (SL.cons (h_36.ok _ M11) (SL.nil _ _)))))))))))), ?_⟩
 refine WT.nil (thn_n (WP.seq ?_))
 refine WP.cutG (G := Nat × Option Addr × Nat) [61, 62, 63, 64, 65, 66, 67, 68, 69, 70, 71, 72] (fun (bY11Y8Y0Y0, aY11Y9Y0Y0, cY11Y9Y0Y0) => [(61, (pO ob 0)), (62, (pO ob 0)), (63, (pO ob 0)), (64, (pO ob 36)), (66, (.agg ⟨flat [(1, [(vi kd)]), (32, key.map vu8), (1, [(vi dm)]), (1, [(.slice a_24 qn cap_25)])]⟩)), (67, (.agg ⟨(cF (kd, key, dm, data)).map vu8⟩)), (68, (.agg ⟨flat [(1, [(vi kd)]), (32, key.map vu8), (1, [(vi dm)]), (1, [(.slice a_24 qn cap_25)]), (32, (cF (kd, key, dm, data)).map vu8)]⟩)), (65, (.slice la lg.length lc)), (69, (.slice (some ⟨bY11Y8Y0Y0, 0, none⟩) 1 1)), (70, (.slice aY11Y9Y0Y0 (lg.length + 1) cY11Y9Y0Y0)), (71, (pO ob 0)), (72, (pO ob 36))]) (fun (bY11Y8Y0Y0, aY11Y9Y0Y0, cY11Y9Y0Y0) w1 => HP w00 w1 (Ent.blk bY11Y8Y0Y0 .nw 64 [(67, aC (kd, key, dm, data) (.slice a_24 qn cap_25) (cF (kd, key, dm, data)))] :: Ent.row a_24 qn cap_25 5 1 (data.map vu8) :: Ent.blk b_16 .nw 23 [(32, (cF (kd, key, dm, data)).map vu8)] :: Ent.blk b_8 .nw 118 [(1, [(vi kd)]), (32, key.map vu8), (1, [(vi dm)]), (1, [(.string (bstr data))])] :: Ent.blk b_4 .nw 23 [(32, (zB 32).map vu8)] :: Ent.blk b_1 .nw 56 [(1, [(vi kd)]), (32, key.map vu8), (1, [(vi dm)]), (1, [(.slice a_24 qn cap_25)])] :: Ent.blk ob .nw 90 [(1, [(.bool false)]), (32, ms.map vu8), (1, [(.slice da dn dc)]), (1, [(vn u)]), (1, [(.map (some mp))]), (1, [(.slice aY11Y9Y0Y0 (lg.length + 1) cY11Y9Y0Y0)])] :: Ent.row aY11Y9Y0Y0 (lg.length + 1) cY11Y9Y0Y0 64 67 (lx ++ aC (kd, key, dm, data) (.slice a_24 qn cap_25) (cF (kd, key, dm, data))) :: Ent.obj mp .nw (.map ((mArr lg).push { key := (.agg ⟨flat [(1, [(vi kd)]), (32, key.map vu8), (1, [(vi dm)]), (1, [(.string (bstr data))])]⟩), val := (vn (lg.length)), born := lg.length }) (lg.length + 1)) :: Ent.pin (sblks lx) (fun w => Lgs w lx lg) :: Ent.view da (df.map vu8) :: Ent.view qa (data.map vu8) :: Ent.blk bq .nw 56 [(1, [(vi kd)]), (32, key.map vu8), (1, [(vi dm)]), (1, [(.slice qa qn qc)])] :: L)) ?_ ?_
 ·refine WP.drawT (SL w00.heap.size [.row a_24 qn cap_25 5 1 (data.map vu8), .blk b_16 .nw 23 [(32, (cF (kd, key, dm, data)).map vu8)], .blk b_8 .nw 118 [(1, [(vi kd)]), (32, key.map vu8), (1, [(vi dm)]), (1, [(.string (bstr data))])], .blk b_4 .nw 23 [(32, (zB 32).map vu8)], .blk b_1 .nw 56 [(1, [(vi kd)]), (32, key.map vu8), (1, [(vi dm)]), (1, [(.slice a_24 qn cap_25)])], .obj mp .nw (.map ((mArr lg).push { key := (.agg ⟨flat [(1, [(vi kd)]), (32, key.map vu8), (1, [(vi dm)]), (1, [(.string (bstr data))])]⟩), val := (vn (lg.length)), born := lg.length }) (lg.length + 1)), .pin (sblks lx) (fun w => Lgs w lx lg), .view da (df.map vu8), .view qa (data.map vu8), .blk bq .nw 56 [(1, [(vi kd)]), (32, key.map vu8), (1, [(vi dm)]), (1, [(.slice qa qn qc)])]]) (.q 0 (.q 1 (.q 2 (.q 3 (.q 5 (.q 6 (.q 7 (.s2 4 8 (.s 8 (.s 9 (.q 10 (.q 11 (.s 12 .nil))))) (.s 4 (.s 9 (.q 10 (.q 11 (.s 12 .nil))))))))))))) (by kernel_rfl) (by kernel_rfl) rfl (by kernel_rfl) (fun w_37 hc_39 => (SL.cons ((h_36.same hc_39).ok _ M0) (SL.cons ((h_36.same hc_39).ok _ M1) (SL.cons ((h_36.same hc_39).ok _ M2) (SL.cons ((h_36.same hc_39).ok _ M3) (SL.cons ((h_36.same hc_39).ok _ M4) (SL.cons ((h_36.same hc_39).ok _ M7) (SL.cons ((h_36.same hc_39).ok _ M8) (SL.cons ((h_36.same hc_39).ok _ M9) (SL.cons ((h_36.same hc_39).ok _ M10) (SL.cons ((h_36.same hc_39).ok _ M11) (SL.nil _ _)))))))))))) (fun w_37 hc_39 => ?_)
  have h_38 := h_36.same hc_39
  refine qT rfl rfl (fun wq hS => R.move (v := (pO ob 0)) rfl) ?_
  refine qT rfl rfl (fun wq hS => R.move (v := (pO ob 0)) rfl) ?_
  refine qT rfl rfl (fun wq hS => R.nilCheck rfl) ?_
  refine qT rfl rfl (fun wq hS => R.fieldAddr (off' := 36) rfl underlying90 rfl sizeOf61 rfl rfl) ?_
  refine qT rfl rfl (fun wq hS => R.loadA [] [(1, [(vi kd)]), (32, key.map vu8), (1, [(vi dm)]), (1, [(.slice a_24 qn cap_25)])] [] rfl isAgg56 sizeOf56 (hS _ M4) rfl rfl rfl rfl) ?_
  refine qT rfl rfl (fun wq hS => R.loadA [] [(32, (cF (kd, key, dm, data)).map vu8)] [] (cs := (cF (kd, key, dm, data)).map vu8) rfl isAgg23 sizeOf23 (hS _ M1) rfl rfl rfl rfl) ?_
  refine qT rfl rfl (fun wq hS => R.buildS (pl := [(0, 35), (35, 32)]) (zs := [(1, [(vi 0)]), (32, (zB 32).map vu8), (1, [(vi 0)]), (1, [(.slice none 0 0)]), (32, (zB 32).map vu8)]) (vs := [(0, (.agg ⟨flat [(1, [(vi kd)]), (32, key.map vu8), (1, [(vi dm)]), (1, [(.slice a_24 qn cap_25)])]⟩)), (1, (.agg ⟨(cF (kd, key, dm, data)).map vu8⟩))]) (out := [(1, [(vi kd)]), (32, key.map vu8), (1, [(vi dm)]), (1, [(.slice a_24 qn cap_25)]), (32, (cF (kd, key, dm, data)).map vu8)]) underlying64 (zv typeInfo64 rfl) rfl (sC sV (sC (s8 lr) (sC sV (sC sV (sC (s8 lr) sN))))) (pl64 _ underlying64) rfl (FillR.cons [] [(1, [(vi 0)]), (32, (zB 32).map vu8), (1, [(vi 0)]), (1, [(.slice none 0 0)])] [(1, [(vi kd)]), (32, key.map vu8), (1, [(vi dm)]), (1, [(.slice a_24 qn cap_25)])] [(32, (zB 32).map vu8)] rfl rfl rfl rfl (sC sV (sC (s8 hq.1) (sC sV (sC sV sN)))) rfl rfl rfl (FillR.cons [(1, [(vi kd)]), (32, key.map vu8), (1, [(vi dm)]), (1, [(.slice a_24 qn cap_25)])] [(32, (zB 32).map vu8)] [(32, (cF (kd, key, dm, data)).map vu8)] [] rfl rfl rfl rfl (sC (s8 (cF_len _)) sN) rfl rfl rfl FillR.nil)) rfl) ?_
  refine WT.s2 ?_ ?_
  ·refine oN rfl ?_
   refine qV rfl (R.load1 rfl isAgg61 (h_38.ok _ M5) (Sg.t rfl (Sg.t rfl (Sg.t rfl (Sg.t rfl (Sg.t rfl Sg.h)))))) ?_
   refine WL.nil ?_
   refine ⟨(SL.cons (h_38.ok _ M0) (SL.cons (h_38.ok _ M1) (SL.cons (h_38.ok _ M2) (SL.cons (h_38.ok _ M3) (SL.cons (h_38.ok _ M4) (SL.cons (h_38.ok _ M7) (SL.cons (h_38.ok _ M8) (SL.cons (h_38.ok _ M9) (SL.cons (h_38.ok _ M10) (SL.cons (h_38.ok _ M11) (SL.nil _ _))))))))))), ?_⟩
   refine WT.s (oN rfl ?_)
   refine WL.buildSl (vs := [(0, (.agg ⟨flat [(1, [(vi kd)]), (32, key.map vu8), (1, [(vi dm)]), (1, [(.slice a_24 qn cap_25)]), (32, (cF (kd, key, dm, data)).map vu8)]⟩))]) (cs := aC (kd, key, dm, data) (.slice a_24 qn cap_25) (cF (kd, key, dm, data))) h_38 underlying61 sizeOf64 (zv typeInfo64 rfl) rfl rfl (fill_1 (zc := flat [(1, [vi 0]), (32, List.replicate 32 (vu8 0)), (1, [vi 0]), (1, [.slice none 0 0]), (32, List.replicate 32 (vu8 0))]) (by kernel_rfl) (sC (s := (67, flat [(1, [vi 0]), (32, List.replicate 32 (vu8 0)), (1, [vi 0]), (1, [.slice none 0 0]), (32, List.replicate 32 (vu8 0))])) ⟨by decide, SsOk.one (sC sV (sC (SOk.rep rfl) (sC sV (sC sV (sC (SOk.rep rfl) sN)))))⟩ sN) (aC_ok (q := (kd, key, dm, data)) (s := (.slice a_24 qn cap_25)) (d := cF (kd, key, dm, data)) hq.1 (cF_len _) rfl)) ((aC_ok (q := (kd, key, dm, data)) (s := (.slice a_24 qn cap_25)) (d := cF (kd, key, dm, data)) hq.1 (cF_len _) rfl)).head.len ((aC_ok (q := (kd, key, dm, data)) (s := (.slice a_24 qn cap_25)) (d := cF (kd, key, dm, data)) hq.1 (cF_len _) rfl)).head.one rfl rfl (fun b_41 w_42 h_43 => ?_)
   refine WL.nil ?_
   refine ⟨(N1_2_3_4_5_8_9_10_11_12 h_43.ok), ?_⟩
   refine WT.s (oN rfl ?_)
   refine WL.append (km := lg.length + 1) (xs := lx) (ys := aC (kd, key, dm, data) (.slice a_24 qn cap_25) (cF (kd, key, dm, data))) (zs := lx ++ aC (kd, key, dm, data) (.slice a_24 qn cap_25) (cF (kd, key, dm, data))) h_43 rfl rfl el61 (viewB (h_43.ok _ M0) Sg.h) ((aC_ok (q := (kd, key, dm, data)) (s := (.slice a_24 qn cap_25)) (d := cF (kd, key, dm, data)) hq.1 (cF_len _) rfl)).head.len ((aC_ok (q := (kd, key, dm, data)) (s := (.slice a_24 qn cap_25)) (d := cF (kd, key, dm, data)) hq.1 (cF_len _) rfl)).head.one rfl (by omega) (by omega) (by omega) (fun _ _ => Y7) rfl (fun a_44 c_45 w_46 h_47 => ?_)
   refine WL.nil ?_
   refine ⟨(N1_2_3_4_5_8_9_10_11_12 h_47.ok), ?_⟩
   refine qT rfl rfl (fun wq hS => R.nilCheck rfl) ?_
   refine qT rfl rfl (fun wq hS => R.fieldAddr (off' := 36) rfl underlying90 rfl sizeOf61 rfl rfl) ?_
   refine WT.s (oN rfl ?_)
   refine WL.store1 h_47 rfl rfl sizeOf61 rfl Y6 (by decide) (Sg.t rfl (Sg.t rfl (Sg.t rfl (Sg.t rfl (Sg.t rfl Sg.h))))) (fun w_48 h_49 => ?_)
   refine WL.nil ?_
   refine ⟨(N1_2_3_4_5_8_9_10_11_12 h_49.ok), ?_⟩
   refine WT.nil (thn_n ?_)
   exact ⟨(b_41, a_44, c_45), (U4 rfl rfl rfl rfl (U4 rfl rfl rfl rfl (U4 rfl rfl rfl rfl (Ag.refl _ _)))), ⟨rfl, rfl, rfl, rfl, rfl, rfl, rfl, rfl, rfl, rfl, rfl, rfl, trivial⟩, h_49⟩
  ·refine oN rfl ?_
   refine WL.buildSl (vs := [(0, (.agg ⟨flat [(1, [(vi kd)]), (32, key.map vu8), (1, [(vi dm)]), (1, [(.slice a_24 qn cap_25)]), (32, (cF (kd, key, dm, data)).map vu8)]⟩))]) (cs := aC (kd, key, dm, data) (.slice a_24 qn cap_25) (cF (kd, key, dm, data))) h_38 underlying61 sizeOf64 (zv typeInfo64 rfl) rfl rfl (fill_1 (zc := flat [(1, [vi 0]), (32, List.replicate 32 (vu8 0)), (1, [vi 0]), (1, [.slice none 0 0]), (32, List.replicate 32 (vu8 0))]) (by kernel_rfl) (sC (s := (67, flat [(1, [vi 0]), (32, List.replicate 32 (vu8 0)), (1, [vi 0]), (1, [.slice none 0 0]), (32, List.replicate 32 (vu8 0))])) ⟨by decide, SsOk.one (sC sV (sC (SOk.rep rfl) (sC sV (sC sV (sC (SOk.rep rfl) sN)))))⟩ sN) (aC_ok (q := (kd, key, dm, data)) (s := (.slice a_24 qn cap_25)) (d := cF (kd, key, dm, data)) hq.1 (cF_len _) rfl)) ((aC_ok (q := (kd, key, dm, data)) (s := (.slice a_24 qn cap_25)) (d := cF (kd, key, dm, data)) hq.1 (cF_len _) rfl)).head.len ((aC_ok (q := (kd, key, dm, data)) (s := (.slice a_24 qn cap_25)) (d := cF (kd, key, dm, data)) hq.1 (cF_len _) rfl)).head.one rfl rfl (fun b_50 w_51 h_52 => ?_)
   refine WL.nil ?_
   refine ⟨(N1_2_3_4_5_8_9_10_11_12 h_52.ok), ?_⟩
   refine WT.s (oN rfl ?_)
   refine qV rfl (R.load1 rfl isAgg61 (h_52.ok _ M6) (Sg.t rfl (Sg.t rfl (Sg.t rfl (Sg.t rfl (Sg.t rfl Sg.h)))))) ?_
   refine WL.nil ?_
   refine ⟨(N1_2_3_4_5_8_9_10_11_12 h_52.ok), ?_⟩
   refine WT.s (oN rfl ?_)
   refine WL.append (km := lg.length + 1) (xs := lx) (ys := aC (kd, key, dm, data) (.slice a_24 qn cap_25) (cF (kd, key, dm, data))) (zs := lx ++ aC (kd, key, dm, data) (.slice a_24 qn cap_25) (cF (kd, key, dm, data))) h_52 rfl rfl el61 (viewB (h_52.ok _ M0) Sg.h) ((aC_ok (q := (kd, key, dm, data)) (s := (.slice a_24 qn cap_25)) (d := cF (kd, key, dm, data)) hq.1 (cF_len _) rfl)).head.len ((aC_ok (q := (kd, key, dm, data)) (s := (.slice a_24 qn cap_25)) (d := cF (kd, key, dm, data)) hq.1 (cF_len _) rfl)).head.one rfl (by omega) (by omega) (by omega) (fun _ _ => Y7) rfl (fun a_53 c_54 w_55 h_56 => ?_)
   refine WL.nil ?_
   refine ⟨(N1_2_3_4_5_8_9_10_11_12 h_56.ok), ?_⟩
   refine qT rfl rfl (fun wq hS => R.nilCheck rfl) ?_
   refine qT rfl rfl (fun wq hS => R.fieldAddr (off' := 36) rfl underlying90 rfl sizeOf61 rfl rfl) ?_
   refine WT.s (oN rfl ?_)
   refine WL.store1 h_56 rfl rfl sizeOf61 rfl Y6 (by decide) (Sg.t rfl (Sg.t rfl (Sg.t rfl (Sg.t rfl (Sg.t rfl Sg.h))))) (fun w_57 h_58 => ?_)
   refine WL.nil ?_
   refine ⟨(N1_2_3_4_5_8_9_10_11_12 h_58.ok), ?_⟩
   refine WT.nil (thn_n ?_)
   exact ⟨(b_50, a_53, c_54), (U4 rfl rfl rfl rfl (U4 rfl rfl rfl rfl (U4 rfl rfl rfl rfl (Ag.refl _ _)))), ⟨rfl, rfl, rfl, rfl, rfl, rfl, rfl, rfl, rfl, rfl, rfl, rfl, trivial⟩, h_58⟩
 ·rintro ⟨b_62, a_63, c_64⟩ J_59 w_60 h_61
  refine thn_n (WP.seq (WP.reg ?_))
  refine qV rfl (R.loadA [] [(32, (cF (kd, key, dm, data)).map vu8)] [] (cs := (cF (kd, key, dm, data)).map vu8) rfl isAgg23 sizeOf23 (h_61.ok _ M2) rfl rfl rfl rfl) ?_
  refine WL.storeA [] [(32, (zB 32).map vu8)] [(32, (cF (kd, key, dm, data)).map vu8)] [] h_61 rfl rfl sizeOf23 Y4 (by decide) rfl rfl rfl rfl rfl rfl (sC (s8 (cF_len _)) sN) (fun w_65 h_66 => ?_)
  refine WL.nil (thn_n (WP.ret ?_))
  refine ret_of results46 (RV.cell rfl (h_66.loadA (cs := (cF (kd, key, dm, data)).map vu8) isAgg23 sizeOf23 M4 rfl rfl) RV.nil) ?_
  have h_83 := ((((((((((((((((h_66.drop rfl).up J1).drop rfl).up J1).drop rfl).up J1).drop rfl).up J1).drop rfl).up J7).up J7).up J7).up J6).up J6).up J6).up J7).up J7
  have h_84 := HP_logPush (q := (kd, key, dm, data)) (d := cF (kd, key, dm, data)) h_83 hq (cF_len _) hdl
  have h_96 := ((((((((((h_84.up J1).drop rfl).up J1).drop rfl).up J6).up J6).up J6).up J3).up J6).up J6).up J6
  have hse : lg.length + 1 = (lg ++ [((kd, key, dm, data), cF (kd, key, dm, data))]).length := snoc_len.symm
  have hme := mArr_push lg (kd, key, dm, data) (cF (kd, key, dm, data))
  have h_85 := h_96
  rw [hse] at h_85
  exact ⟨_, _, _, by rw [anD_miss hfd]; rfl, by rw [anU_miss hfd, anL_miss hfd]; show HP _ _ (_ :: _ :: .obj _ _ (.map (mArr (lg ++ [((kd, key, dm, data), cF (kd, key, dm, data))])) _) :: _); rw [hme]; exact h_85⟩

theorem c_ansG {w00 : World} {L : List Ent} (id : Bool) (ob mp : Nat) (ms df : List UInt8) (hms : ms.length = 32) (da : Option Addr) (dn dc u : Nat) (hdf : df.length = 32 * dn) (la : Option Addr) (lc : Nat) (lx : List Value) (lg : Lg) (hu : u ≤ 1000000) (hlg : lg.length ≤ 1000000) (kd dm : Int) (key data : List UInt8) (qa : Option Addr) (qn qc : Nat) (hq : okQ (kd, key, dm, data)) (hdl : data.length = qn) (bq : Nat) (w : World) (h_0 : HP w00 w (Ent.blk ob .nw 90 [(1, [(.bool id)]), (32, ms.map vu8), (1, [(.slice da dn dc)]), (1, [(vi ((u : Nat) : Int))]), (1, [(.map (some mp))]), (1, [(.slice la lg.length lc)])] :: Ent.row la lg.length lc 64 67 lx :: Ent.obj mp .nw (.map (mArr lg) lg.length) :: Ent.pin (sblks lx) (fun w => Lgs w lx lg) :: Ent.view da (df.map vu8) :: Ent.view qa (data.map vu8) :: Ent.blk bq .nw 56 [(1, [(vi kd)]), (32, key.map vu8), (1, [(vi dm)]), (1, [(.slice qa qn qc)])] :: L)) :
  Cs Try.prog 46 [(.pointer (some ⟨ob, 0, none⟩)), (.agg ⟨flat [(1, [(vi kd)]), (32, key.map vu8), (1, [(vi dm)]), (1, [(.slice qa qn qc)])]⟩), (Value.func (Fn.func 47) [].toArray [(Value.pointer (some ⟨bq, 0, none⟩))].toArray)].toArray w (fun v w1 => ∃ la' lc' lx', v = (.agg ⟨(anD id df dn u lg (kd, key, dm, data)).map vu8⟩) ∧ HP w00 w1 (Ent.blk ob .nw 90 [(1, [(.bool id)]), (32, ms.map vu8), (1, [(.slice da dn dc)]), (1, [(vi (((anU id u lg (kd, key, dm, data)) : Nat) : Int))]), (1, [(.map (some mp))]), (1, [(.slice la' ((anL id df dn u lg (kd, key, dm, data)).length) lc')])] :: Ent.row la' ((anL id df dn u lg (kd, key, dm, data)).length) lc' 64 67 lx' :: Ent.obj mp .nw (.map (mArr (anL id df dn u lg (kd, key, dm, data))) ((anL id df dn u lg (kd, key, dm, data)).length)) :: Ent.pin (sblks lx') (fun w => Lgs w lx' (anL id df dn u lg (kd, key, dm, data))) :: Ent.view da (df.map vu8) :: Ent.view qa (data.map vu8) :: Ent.blk bq .nw 56 [(1, [(vi kd)]), (32, key.map vu8), (1, [(vi dm)]), (1, [(.slice qa qn qc)])] :: L)) := by
 cases hfd : fdq (kd, key, dm, data) lg 0 with
 | none => cases id with
  | true => exact c_ans_missT ob mp ms df hms da dn dc u hdf la lc lx lg hu hlg kd dm key data qa qn qc hq hdl _ hfd w h_0
  | false => exact c_ans_missF ob mp ms df hms da dn dc u hdf la lc lx lg hu hlg kd dm key data qa qn qc hq hdl bq hfd w h_0
 | some i => exact c_ans_hit id ob mp ms df hms da dn dc u hdf la lc lx lg hu hlg kd dm key data qa qn qc hq hdl _ i hfd w h_0
end Go.Proofs.Yteclkcpdclimnaa

namespace Go.Proofs.Yteclkcpdclimnaa
open Go.Proofs.Try
open Go.Vc Go.Orc Go.Sh Go.RowKit
set_option maxRecDepth 20000
theorem kt23 : Try.prog.keyTypeAt 2 23 = true := by kernel_rfl
theorem ag23 : aggB Try.prog 23 = true := by unfold aggB; rw [underlying23]
theorem c_othere (id : Bool) (ob mp : Nat) (ms : List UInt8) (hms : ms.length = 32) (da : Option Addr) (dn dc u : Nat) (la : Option Addr) (ln lc : Nat) (w : World) (hcb : (Ent.blk ob .ro 90 [(1, [(.bool id)]), (32, ms.map vu8), (1, [(.slice da dn dc)]), (1, [(vi ((u : Nat) : Int))]), (1, [(.map (some mp))]), (1, [(.slice la ln lc)])]).ok w.heap.size w) :
  Cs Try.prog 44 [(.pointer (some ⟨ob, 0, none⟩))].toArray w (fun v w1 => v = (.bool true) ∧ Chg w w1 []) := by
 refine Cs.of (n := 12) (args := [(pO ob 0)]) Try.func44 rfl rfl rfl ?_
 have h_0 := HP.init w
 have h_00 := h_0.old hcb (fun f hf => by cases hf)
 refine WP.seq (WP.reg ?_)
 refine qA (.bool false) rfl rfl ?_
 refine WL.nil (thn_n (WP.seq (WP.reg ?_)))
 refine qM (pO ob 0) rfl rfl (qV rfl (R.neNilP rfl rfl underlying32) (qM (.bool true) rfl rfl ?_))
 refine WL.want rfl rfl ?_
 refine qM (pO ob 0) rfl rfl ?_
 refine WL.want rfl rfl ?_
 refine qV rfl (R.nilCheck rfl) ?_
 refine WL.want rfl rfl ?_
 refine qV rfl (R.fieldAddr (off' := 35) rfl underlying90 rfl sizeOf88 rfl rfl) ?_
 refine WL.want rfl rfl ?_
 refine qV rfl (R.load1 rfl isAgg88 (h_00.ok _ M0) (Sg.t rfl (Sg.t rfl (Sg.t rfl (Sg.t rfl Sg.h))))) ?_
 refine WL.want rfl rfl ?_
 refine qV rfl (R.neNilM rfl rfl underlying88) (qV rfl (R.pickT (v := (.bool true)) rfl rfl) (qA (.bool true) rfl rfl ?_))
 refine WL.nil (thn_n (WP.ret ?_))
 refine ret_of results44 (RV.tmp (v := (.bool true)) rfl RV.nil) ?_
 exact ⟨rfl, h_00.chgS⟩

theorem c_may (kd dm : Int) (key : List UInt8) (qa : Option Addr) (qn qc : Nat) (hk : key.length = 32) (h1 : 1 ≤ kd ∧ kd ≤ 4) (h2 : 1 ≤ dm ∧ dm ≤ 16) (hz : kd = 1 → key = List.replicate 32 0) (w : World) :
  Cs Try.prog 45 [(.agg ⟨flat [(1, [(vi kd)]), (32, key.map vu8), (1, [(vi dm)]), (1, [(.slice qa qn qc)])]⟩)].toArray w (fun v w1 => v = (.bool true) ∧ Chg w w1 []) := by
 refine Cs.of (n := 32) (args := [(.agg ⟨flat [(1, [(vi kd)]), (32, key.map vu8), (1, [(vi dm)]), (1, [(.slice qa qn qc)])]⟩)]) Try.func45 rfl rfl rfl ?_
 have h_0 := HP.init w
 refine WP.seq (WP.reg ?_)
 refine WL.box (segs := [(1, [(vi kd)]), (32, key.map vu8), (1, [(vi dm)]), (1, [(.slice qa qn qc)])]) h_0 rfl rfl (sC sV (sC (s8 hk) (sC sV (sC sV sN)))) rfl (fun b_1 w_2 h_3 => ?_)
 refine qA (.bool false) rfl rfl ?_
 refine WL.nil (thn_n (WP.seq (WP.reg ?_)))
 refine qV rfl (R.fieldAddr (off' := 0) rfl underlying56 rfl sizeOf52 rfl rfl) (qV rfl (R.load1 rfl isAgg52 (h_3.ok _ M0) Sg.h) (qV rfl (R.bin rfl rfl (bi_geq (r := decide ((kd : Int) ≥ 1)) rfl)) (qM (.bool (decide ((kd : Int) ≥ 1))) rfl rfl ?_)))
 refine WL.want rfl (congrArg Value.bool (decide_eq_true (by omega))) ?_
 refine qV rfl (R.fieldAddr (off' := 0) rfl underlying56 rfl sizeOf52 rfl rfl) ?_
 refine WL.want rfl (congrArg Value.bool (decide_eq_true (by omega))) ?_
 refine qV rfl (R.load1 rfl isAgg52 (h_3.ok _ M0) Sg.h) ?_
 refine WL.want rfl (congrArg Value.bool (decide_eq_true (by omega))) ?_
 refine qV rfl (R.bin rfl rfl (bi_leq (r := decide ((kd : Int) ≤ 4)) rfl)) (qV rfl (R.pickT (v := (.bool (decide ((kd : Int) ≤ 4)))) (congrArg Value.bool (decide_eq_true (by omega))) rfl) (qM (.bool (decide ((kd : Int) ≤ 4))) rfl rfl ?_))
 refine WL.want rfl (congrArg Value.bool (decide_eq_true (by omega))) ?_
 refine qV rfl (R.fieldAddr (off' := 33) rfl underlying56 rfl sizeOf53 rfl rfl) ?_
 refine WL.want rfl (congrArg Value.bool (decide_eq_true (by omega))) ?_
 refine qV rfl (R.load1 rfl isAgg53 (h_3.ok _ M0) (Sg.t rfl (Sg.t rfl Sg.h))) ?_
 refine WL.want rfl (congrArg Value.bool (decide_eq_true (by omega))) ?_
 refine qV rfl (R.bin rfl rfl (bi_geq (r := decide ((dm : Int) ≥ 1)) rfl)) (qV rfl (R.pickT (v := (.bool (decide ((dm : Int) ≥ 1)))) (congrArg Value.bool (decide_eq_true (by omega))) rfl) (qM (.bool (decide ((dm : Int) ≥ 1))) rfl rfl ?_))
 refine WL.want rfl (congrArg Value.bool (decide_eq_true (by omega))) ?_
 refine qV rfl (R.fieldAddr (off' := 33) rfl underlying56 rfl sizeOf53 rfl rfl) ?_
 refine WL.want rfl (congrArg Value.bool (decide_eq_true (by omega))) ?_
 refine qV rfl (R.load1 rfl isAgg53 (h_3.ok _ M0) (Sg.t rfl (Sg.t rfl Sg.h))) ?_
 refine WL.want rfl (congrArg Value.bool (decide_eq_true (by omega))) ?_
 refine qV rfl (R.bin rfl rfl (bi_leq (r := decide ((dm : Int) ≤ 16)) rfl)) (qV rfl (R.pickT (v := (.bool (decide ((dm : Int) ≤ 16)))) (congrArg Value.bool (decide_eq_true (by omega))) rfl) (qM (.bool (decide ((dm : Int) ≤ 16))) rfl rfl ?_))
 refine WL.want rfl (congrArg Value.bool (decide_eq_true (by omega))) ?_
 refine qV rfl (R.fieldAddr (off' := 0) rfl underlying56 rfl sizeOf52 rfl rfl) ?_
 refine WL.want rfl (congrArg Value.bool (decide_eq_true (by omega))) ?_
 refine qV rfl (R.load1 rfl isAgg52 (h_3.ok _ M0) Sg.h) ?_
 refine WL.want rfl (congrArg Value.bool (decide_eq_true (by omega))) ?_
 refine qV rfl (R.bin rfl rfl (bi_neq (r := decide ((kd : Int) ≠ 1)) rfl)) ?_
 refine WL.want rfl (congrArg Value.bool (decide_eq_true (by omega))) ?_
 refine qM (.bool (decide ((kd : Int) ≠ 1))) rfl rfl ?_
 rcases Bool.eq_false_or_eq_true (decide ((kd : Int) ≠ 1)) with c_4 | c_4
 ·have p_5 := of_decide_eq_true c_4
  refine WL.skip rfl (congrArg Value.bool c_4) rfl ?_
  refine WL.skip rfl (congrArg Value.bool c_4) rfl ?_
  refine WL.skip rfl (congrArg Value.bool c_4) rfl ?_
  refine WL.skip rfl (congrArg Value.bool c_4) rfl ?_
  refine WL.want rfl (congrArg Value.bool (decide_eq_true (by omega))) ?_
  refine qV rfl (R.pickT (v := (.bool true)) (congrArg Value.bool c_4) rfl) (qV rfl (R.pickT (v := (.bool true)) (congrArg Value.bool (decide_eq_true (by omega))) rfl) (qA (.bool true) rfl rfl ?_))
  refine WL.nil (thn_n (WP.ret ?_))
  refine ret_of results45 (RV.tmp (v := (.bool true)) rfl RV.nil) ?_
  exact ⟨rfl, h_3.chgS⟩
 ·have p_6 := of_decide_eq_false c_4
  refine WL.want rfl (congrArg Value.bool c_4) ?_
  refine qV rfl (R.fieldAddr (off' := 1) rfl underlying56 rfl sizeOf23 rfl rfl) ?_
  refine WL.want rfl (congrArg Value.bool c_4) ?_
  refine qV rfl (R.loadA [(1, [(vi kd)])] [(32, key.map vu8)] [(1, [(vi dm)]), (1, [(.slice qa qn qc)])] (cs := key.map vu8) rfl isAgg23 sizeOf23 (h_3.ok _ M0) rfl rfl rfl rfl) ?_
  refine WL.want rfl (congrArg Value.bool c_4) ?_
  refine qV rfl (R.buildA (vs := []) (cs := (zB 32).map vu8) underlying23 sizeOf5 (zv typeInfo23 rfl) rfl rfl) ?_
  refine WL.want rfl (congrArg Value.bool c_4) ?_
  refine qV rfl (R.eqA (xs := key.map vu8) (ys := (zB 32).map vu8) (r := true) rfl rfl eqGuardType23 kt23 (by decide) ag23 (Typ.u8s underlying23 ce23 underlying5 ce5 hk) (Typ.u8s underlying23 ce23 underlying5 ce5 lr) (eqT (by rw [hz (by omega)]))) ?_
  refine WL.want rfl (congrArg Value.bool (decide_eq_true (by omega))) ?_
  refine qV rfl (R.pickF (v := (.bool true)) (congrArg Value.bool c_4) rfl) (qV rfl (R.pickT (v := (.bool true)) (congrArg Value.bool (decide_eq_true (by omega))) rfl) (qA (.bool true) rfl rfl ?_))
  refine WL.nil (thn_n (WP.ret ?_))
  refine ret_of results45 (RV.tmp (v := (.bool true)) rfl RV.nil) ?_
  exact ⟨rfl, h_3.chgS⟩

theorem c_oAsk {w00 : World} {L : List Ent} (id : Bool) (ob mp : Nat) (ms df : List UInt8) (hms : ms.length = 32) (da : Option Addr) (dn dc u : Nat) (hdf : df.length = 32 * dn) (la : Option Addr) (lc : Nat) (lx : List Value) (lg : Lg) (hu : u ≤ 1000000) (hlg : lg.length ≤ 1000000) (kd dm : Int) (key data : List UInt8) (qa : Option Addr) (qn qc : Nat) (hq : okQ (kd, key, dm, data)) (hdl : data.length = qn) (hk4 : ¬ kd = 4) (hz : kd = 1 → key = List.replicate 32 0) (w : World) (h_0 : HP w00 w (Ent.blk ob .nw 90 [(1, [(.bool id)]), (32, ms.map vu8), (1, [(.slice da dn dc)]), (1, [(vi ((u : Nat) : Int))]), (1, [(.map (some mp))]), (1, [(.slice la lg.length lc)])] :: Ent.row la lg.length lc 64 67 lx :: Ent.obj mp .nw (.map (mArr lg) lg.length) :: Ent.pin (sblks lx) (fun w => Lgs w lx lg) :: Ent.view da (df.map vu8) :: Ent.view qa (data.map vu8) :: L)) :
  Cs Try.prog 23 [(.pointer (some ⟨ob, 0, none⟩)), (.agg ⟨flat [(1, [(vi kd)]), (32, key.map vu8), (1, [(vi dm)]), (1, [(.slice qa qn qc)])]⟩)].toArray w (fun v w1 => ∃ la' lc' lx', v = (.tuple [(.agg ⟨(anD id df dn u lg (kd, key, dm, data)).map vu8⟩), (vi 0)].toArray) ∧ HP w00 w1 (Ent.blk ob .nw 90 [(1, [(.bool id)]), (32, ms.map vu8), (1, [(.slice da dn dc)]), (1, [(vi (((anU id u lg (kd, key, dm, data)) : Nat) : Int))]), (1, [(.map (some mp))]), (1, [(.slice la' ((anL id df dn u lg (kd, key, dm, data)).length) lc')])] :: Ent.row la' ((anL id df dn u lg (kd, key, dm, data)).length) lc' 64 67 lx' :: Ent.obj mp .nw (.map (mArr (anL id df dn u lg (kd, key, dm, data))) ((anL id df dn u lg (kd, key, dm, data)).length)) :: Ent.pin (sblks lx') (fun w => Lgs w lx' (anL id df dn u lg (kd, key, dm, data))) :: Ent.view da (df.map vu8) :: Ent.view qa (data.map vu8) :: L)) := by
 refine Cs.of (n := 25) (args := [(pO ob 0), (.agg ⟨flat [(1, [(vi kd)]), (32, key.map vu8), (1, [(vi dm)]), (1, [(.slice qa qn qc)])]⟩)]) Try.func23 rfl rfl rfl ?_
 refine WP.seq (WP.reg ?_)
 refine WL.box (segs := [(1, [(vi kd)]), (32, key.map vu8), (1, [(vi dm)]), (1, [(.slice qa qn qc)])]) h_0 rfl rfl (sC sV (sC (s8 hq.1) (sC sV (sC sV sN)))) rfl (fun b_1 w_2 h_3 => ?_)
 refine WL.alloc (segs := [(32, (zB 32).map vu8)]) h_3 (zv typeInfo23 rfl) rfl (sC (s8 lr) sN) rfl (fun b_4 w_5 h_6 => ?_)
 refine qA (vi 0) rfl rfl ?_
 refine WL.nil (thn_n (WP.seq (WP.block (WP.seq (WP.reg ?_)))))
 refine qM (pO ob 0) rfl rfl ?_
 refine WL.call Try.call44 rfl rfl (c_othere id ob mp ms hms da dn dc u la lg.length lc _ (h_6.argR M2)) rfl ?_
 rintro _ w_8 ⟨rfl, hc_7⟩
 have h_9 := h_6.same hc_7
 refine qV rfl (R.not (b := true) rfl) (qA (.bool false) rfl rfl ?_)
 refine WL.nil (thn_n ?_)
 refine WP.condF rfl ?_
 refine WP.seq (WP.reg ?_)
 refine qV rfl (R.loadA [] [(1, [(vi kd)]), (32, key.map vu8), (1, [(vi dm)]), (1, [(.slice qa qn qc)])] [] rfl isAgg56 sizeOf56 (h_9.ok _ M1) rfl rfl rfl rfl) ?_
 refine WL.call Try.call45 rfl rfl (c_may kd dm key qa qn qc hq.1 (hq.2.1) (hq.2.2.1) hz _ ) rfl ?_
 rintro _ w_11 ⟨rfl, hc_10⟩
 have h_12 := h_9.same hc_10
 refine qV rfl (R.not (b := true) rfl) (qM (.bool false) rfl rfl ?_)
 refine WL.want rfl rfl ?_
 refine qV rfl (R.fieldAddr (off' := 0) rfl underlying56 rfl sizeOf52 rfl rfl) ?_
 refine WL.want rfl rfl ?_
 refine qV rfl (R.load1 rfl isAgg52 (h_12.ok _ M1) Sg.h) ?_
 refine WL.want rfl rfl ?_
 refine qV rfl (R.bin rfl rfl (bi_eql (r := decide ((kd : Int) = 4)) rfl)) (qV rfl (R.pickF (v := (.bool (decide ((kd : Int) = 4)))) rfl rfl) (qA (.bool (decide ((kd : Int) = 4))) rfl rfl ?_))
 refine WL.nil (thn_n ?_)
 refine WP.condF (congrArg Value.bool (decide_eq_false hk4)) ?_
 refine WP.skip (inb_n (thn_n (WP.seq (WP.reg ?_))))
 refine qM (pO ob 0) rfl rfl (qV rfl (R.loadA [] [(1, [(vi kd)]), (32, key.map vu8), (1, [(vi dm)]), (1, [(.slice qa qn qc)])] [] rfl isAgg56 sizeOf56 (h_12.ok _ M1) rfl rfl rfl rfl) (qV rfl (R.makeFuncL (fi := []) (ca := [(pO b_1 0)]) rfl rfl) ?_))
 have h_19 := ((((((h_12.up J1).up J7).up J7).up J7).up J7).up J7).up J7
 have h32_w_23 := (Lgs.ok32 (h_19.ok _ M3).1)
 refine WL.call Try.call46 rfl rfl (c_ansG id ob mp ms df hms da dn dc u hdf la lc lx lg (by first | decide | omega) (by first | decide | omega) kd dm key data qa qn qc hq hdl b_1 _ h_19) rfl ?_
 rintro _ w_23 ⟨la_20, lc_21, lx_22, rfl, h_24⟩
 refine WL.storeA [] [(32, (zB 32).map vu8)] [(32, (anD id df dn u lg (kd, key, dm, data)).map vu8)] [] h_24 rfl rfl sizeOf23 Y7 (by decide) rfl rfl rfl rfl rfl rfl (sC (s8 (anD_len hdf h32_w_23)) sN) (fun w_25 h_26 => ?_)
 refine qA (vi 0) rfl rfl ?_
 refine WL.nil (thn_n (WP.ret ?_))
 refine ret_of results23 (RV.cell rfl (h_26.loadA (cs := (anD id df dn u lg (kd, key, dm, data)).map vu8) isAgg23 sizeOf23 M7 rfl rfl) (RV.tmp (v := (vi 0)) rfl RV.nil)) ?_
 have h_36 := (((((((((h_26.up J6).drop rfl).up J6).drop rfl).up J5).up J5).up J5).up J5).up J5).up J5
 exact ⟨_, _, _, rfl, h_36⟩
end Go.Proofs.Yteclkcpdclimnaa

namespace Go.Proofs.Yteclkcpdclimnaa
open Go.Proofs.Try
open Go.Vc Go.Orc Go.Sh Go.RowKit
set_option maxRecDepth 20000
theorem pl56 : ∀ fs, Try.prog.underlying 56 = some (.struct fs) → Places Try.prog fs [(0, 1), (1, 32), (33, 1), (34, 1)] := by
 intro fs h w; rw [underlying56] at h; cases h; simp
theorem pl90 : ∀ fs, Try.prog.underlying 90 = some (.struct fs) → Places Try.prog fs [(0, 1), (1, 32), (33, 1), (34, 1), (35, 1), (36, 1)] := by
 intro fs h w; rw [underlying90] at h; cases h; simp
theorem c_ONew {w00 : World} {L : List Ent} (id : Bool) (ms df : List UInt8) (hms : ms.length = 32) (a : Option Addr) (n cap : Nat) (hl : df.length = 32 * n) (hn : n ≤ 1000000) (w : World) (h_0 : HP w00 w (Ent.view a (df.map vu8) :: L)) :
  Cs Try.prog 17 [(.bool id), (.agg ⟨ms.map vu8⟩), (.slice a n cap)].toArray w (fun v w1 => ∃ ob mp da dc, v = .pointer (some ⟨ob, 0, none⟩) ∧ HP w00 w1 (Ent.blk ob .nw 90 [(1, [(.bool id)]), (32, ms.map vu8), (1, [(.slice da n dc)]), (1, [(vi 0)]), (1, [(.map (some mp))]), (1, [(.slice none 0 0)])] :: Ent.row none 0 0 64 67 [] :: Ent.obj mp .nw (.map (mArr ([] : Lg)) 0) :: Ent.pin (sblks []) (fun w => Lgs w [] ([] : Lg)) :: Ent.view da (df.map vu8) :: Ent.view a (df.map vu8) :: L)) := by
 refine Cs.of (n := 14) (args := [(.bool id), (.agg ⟨ms.map vu8⟩), (.slice a n cap)]) Try.func17 rfl rfl rfl ?_
 refine WP.seq (WP.reg ?_)
 refine WL.box (segs := [(32, ms.map vu8)]) h_0 rfl rfl (sC (s8 hms) sN) rfl (fun b_1 w_2 h_3 => ?_)
 refine qA (.pointer none) rfl rfl ?_
 refine WL.nil (thn_n (WP.seq ?_))
 refine WP.cutG (G := Nat × Option Addr × Nat × Nat) [6, 7, 8, 9, 10, 11, 12, 13] (fun (bY1Y6Y0Y0, aY1Y3Y0Y0, capY1Y3Y0Y0, bY1Y4Y0Y0) => [(6, (pO bY1Y6Y0Y0 0)), (7, (.bool id)), (8, (.agg ⟨ms.map vu8⟩)), (9, (.slice a n cap)), (10, (.slice aY1Y3Y0Y0 n capY1Y3Y0Y0)), (11, (.map (some bY1Y4Y0Y0))), (12, (.agg ⟨flat [(1, [(.bool id)]), (32, ms.map vu8), (1, [(.slice aY1Y3Y0Y0 n capY1Y3Y0Y0)]), (1, [(vi 0)]), (1, [(.map (some bY1Y4Y0Y0))]), (1, [(.slice none 0 0)])]⟩)), (13, (pO bY1Y6Y0Y0 0))]) (fun (bY1Y6Y0Y0, aY1Y3Y0Y0, capY1Y3Y0Y0, bY1Y4Y0Y0) w1 => HP w00 w1 (Ent.blk bY1Y6Y0Y0 .nw 90 [(1, [(.bool id)]), (32, ms.map vu8), (1, [(.slice aY1Y3Y0Y0 n capY1Y3Y0Y0)]), (1, [(vi 0)]), (1, [(.map (some bY1Y4Y0Y0))]), (1, [(.slice none 0 0)])] :: Ent.obj bY1Y4Y0Y0 .nw (.map (#[]) 0) :: Ent.row aY1Y3Y0Y0 n capY1Y3Y0Y0 23 32 (df.map vu8) :: Ent.blk b_1 .nw 23 [(32, ms.map vu8)] :: Ent.view a (df.map vu8) :: L)) ?_ ?_
 ·refine WP.drawT (SL w00.heap.size [.blk b_1 .nw 23 [(32, ms.map vu8)], .view a (df.map vu8)]) (.q 0 (.q 1 (.q 2 (.s2 3 4 (.s 4 (.q 5 (.s 6 (.q 7 .nil)))) (.s 3 (.q 5 (.s 6 (.q 7 .nil)))))))) (by kernel_rfl) (by kernel_rfl) rfl (by kernel_rfl) (fun w_4 hc_6 => (SL.cons ((h_3.same hc_6).ok _ M0) (SL.cons ((h_3.same hc_6).ok _ M1) (SL.nil _ _)))) (fun w_4 hc_6 => ?_)
  have h_5 := h_3.same hc_6
  refine qT rfl rfl (fun wq hS => R.move (v := (.bool id)) rfl) ?_
  refine qT rfl rfl (fun wq hS => R.loadA [] [(32, ms.map vu8)] [] (cs := ms.map vu8) rfl isAgg23 sizeOf23 (hS _ M0) rfl rfl rfl rfl) ?_
  refine qT rfl rfl (fun wq hS => R.move (v := (.slice a n cap)) rfl) ?_
  refine WT.s2 ?_ ?_
  ·refine oN rfl ?_
   refine WL.call Try.call39 rfl rfl (c_CloneD a n cap df hl (by omega) _ (viewV (h_5.ok _ M1))) rfl ?_
   rintro _ w_9 ⟨a_7, cap_8, rfl, hc_10, ho_11⟩
   have h_12 := h_5.gotRow hc_10 ho_11
   refine WL.nil ?_
   refine ⟨(N1_2 h_12.ok), ?_⟩
   refine WT.s (oN rfl ?_)
   refine WL.makeMap h_12 rfl (fun b_13 w_14 h_15 => ?_)
   refine WL.nil ?_
   refine ⟨(N2_3 h_15.ok), ?_⟩
   refine qT rfl rfl (fun wq hS => R.buildS (pl := [(0, 1), (1, 32), (33, 1), (34, 1), (35, 1), (36, 1)]) (zs := [(1, [(.bool false)]), (32, (zB 32).map vu8), (1, [(.slice none 0 0)]), (1, [(vi 0)]), (1, [(.map none)]), (1, [(.slice none 0 0)])]) (vs := [(0, (.bool id)), (1, (.agg ⟨ms.map vu8⟩)), (2, (.slice a_7 n cap_8)), (4, (.map (some b_13)))]) (out := [(1, [(.bool id)]), (32, ms.map vu8), (1, [(.slice a_7 n cap_8)]), (1, [(vi 0)]), (1, [(.map (some b_13))]), (1, [(.slice none 0 0)])]) underlying90 (zv typeInfo90 rfl) rfl (sC sV (sC (s8 lr) (sC sV (sC sV (sC sV (sC sV sN)))))) (pl90 _ underlying90) rfl (FillR.cons [] [(1, [(.bool false)])] [(1, [(.bool id)])] [(32, (zB 32).map vu8), (1, [(.slice none 0 0)]), (1, [(vi 0)]), (1, [(.map none)]), (1, [(.slice none 0 0)])] rfl rfl rfl rfl (sC sV sN) rfl rfl rfl (FillR.cons [(1, [(.bool id)])] [(32, (zB 32).map vu8)] [(32, ms.map vu8)] [(1, [(.slice none 0 0)]), (1, [(vi 0)]), (1, [(.map none)]), (1, [(.slice none 0 0)])] rfl rfl rfl rfl (sC (s8 hms) sN) rfl rfl rfl (FillR.cons [(1, [(.bool id)]), (32, ms.map vu8)] [(1, [(.slice none 0 0)])] [(1, [(.slice a_7 n cap_8)])] [(1, [(vi 0)]), (1, [(.map none)]), (1, [(.slice none 0 0)])] rfl rfl rfl rfl (sC sV sN) rfl rfl rfl (FillR.cons [(1, [(.bool id)]), (32, ms.map vu8), (1, [(.slice a_7 n cap_8)]), (1, [(vi 0)])] [(1, [(.map none)])] [(1, [(.map (some b_13))])] [(1, [(.slice none 0 0)])] rfl rfl rfl rfl (sC sV sN) rfl rfl rfl FillR.nil)))) rfl) ?_
   refine WT.s (oN rfl ?_)
   refine WL.box (segs := [(1, [(.bool id)]), (32, ms.map vu8), (1, [(.slice a_7 n cap_8)]), (1, [(vi 0)]), (1, [(.map (some b_13))]), (1, [(.slice none 0 0)])]) h_15 rfl rfl (sC sV (sC (s8 hms) (sC sV (sC sV (sC sV (sC sV sN)))))) rfl (fun b_17 w_18 h_19 => ?_)
   refine WL.nil ?_
   refine ⟨(N3_4 h_19.ok), ?_⟩
   refine qT rfl rfl (fun wq hS => R.assign (v := (pO b_17 0)) rfl) ?_
   refine WT.nil (thn_n ?_)
   exact ⟨(b_17, a_7, cap_8, b_13), (U4 rfl rfl rfl rfl (U4 rfl rfl rfl rfl (Ag.refl _ _))), ⟨rfl, rfl, rfl, rfl, rfl, rfl, rfl, rfl, trivial⟩, h_19⟩
  ·refine oN rfl ?_
   refine WL.makeMap h_5 rfl (fun b_20 w_21 h_22 => ?_)
   refine WL.nil ?_
   refine ⟨(N1_2 h_22.ok), ?_⟩
   refine WT.s (oN rfl ?_)
   refine WL.call Try.call39 rfl rfl (c_CloneD a n cap df hl (by omega) _ (viewV (h_22.ok _ M2))) rfl ?_
   rintro _ w_25 ⟨a_23, cap_24, rfl, hc_26, ho_27⟩
   have h_28 := h_22.gotRow hc_26 ho_27
   refine WL.nil ?_
   refine ⟨(N2_3 h_28.ok), ?_⟩
   refine qT rfl rfl (fun wq hS => R.buildS (pl := [(0, 1), (1, 32), (33, 1), (34, 1), (35, 1), (36, 1)]) (zs := [(1, [(.bool false)]), (32, (zB 32).map vu8), (1, [(.slice none 0 0)]), (1, [(vi 0)]), (1, [(.map none)]), (1, [(.slice none 0 0)])]) (vs := [(0, (.bool id)), (1, (.agg ⟨ms.map vu8⟩)), (2, (.slice a_23 n cap_24)), (4, (.map (some b_20)))]) (out := [(1, [(.bool id)]), (32, ms.map vu8), (1, [(.slice a_23 n cap_24)]), (1, [(vi 0)]), (1, [(.map (some b_20))]), (1, [(.slice none 0 0)])]) underlying90 (zv typeInfo90 rfl) rfl (sC sV (sC (s8 lr) (sC sV (sC sV (sC sV (sC sV sN)))))) (pl90 _ underlying90) rfl (FillR.cons [] [(1, [(.bool false)])] [(1, [(.bool id)])] [(32, (zB 32).map vu8), (1, [(.slice none 0 0)]), (1, [(vi 0)]), (1, [(.map none)]), (1, [(.slice none 0 0)])] rfl rfl rfl rfl (sC sV sN) rfl rfl rfl (FillR.cons [(1, [(.bool id)])] [(32, (zB 32).map vu8)] [(32, ms.map vu8)] [(1, [(.slice none 0 0)]), (1, [(vi 0)]), (1, [(.map none)]), (1, [(.slice none 0 0)])] rfl rfl rfl rfl (sC (s8 hms) sN) rfl rfl rfl (FillR.cons [(1, [(.bool id)]), (32, ms.map vu8)] [(1, [(.slice none 0 0)])] [(1, [(.slice a_23 n cap_24)])] [(1, [(vi 0)]), (1, [(.map none)]), (1, [(.slice none 0 0)])] rfl rfl rfl rfl (sC sV sN) rfl rfl rfl (FillR.cons [(1, [(.bool id)]), (32, ms.map vu8), (1, [(.slice a_23 n cap_24)]), (1, [(vi 0)])] [(1, [(.map none)])] [(1, [(.map (some b_20))])] [(1, [(.slice none 0 0)])] rfl rfl rfl rfl (sC sV sN) rfl rfl rfl FillR.nil)))) rfl) ?_
   refine WT.s (oN rfl ?_)
   refine WL.box (segs := [(1, [(.bool id)]), (32, ms.map vu8), (1, [(.slice a_23 n cap_24)]), (1, [(vi 0)]), (1, [(.map (some b_20))]), (1, [(.slice none 0 0)])]) h_28 rfl rfl (sC sV (sC (s8 hms) (sC sV (sC sV (sC sV (sC sV sN)))))) rfl (fun b_30 w_31 h_32 => ?_)
   refine WL.nil ?_
   refine ⟨(N3_4 h_32.ok), ?_⟩
   refine qT rfl rfl (fun wq hS => R.assign (v := (pO b_30 0)) rfl) ?_
   refine WT.nil (thn_n ?_)
   have h_37 := ((((h_32.up J4).up J4).up J3).up J4).up J4
   exact ⟨(b_30, a_23, cap_24, b_20), (U4 rfl rfl rfl rfl (U4 rfl rfl rfl rfl (Ag.refl _ _))), ⟨rfl, rfl, rfl, rfl, rfl, rfl, rfl, rfl, trivial⟩, h_37⟩
 ·rintro ⟨b_41, a_42, cap_43, b_44⟩ J_38 w_39 h_40
  refine thn_n (WP.ret ?_)
  refine ret_of results17 (RV.tmp (v := (pO b_41 0)) rfl RV.nil) ?_
  have h_45 := h_40.up J2
  have h_46 := h_45.rowView
  have h_47 := h_46.rowNil 64 67
  have h_48 := HP_logNil h_47
  have h_56 := (((((((h_48.up J5).drop rfl).up J5).up J3).up J2).up J5).up J4).up J5
  exact ⟨_, _, _, _, rfl, h_56⟩

theorem c_joined (a : Option Addr) (n cap : Nat) (xs : List Value) (ls : List (List UInt8)) (hln : ls.length = n) (hb : ls.flatten.length ≤ 1099511627776) (hnb : n ≤ 1099511627776) (w : World) (hv : View w a xs) (hs : Sls w xs ls) :
  Cs Try.prog 51 [(.slice a n cap)].toArray w (fun v w1 => ∃ a cap, v = .slice a ls.flatten.length cap ∧ Chg w w1 [] ∧ Own w.heap.size w1 5 1 a ls.flatten.length cap ((ls.flatten).map vu8)) := by
 refine Cs.of (n := 5) (args := [(.slice a n cap)]) Try.func51 rfl rfl rfl ?_
 have h_0 := HP.init w
 have h_01 := h_0.old (View.arg hv) (fun f hf => by cases hf)
 have h_00 := h_01.old hs.pin (fun f hf => by rw [List.mem_singleton] at hf; subst hf; intro hm; simp [Ent.mut] at hm)
 have hxl : xs.length = n := hs.len.trans hln
 refine WP.seq (WP.reg ?_)
 refine qA (.slice none 0 0) rfl rfl ?_
 refine WL.nil (thn_n (WP.seq (WP.reg ?_)))
 refine qM (.slice a n cap) rfl rfl ?_
 refine WL.call Try.call69 rfl rfl (c_Concat a n cap xs ls hln (by omega) (by omega) _ (viewV (h_00.ok _ M1)) (h_00.ok _ M0).1) rfl ?_
 rintro _ w_3 ⟨a_1, cap_2, rfl, hc_4, ho_5⟩
 have h_6 := h_00.gotRow hc_4 ho_5
 refine qA (.slice a_1 ls.flatten.length cap_2) rfl rfl ?_
 refine WL.nil (thn_n (WP.ret ?_))
 refine ret_of results51 (RV.tmp (v := (.slice a_1 ls.flatten.length cap_2)) rfl RV.nil) ?_
 exact ⟨_, _, rfl, h_6.chgS, h_6.ok _ M0⟩

theorem c_oDigest {w00 : World} {L : List Ent} (id : Bool) (ob mp : Nat) (ms df : List UInt8) (hms : ms.length = 32) (da : Option Addr) (dn dc u : Nat) (hdf : df.length = 32 * dn) (la : Option Addr) (lc : Nat) (lx : List Value) (lg : Lg) (hu : u ≤ 1000000) (hlg : lg.length ≤ 1000000) (a : Option Addr) (n cap : Nat) (xs : List Value) (ls : List (List UInt8)) (hln : ls.length = n) (dm : Int) (hdm : 1 ≤ dm ∧ dm ≤ 16) (hb : ls.flatten.length ≤ 1000000000) (hnb : n ≤ 1000000) (w : World) (h_0 : HP w00 w (Ent.blk ob .nw 90 [(1, [(.bool id)]), (32, ms.map vu8), (1, [(.slice da dn dc)]), (1, [(vi ((u : Nat) : Int))]), (1, [(.map (some mp))]), (1, [(.slice la lg.length lc)])] :: Ent.row la lg.length lc 64 67 lx :: Ent.obj mp .nw (.map (mArr lg) lg.length) :: Ent.pin (sblks lx) (fun w => Lgs w lx lg) :: Ent.view da (df.map vu8) :: Ent.pin (sblks xs) (fun w => Sls w xs ls) :: Ent.view a xs :: L)) :
  Cs Try.prog 34 [(.pointer (some ⟨ob, 0, none⟩)), (vi dm), (.slice a n cap)].toArray w (fun v w1 => ∃ la' lc' lx', v = (.tuple [(.agg ⟨(anD id df dn u lg (1, (List.replicate 32 (0 : UInt8)), dm, ls.flatten)).map vu8⟩), (vi 0)].toArray) ∧ HP w00 w1 (Ent.blk ob .nw 90 [(1, [(.bool id)]), (32, ms.map vu8), (1, [(.slice da dn dc)]), (1, [(vi (((anU id u lg (1, (List.replicate 32 (0 : UInt8)), dm, ls.flatten)) : Nat) : Int))]), (1, [(.map (some mp))]), (1, [(.slice la' ((anL id df dn u lg (1, (List.replicate 32 (0 : UInt8)), dm, ls.flatten)).length) lc')])] :: Ent.row la' ((anL id df dn u lg (1, (List.replicate 32 (0 : UInt8)), dm, ls.flatten)).length) lc' 64 67 lx' :: Ent.obj mp .nw (.map (mArr (anL id df dn u lg (1, (List.replicate 32 (0 : UInt8)), dm, ls.flatten))) ((anL id df dn u lg (1, (List.replicate 32 (0 : UInt8)), dm, ls.flatten)).length)) :: Ent.pin (sblks lx') (fun w => Lgs w lx' (anL id df dn u lg (1, (List.replicate 32 (0 : UInt8)), dm, ls.flatten))) :: Ent.view da (df.map vu8) :: Ent.pin (sblks xs) (fun w => Sls w xs ls) :: Ent.view a xs :: L)) := by
 have hxs := (h_0.ok _ M5).1
 have hxl : xs.length = n := (Sls.len hxs).trans hln
 refine Cs.of (n := 16) (args := [(pO ob 0), (vi dm), (.slice a n cap)]) Try.func34 rfl rfl rfl ?_
 refine WP.seq (WP.reg ?_)
 refine WL.alloc (segs := [(32, (zB 32).map vu8)]) h_0 (zv typeInfo23 rfl) rfl (sC (s8 lr) sN) rfl (fun b_1 w_2 h_3 => ?_)
 refine qA (vi 0) rfl rfl ?_
 refine WL.nil (thn_n (WP.seq (WP.reg ?_)))
 refine qM (pO ob 0) rfl rfl (qM (vi dm) rfl rfl (qM (.slice a n cap) rfl rfl ?_))
 refine WL.call Try.call51 rfl rfl (c_joined a n cap xs ls hln (by omega) (by omega) _ (viewV (h_3.ok _ M7)) (h_3.ok _ M6).1) rfl ?_
 rintro _ w_6 ⟨a_4, cap_5, rfl, hc_7, ho_8⟩
 have h_9 := h_3.gotRow hc_7 ho_8
 refine qV rfl (R.buildS (pl := [(0, 1), (1, 32), (33, 1), (34, 1)]) (zs := [(1, [(vi 0)]), (32, (zB 32).map vu8), (1, [(vi 0)]), (1, [(.slice none 0 0)])]) (vs := [(0, (vi 1)), (2, (vi dm)), (3, (.slice a_4 ls.flatten.length cap_5))]) (out := [(1, [(vi 1)]), (32, (zB 32).map vu8), (1, [(vi dm)]), (1, [(.slice a_4 ls.flatten.length cap_5)])]) underlying56 (zv typeInfo56 rfl) rfl (sC sV (sC (s8 lr) (sC sV (sC sV sN)))) (pl56 _ underlying56) rfl (FillR.cons [] [(1, [(vi 0)])] [(1, [(vi 1)])] [(32, (zB 32).map vu8), (1, [(vi 0)]), (1, [(.slice none 0 0)])] rfl rfl rfl rfl (sC sV sN) rfl rfl rfl (FillR.cons [(1, [(vi 1)]), (32, (zB 32).map vu8)] [(1, [(vi 0)])] [(1, [(vi dm)])] [(1, [(.slice none 0 0)])] rfl rfl rfl rfl (sC sV sN) rfl rfl rfl (FillR.cons [(1, [(vi 1)]), (32, (zB 32).map vu8), (1, [(vi dm)])] [(1, [(.slice none 0 0)])] [(1, [(.slice a_4 ls.flatten.length cap_5)])] [] rfl rfl rfl rfl (sC sV sN) rfl rfl rfl FillR.nil))) rfl) ?_
 have h_11 := h_9.rowView
 have h_16 := ((((h_11.up J6).up J6).up J6).up J6).up J6
 have h32_w_20 := (Lgs.ok32 (h_16.ok _ M3).1)
 refine WL.call Try.call23 rfl rfl (c_oAsk id ob mp ms df hms da dn dc u hdf la lc lx lg hu hlg 1 dm (zB 32) ls.flatten a_4 ls.flatten.length cap_5 ⟨lr, by show (1 : Int) ≤ 1 ∧ (1 : Int) ≤ 4; omega, by show (1 : Int) ≤ dm ∧ (dm : Int) ≤ 16; omega, by show List.length ls.flatten ≤ 1000000000; first | decide | (simp only [List.length_append, leN_len]; omega) | omega⟩ (rfl : List.length ls.flatten = ls.flatten.length) (by decide) (fun _ => rfl) _ h_16) rfl ?_
 rintro _ w_20 ⟨la_17, lc_18, lx_19, rfl, h_21⟩
 refine qV rfl (R.extract rfl rfl) (qV rfl (R.extract rfl rfl) ?_)
 refine WL.storeA [] [(32, (zB 32).map vu8)] [(32, (anD id df dn u lg (1, List.replicate 32 (0 : UInt8), dm, ls.flatten)).map vu8)] [] h_21 rfl rfl sizeOf23 Y6 (by decide) rfl rfl rfl rfl rfl rfl (sC (s8 (anD_len hdf h32_w_20)) sN) (fun w_22 h_23 => ?_)
 refine qA (vi 0) rfl rfl ?_
 refine WL.nil (thn_n (WP.ret ?_))
 refine ret_of results34 (RV.cell rfl (h_23.loadA (cs := (anD id df dn u lg (1, List.replicate 32 (0 : UInt8), dm, ls.flatten)).map vu8) isAgg23 sizeOf23 M6 rfl rfl) (RV.tmp (v := (vi 0)) rfl RV.nil)) ?_
 have h_34 := ((((((((((h_23.up J5).drop rfl).up J5).drop rfl).up J6).up J6).up J6).up J6).up J6).up J6).up J6
 exact ⟨_, _, _, rfl, h_34⟩
end Go.Proofs.Yteclkcpdclimnaa

namespace Go.Proofs.Yteclkcpdclimnaa
open Go.Proofs.Try
open Go.Vc Go.Sh Go.RowKit
set_option maxRecDepth 20000

end Go.Proofs.Yteclkcpdclimnaa

namespace Go.Proofs.Yteclkcpdclimnaa
open Go.Proofs.Try
open Go.Vc Go.Sh Go.RowKit
set_option maxRecDepth 20000

end Go.Proofs.Yteclkcpdclimnaa

namespace Go.Proofs.Yteclkcpdclimnaa
open Go.Proofs.Try
open Go.Vc Go.Sh Go.RowKit
set_option maxRecDepth 20000

end Go.Proofs.Yteclkcpdclimnaa

namespace Go.Proofs.Yteclkcpdclimnaa
open Go.Proofs.Try
open Go.Vc Go.Sh Go.RowKit
set_option maxRecDepth 20000

end Go.Proofs.Yteclkcpdclimnaa

namespace Go.Orc
open Go.Vc Go.RowKit
def lk (q : Qn) (l : Lg) : Option (List UInt8) := (fdq q l 0).map fun i => (l.getD i (q, [])).2
theorem fdq_app {q : Qn} (x : Qn × List UInt8) : ∀ {l : Lg} {i j : Nat}, fdq q l i = some j → fdq q (l ++ [x]) i = some j
  | p :: r, i, j, h => by
    rw [List.cons_append]
    rw [fdq] at h ⊢
    split
    · rename_i e; rw [if_pos e] at h; exact h
    · rename_i e; rw [if_neg e] at h; exact fdq_app x h
theorem fdq_new {q : Qn} (d : List UInt8) : ∀ {l : Lg} {i : Nat}, fdq q l i = none → fdq q (l ++ [(q, d)]) i = some (i + l.length)
  | [], i, _ => by simp [fdq]
  | p :: r, i, h => by
    rw [List.cons_append]
    rw [fdq] at h ⊢
    split
    · rename_i e; rw [if_pos e] at h; cases h
    · rename_i e; rw [if_neg e] at h; rw [fdq_new d h, List.length_cons]; congr 1; omega
theorem lk_app {q : Qn} {l : Lg} {d : List UInt8} (x : Qn × List UInt8) (h : lk q l = some d) : lk q (l ++ [x]) = some d := by
  unfold lk at h ⊢
  cases hf : fdq q l 0 with
  | none => rw [hf] at h; cases h
  | some i =>
    rw [hf] at h
    have hlt := fdq_lt hf
    rw [fdq_app x hf]
    have e : (l ++ [x]).getD i (q, []) = l.getD i (q, []) := by
      have h2 : i < l.length := by omega
      have h3 : i < (l ++ [x]).length := by rw [snoc_len]; omega
      simp [List.getD_eq_getElem?_getD, h2, List.getElem?_append_left]
    simpa only [Option.map_some, e] using h
section
variable {id : Bool} {df : List UInt8} {dn u : Nat} {l : Lg} {q q' : Qn} {d : List UInt8}
theorem anD_lk (h : lk q l = some d) : anD id df dn u l q = d := by
  unfold lk at h
  cases hf : fdq q l 0 with
  | none => rw [hf] at h; cases h
  | some i => rw [hf] at h; rw [anD_hit hf]; simpa using h
theorem anU_lk (h : lk q l = some d) : anU id u l q = u := by
  unfold lk at h
  cases hf : fdq q l 0 with
  | none => rw [hf] at h; cases h
  | some i => rw [anU_hit hf]
theorem anL_lk (h : lk q l = some d) : anL id df dn u l q = l := by
  unfold lk at h
  cases hf : fdq q l 0 with
  | none => rw [hf] at h; cases h
  | some i => rw [anL_hit hf]
theorem lk_self : lk q (anL id df dn u l q) = some (anD id df dn u l q) := by
  cases hf : fdq q l 0 with
  | none =>
    rw [anL_miss hf, anD_miss hf]
    unfold lk
    rw [fdq_new _ hf]
    simp
  | some i =>
    rw [anL_hit hf, anD_hit hf]
    unfold lk
    rw [hf]; rfl
theorem lk_anL (h : lk q l = some d) : lk q (anL id df dn u l q') = some d := by
  cases hf : fdq q' l 0 with
  | none => rw [anL_miss hf]; exact lk_app _ h
  | some i => rw [anL_hit hf]; exact h
end
end Go.Orc
namespace Go.Vc
open Go.RowKit Go.ChangeShapes Go.WideShapes Go.ChangeAt
section
variable {P : Program} {w : World} {t : TypeId} {cs : List Value}
theorem cells?_all {a : Addr} {n : Nat} {ys : List Value} (h : w.cells? 0 a n = some ys) : ys.length = n ∧ ∀ (i : Nat) v, ys[i]? = some v → w.cell? (a.add i) = some v := by
  simp only [World.cells?, Nat.zero_le, if_true] at h
  have key : ∀ (f : Nat → Option Value) (L : List Nat) (l : List Value), L.mapM f = some l → l.length = L.length ∧ ∀ (i : Nat) v, l[i]? = some v → ∃ x, L[i]? = some x ∧ f x = some v := by
    intro f L
    induction L with
    | nil => intro l h; simp at h; subst h; exact ⟨rfl, fun i v h => by simp at h⟩
    | cons a L ih =>
      intro l h
      rw [List.mapM_cons] at h
      obtain ⟨y, hy, h⟩ := Option.bind_eq_some_iff.1 h
      obtain ⟨l', hl', h⟩ := Option.bind_eq_some_iff.1 h
      simp at h; subst h
      obtain ⟨h1, h2⟩ := ih l' hl'
      refine ⟨by simp [h1], fun i v hv => ?_⟩
      cases i with
      | zero => simp at hv; subst hv; exact ⟨a, rfl, hy⟩
      | succ i => exact h2 i v (by simpa using hv)
  obtain ⟨h1, h2⟩ := key _ _ _ h
  refine ⟨by simpa using h1, fun i v hv => ?_⟩
  obtain ⟨x, hx, hf⟩ := h2 i v hv
  have hi : i < n := by
    have := (List.getElem?_eq_some_iff.1 hx).1
    simpa using this
  rw [List.getElem?_range hi] at hx
  cases hx
  exact hf
end
end Go.Vc

namespace Go.Orc
open Go.Vc Go.RowKit
theorem aC_take {q : Qn} {s : Value} {d : List UInt8} (h : q.2.1.length = 32) : (aC q s d).take 35 = flat [(1, [vi q.1]), (32, q.2.1.map vu8), (1, [vi q.2.2.1]), (1, [s])] := by
  have e : aC q s d = ([vi q.1] ++ (q.2.1.map vu8 ++ ([vi q.2.2.1] ++ [s]))) ++ d.map vu8 := by simp [aC, flat]
  rw [e, List.take_append_of_le_length (by simp [h]), List.take_of_length_le (by simp [h])]
  simp [flat]
theorem Lgs.qget {w : World} {xs : List Value} {l : Lg} (h : Lgs w xs l) {i : Nat} {z : Qn × List UInt8} (hi : i < l.length) : ∃ a n c, (xs.drop (i * 67)).take 35 = flat [(1, [vi (l.getD i z).1.1]), (32, (l.getD i z).1.2.1.map vu8), (1, [vi (l.getD i z).1.2.2.1]), (1, [.slice a n c])] ∧ okQ (l.getD i z).1 ∧ (l.getD i z).1.2.2.2.length = n ∧ n ≤ c ∧ View w a ((l.getD i z).1.2.2.2.map vu8) ∧ (∀ b ∈ sblk (.slice a n c), b ∈ sblks xs) := by
  obtain ⟨a, n, c, h1, h2, h3, h4, h5, h6⟩ := h.get hi
  have hq := h.ok (l[i]) (List.getElem_mem hi)
  have e : l.getD i z = l[i] := by simp [hi]
  rw [e]
  refine ⟨a, n, c, ?_, hq, h3, h4, h5, h6⟩
  have h7 := congrArg (fun x => x.take 35) h1
  change ((xs.drop (67 * i)).take 67).take 35 = (aC _ _ _).take 35 at h7
  rw [aC_take hq.1, List.take_take, show 67 * i = i * 67 by omega, show min 35 67 = 35 from rfl] at h7
  exact h7
theorem aC_set {q : Qn} {s s' : Value} {d : List UInt8} (h : q.2.1.length = 32) : (aC q s d).set 34 s' = aC q s' d := by
  have e : ∀ s, aC q s d = ([vi q.1] ++ (q.2.1.map vu8 ++ [vi q.2.2.1])) ++ (s :: d.map vu8) := fun s => by simp [aC, flat]
  rw [e, e, List.set_append, if_neg (by simp [h])]
  congr 1
  simp [h]
theorem Lgs.set {w : World} {xs : List Value} {l : Lg} (h : Lgs w xs l) : ∀ {i : Nat} {z : Qn × List UInt8} {a : Option Addr} {n c : Nat}, i < l.length → (l.getD i z).1.2.2.2.length = n → n ≤ c → View w a ((l.getD i z).1.2.2.2.map vu8) → Lgs w (xs.set (i * 67 + 34) (.slice a n c)) l := by
  induction h with
  | nil => intro i z a n c hi; simp at hi
  | @snoc a n c q d xs l r hq hd hl hc hv ih =>
    intro i z a' n' c' hi hn hc' hv'
    have hlen := r.len
    by_cases e : i < l.length
    · have e2 : (l ++ [(q, d)]).getD i z = l.getD i z := by simp [List.getD_eq_getElem?_getD, e, List.getElem?_append_left]
      rw [e2] at hn hv'
      rw [List.set_append, if_pos (by omega)]
      exact .snoc (ih e hn hc' hv') hq hd hl hc hv
    · have : i = l.length := by rw [List.length_append, List.length_singleton] at hi; omega
      subst this
      have e2 : (l ++ [(q, d)]).getD l.length z = (q, d) := by simp
      rw [e2] at hn hv'
      rw [List.set_append, if_neg (by omega), show l.length * 67 + 34 - xs.length = 34 by omega, aC_set hq.1]
      exact .snoc r hq hd hn hc' hv'
theorem sblks_set {v : Value} : ∀ {xs : List Value} {k : Nat} {b : Nat}, b ∈ sblks (xs.set k v) → b ∈ sblks xs ∨ b ∈ sblk v
  | [], k, b, h => by simp [sblks] at h
  | x :: xs, 0, b, h => by
    have h' : b ∈ sblk v ++ sblks xs := h
    rcases List.mem_append.1 h' with h | h
    · exact .inr h
    · exact .inl (show b ∈ sblk x ++ sblks xs from List.mem_append.2 (.inr h))
  | x :: xs, k + 1, b, h => by
    have h' : b ∈ sblk x ++ sblks (xs.set k v) := h
    rcases List.mem_append.1 h' with h | h
    · exact .inl (show b ∈ sblk x ++ sblks xs from List.mem_append.2 (.inl h))
    · rcases sblks_set h with h | h
      · exact .inl (show b ∈ sblk x ++ sblks xs from List.mem_append.2 (.inr h))
      · exact .inr h
theorem HP_logSet {w w0 : World} {L : List Ent} {xs : List Value} {l : Lg} {i : Nat} {z : Qn × List UInt8} {a : Option Addr} {n c : Nat} {E : TypeId} (h : HP w0 w (.row a n c E 1 ((l.getD i z).1.2.2.2.map vu8) :: .pin (sblks xs) (fun w => Lgs w xs l) :: L)) (hi : i < l.length) (hl : (l.getD i z).1.2.2.2.length = n) :
    HP w0 w (.pin (sblks (xs.set (i * 67 + 34) (.slice a n c))) (fun w => Lgs w (xs.set (i * 67 + 34) (.slice a n c)) l) :: .view a ((l.getD i z).1.2.2.2.map vu8) :: .pin (sblks xs) (fun w => Lgs w xs l) :: L) := by
  have hcap := (h.own (List.mem_cons_self ..)).2.2.1
  have h1 := h.rowView
  have hm1 : Ent.pin (sblks xs) (fun w => Lgs w xs l) ∈ (.view a ((l.getD i z).1.2.2.2.map vu8) :: .pin (sblks xs) (fun w => Lgs w xs l) :: L) := List.mem_cons_of_mem _ (List.mem_cons_self ..)
  have hm2 : Ent.view a ((l.getD i z).1.2.2.2.map vu8) ∈ (.view a ((l.getD i z).1.2.2.2.map vu8) :: .pin (sblks xs) (fun w => Lgs w xs l) :: L) := List.mem_cons_self ..
  have hs : Lgs w xs l := (h1.ok _ hm1).1
  have hv := viewV (h1.ok _ hm2)
  refine h1.within2 hm1 hm2 rfl rfl (Lgs.pin (hs.set (z := z) hi hl hcap hv)) rfl rfl fun b hb => ?_
  simp only [Ent.blocks] at hb
  rcases sblks_set hb with hb | hb
  · exact .inl hb
  · exact .inr (sblk_in_view hl b hb)
theorem same4 (p q : Qn) : decide (p = q) = (decide (p.1 = q.1) && (decide (p.2.1 = q.2.1) && (decide (p.2.2.1 = q.2.2.1) && decide (p.2.2.2 = q.2.2.2)))) := by
  obtain ⟨a, b, c, d⟩ := p
  obtain ⟨a', b', c', d'⟩ := q
  simp [Prod.ext_iff]
end Go.Orc
namespace Go.Orc
open Go.Vc Go.RowKit
end Go.Orc
namespace Go.Orc
open Go.Vc Go.RowKit
theorem Lgs.one {w : World} {xs : List Value} {l : Lg} (h : Lgs w xs l) : ∀ v ∈ xs, v.oneCell' = true := by
  induction h with
  | nil => intro v hv; cases hv
  | snoc r hq hd hl hc hv ih =>
    intro v hv
    rcases List.mem_append.1 hv with hv | hv
    · exact ih v hv
    · exact (aC_ok hq.1 hd rfl).head.one v hv
theorem q34 {xs : List Value} {i : Nat} {x y s : Value} {key : List UInt8} (hk : key.length = 32) (h : (xs.drop (i * 67)).take 35 = flat [(1, [x]), (32, key.map vu8), (1, [y]), (1, [s])]) : xs[i * 67 + 34]? = some s := by
  have e : flat [(1, [x]), (32, key.map vu8), (1, [y]), (1, [s])] = ([x] ++ (key.map vu8 ++ [y])) ++ [s] := by simp [flat]
  have h2 := congrArg (fun l => l[34]?) h
  simp only [List.getElem?_take, List.getElem?_drop, e] at h2
  rw [if_pos (by omega)] at h2
  rw [h2, List.getElem?_append_right (by simp [hk])]
  simp [hk]
end Go.Orc
namespace Go.Orc
open Go.Vc Go.RowKit
theorem view_noneV {w : World} {a : Option Addr} {xs : List Value} (h : a.isNone = true) (hv : View w a xs) : xs = [] := by
  cases xs with
  | nil => rfl
  | cons x r =>
    obtain ⟨ad, e, _⟩ := hv 0 x rfl
    rw [e] at h; cases h
end Go.Orc
namespace Go.Orc
open Go.Vc Go.RowKit
end Go.Orc

namespace Go.Proofs.Yteclkcpdclimnaa
open Go.Proofs.Try
open Go.Vc Go.Orc Go.Sh Go.RowKit
set_option maxRecDepth 20000

theorem c_rSame (p q : Qn) (hp : p.2.1.length = 32) (hq : q.2.1.length = 32) (a : Option Addr) (n cap : Nat) (hl : p.2.2.2.length = n) (a2 : Option Addr) (n2 cap2 : Nat) (hl2 : q.2.2.2.length = n2) (w : World) (hv : View w a (p.2.2.2.map vu8)) (hv2 : View w a2 (q.2.2.2.map vu8)) :
  Cs Try.prog 54 [(.agg ⟨flat [(1, [(vi p.1)]), (32, p.2.1.map vu8), (1, [(vi p.2.2.1)]), (1, [(.slice a n cap)])]⟩), (.agg ⟨flat [(1, [(vi q.1)]), (32, q.2.1.map vu8), (1, [(vi q.2.2.1)]), (1, [(.slice a2 n2 cap2)])]⟩)].toArray w (fun v w1 => v = .bool (decide (p = q)) ∧ Chg w w1 []) := by
 refine Cs.of (n := 33) (args := [(.agg ⟨flat [(1, [(vi p.1)]), (32, p.2.1.map vu8), (1, [(vi p.2.2.1)]), (1, [(.slice a n cap)])]⟩), (.agg ⟨flat [(1, [(vi q.1)]), (32, q.2.1.map vu8), (1, [(vi q.2.2.1)]), (1, [(.slice a2 n2 cap2)])]⟩)]) Try.func54 rfl rfl rfl ?_
 have h_0 := HP.init w
 have h_01 := h_0.old (View.arg hv) (fun f hf => by cases hf)
 have h_00 := h_01.old (View.arg hv2) (fun f hf => by rw [List.mem_singleton] at hf; subst hf; intro hm; simp [Ent.mut] at hm)
 refine WP.seq (WP.reg ?_)
 refine WL.box (segs := [(1, [(vi p.1)]), (32, p.2.1.map vu8), (1, [(vi p.2.2.1)]), (1, [(.slice a n cap)])]) h_00 rfl rfl (sC sV (sC (s8 hp) (sC sV (sC sV sN)))) rfl (fun b_1 w_2 h_3 => ?_)
 refine WL.box (segs := [(1, [(vi q.1)]), (32, q.2.1.map vu8), (1, [(vi q.2.2.1)]), (1, [(.slice a2 n2 cap2)])]) h_3 rfl rfl (sC sV (sC (s8 hq) (sC sV (sC sV sN)))) rfl (fun b_4 w_5 h_6 => ?_)
 refine qA (.bool false) rfl rfl ?_
 refine WL.nil (thn_n (WP.seq (WP.reg ?_)))
 refine qV rfl (R.fieldAddr (off' := 0) rfl underlying56 rfl sizeOf52 rfl rfl) (qV rfl (R.load1 rfl isAgg52 (h_6.ok _ M1) Sg.h) (qV rfl (R.fieldAddr (off' := 0) rfl underlying56 rfl sizeOf52 rfl rfl) (qV rfl (R.load1 rfl isAgg52 (h_6.ok _ M0) Sg.h) (qV rfl (R.bin rfl rfl (bi_eql (r := decide ((p.1 : Int) = q.1)) rfl)) (qM (.bool (decide ((p.1 : Int) = q.1))) rfl rfl ?_)))))
 rcases Bool.eq_false_or_eq_true (decide ((p.1 : Int) = q.1)) with c_7 | c_7
 ·have p_8 := of_decide_eq_true c_7
  refine WL.want rfl (congrArg Value.bool c_7) ?_
  refine qV rfl (R.fieldAddr (off' := 1) rfl underlying56 rfl sizeOf23 rfl rfl) ?_
  refine WL.want rfl (congrArg Value.bool c_7) ?_
  refine qV rfl (R.loadA [(1, [(vi p.1)])] [(32, p.2.1.map vu8)] [(1, [(vi p.2.2.1)]), (1, [(.slice a n cap)])] (cs := p.2.1.map vu8) rfl isAgg23 sizeOf23 (h_6.ok _ M1) rfl rfl rfl rfl) ?_
  refine WL.want rfl (congrArg Value.bool c_7) ?_
  refine qV rfl (R.fieldAddr (off' := 1) rfl underlying56 rfl sizeOf23 rfl rfl) ?_
  refine WL.want rfl (congrArg Value.bool c_7) ?_
  refine qV rfl (R.loadA [(1, [(vi q.1)])] [(32, q.2.1.map vu8)] [(1, [(vi q.2.2.1)]), (1, [(.slice a2 n2 cap2)])] (cs := q.2.1.map vu8) rfl isAgg23 sizeOf23 (h_6.ok _ M0) rfl rfl rfl rfl) ?_
  refine WL.want rfl (congrArg Value.bool c_7) ?_
  refine qV rfl (R.eqA (xs := p.2.1.map vu8) (ys := q.2.1.map vu8) (r := decide (p.2.1 = q.2.1)) rfl rfl eqGuardType23 kt23 (by decide) ag23 (Typ.u8s underlying23 ce23 underlying5 ce5 hp) (Typ.u8s underlying23 ce23 underlying5 ce5 hq) (map_inj_u8.trans (decT _))) (qV rfl (R.pickT (v := (.bool (decide (p.2.1 = q.2.1)))) (congrArg Value.bool c_7) rfl) (qM (.bool (decide (p.2.1 = q.2.1))) rfl rfl ?_))
  rcases Bool.eq_false_or_eq_true (decide (p.2.1 = q.2.1)) with c_9 | c_9
  ·have p_10 := of_decide_eq_true c_9
   refine WL.want rfl (congrArg Value.bool c_9) ?_
   refine qV rfl (R.fieldAddr (off' := 33) rfl underlying56 rfl sizeOf53 rfl rfl) ?_
   refine WL.want rfl (congrArg Value.bool c_9) ?_
   refine qV rfl (R.load1 rfl isAgg53 (h_6.ok _ M1) (Sg.t rfl (Sg.t rfl Sg.h))) ?_
   refine WL.want rfl (congrArg Value.bool c_9) ?_
   refine qV rfl (R.fieldAddr (off' := 33) rfl underlying56 rfl sizeOf53 rfl rfl) ?_
   refine WL.want rfl (congrArg Value.bool c_9) ?_
   refine qV rfl (R.load1 rfl isAgg53 (h_6.ok _ M0) (Sg.t rfl (Sg.t rfl Sg.h))) ?_
   refine WL.want rfl (congrArg Value.bool c_9) ?_
   refine qV rfl (R.bin rfl rfl (bi_eql (r := decide ((p.2.2.1 : Int) = q.2.2.1)) rfl)) (qV rfl (R.pickT (v := (.bool (decide ((p.2.2.1 : Int) = q.2.2.1)))) (congrArg Value.bool c_9) rfl) (qM (.bool (decide ((p.2.2.1 : Int) = q.2.2.1))) rfl rfl ?_))
   rcases Bool.eq_false_or_eq_true (decide ((p.2.2.1 : Int) = q.2.2.1)) with c_11 | c_11
   ·have p_12 := of_decide_eq_true c_11
    refine WL.want rfl (congrArg Value.bool c_11) ?_
    refine qV rfl (R.fieldAddr (off' := 34) rfl underlying56 rfl sizeOf54 rfl rfl) ?_
    refine WL.want rfl (congrArg Value.bool c_11) ?_
    refine qV rfl (R.load1 rfl isAgg54 (h_6.ok _ M1) (Sg.t rfl (Sg.t rfl (Sg.t rfl Sg.h)))) ?_
    refine WL.want rfl (congrArg Value.bool c_11) ?_
    refine qV rfl (R.toStr (bs := p.2.2.2) rfl underlying54 underlying5 underlying9 (viewV (h_6.ok _ M3)) hl) ?_
    refine WL.want rfl (congrArg Value.bool c_11) ?_
    refine qV rfl (R.fieldAddr (off' := 34) rfl underlying56 rfl sizeOf54 rfl rfl) ?_
    refine WL.want rfl (congrArg Value.bool c_11) ?_
    refine qV rfl (R.load1 rfl isAgg54 (h_6.ok _ M0) (Sg.t rfl (Sg.t rfl (Sg.t rfl Sg.h)))) ?_
    refine WL.want rfl (congrArg Value.bool c_11) ?_
    refine qV rfl (R.toStr (bs := q.2.2.2) rfl underlying54 underlying5 underlying9 (viewV (h_6.ok _ M2)) hl2) ?_
    refine WL.want rfl (congrArg Value.bool c_11) ?_
    refine qV rfl (R.eqStr (a := p.2.2.2) (b := q.2.2.2) (r := decide (p.2.2.2 = q.2.2.2)) rfl rfl rfl) (qV rfl (R.pickT (v := (.bool (decide (p.2.2.2 = q.2.2.2)))) (congrArg Value.bool c_11) rfl) (qA (.bool (decide (p.2.2.2 = q.2.2.2))) rfl rfl ?_))
    refine WL.nil (thn_n (WP.ret ?_))
    refine ret_of results54 (RV.tmp (v := (.bool (decide (p.2.2.2 = q.2.2.2)))) rfl RV.nil) ?_
    exact ⟨congrArg Value.bool (by rw [same4]; simp [c_7, c_9, c_11]), h_6.chgS⟩
   ·have p_13 := of_decide_eq_false c_11
    refine WL.skip rfl (congrArg Value.bool c_11) rfl ?_
    refine WL.skip rfl (congrArg Value.bool c_11) rfl ?_
    refine WL.skip rfl (congrArg Value.bool c_11) rfl ?_
    refine WL.skip rfl (congrArg Value.bool c_11) rfl ?_
    refine WL.skip rfl (congrArg Value.bool c_11) rfl ?_
    refine WL.skip rfl (congrArg Value.bool c_11) rfl ?_
    refine WL.skip rfl (congrArg Value.bool c_11) rfl ?_
    refine qV rfl (R.pickF (v := (.bool false)) (congrArg Value.bool c_11) rfl) (qA (.bool false) rfl rfl ?_)
    refine WL.nil (thn_n (WP.ret ?_))
    refine ret_of results54 (RV.tmp (v := (.bool false)) rfl RV.nil) ?_
    exact ⟨congrArg Value.bool (by rw [same4]; simp [c_7, c_9, c_11]), h_6.chgS⟩
  ·have p_14 := of_decide_eq_false c_9
   refine WL.skip rfl (congrArg Value.bool c_9) rfl ?_
   refine WL.skip rfl (congrArg Value.bool c_9) rfl ?_
   refine WL.skip rfl (congrArg Value.bool c_9) rfl ?_
   refine WL.skip rfl (congrArg Value.bool c_9) rfl ?_
   refine WL.skip rfl (congrArg Value.bool c_9) rfl ?_
   refine qV rfl (R.pickF (v := (.bool false)) (congrArg Value.bool c_9) rfl) (qM (.bool false) rfl rfl ?_)
   refine WL.skip rfl rfl rfl ?_
   refine WL.skip rfl rfl rfl ?_
   refine WL.skip rfl rfl rfl ?_
   refine WL.skip rfl rfl rfl ?_
   refine WL.skip rfl rfl rfl ?_
   refine WL.skip rfl rfl rfl ?_
   refine WL.skip rfl rfl rfl ?_
   refine qV rfl (R.pickF (v := (.bool false)) rfl rfl) (qA (.bool false) rfl rfl ?_)
   refine WL.nil (thn_n (WP.ret ?_))
   refine ret_of results54 (RV.tmp (v := (.bool false)) rfl RV.nil) ?_
   exact ⟨congrArg Value.bool (by rw [same4]; simp [c_7, c_9]), h_6.chgS⟩
 ·have p_15 := of_decide_eq_false c_7
  refine WL.skip rfl (congrArg Value.bool c_7) rfl ?_
  refine WL.skip rfl (congrArg Value.bool c_7) rfl ?_
  refine WL.skip rfl (congrArg Value.bool c_7) rfl ?_
  refine WL.skip rfl (congrArg Value.bool c_7) rfl ?_
  refine WL.skip rfl (congrArg Value.bool c_7) rfl ?_
  refine qV rfl (R.pickF (v := (.bool false)) (congrArg Value.bool c_7) rfl) (qM (.bool false) rfl rfl ?_)
  refine WL.skip rfl rfl rfl ?_
  refine WL.skip rfl rfl rfl ?_
  refine WL.skip rfl rfl rfl ?_
  refine WL.skip rfl rfl rfl ?_
  refine WL.skip rfl rfl rfl ?_
  refine qV rfl (R.pickF (v := (.bool false)) rfl rfl) (qM (.bool false) rfl rfl ?_)
  refine WL.skip rfl rfl rfl ?_
  refine WL.skip rfl rfl rfl ?_
  refine WL.skip rfl rfl rfl ?_
  refine WL.skip rfl rfl rfl ?_
  refine WL.skip rfl rfl rfl ?_
  refine WL.skip rfl rfl rfl ?_
  refine WL.skip rfl rfl rfl ?_
  refine qV rfl (R.pickF (v := (.bool false)) rfl rfl) (qA (.bool false) rfl rfl ?_)
  refine WL.nil (thn_n (WP.ret ?_))
  refine ret_of results54 (RV.tmp (v := (.bool false)) rfl RV.nil) ?_
  exact ⟨congrArg Value.bool (by rw [same4]; simp [c_7]), h_6.chgS⟩
end Go.Proofs.Yteclkcpdclimnaa

namespace Go.Proofs.Yteclkcpdclimnaa
open Go.Proofs.Try
open Go.Vc Go.Orc Go.Sh Go.RowKit
set_option maxRecDepth 20000

end Go.Proofs.Yteclkcpdclimnaa

namespace Go.Proofs.Yteclkcpdclimnaa
open Go.Proofs.Try
open Go.Vc Go.Orc Go.Sh Go.RowKit
set_option maxRecDepth 20000

theorem c_CloneA (a : Option Addr) (n cap : Nat) (xs : List Value) (lg : Lg) (hn : lg.length = n) (hlg : n ≤ 1000000) (w : World) (hv : View w a xs) (hp : Lgs w xs lg) :
  Cs Try.prog 52 [(.slice a n cap)].toArray w (fun v w1 => ∃ a cap, v = .slice a n cap ∧ Chg w w1 [] ∧ Own w.heap.size w1 64 67 a n cap xs) := by
 refine Cs.of (n := 8) (args := [(.slice a n cap)]) Try.func52 rfl rfl rfl ?_
 have h_0 := HP.init w
 have h_01 := h_0.oldV (View.arg hv) rfl (by simp [Ent.mut])
 have h_00 := h_01.oldV (Lgs.pin hp) rfl (by simp [Ent.mut])
 refine WP.seq (WP.reg ?_)
 refine qA (.slice none 0 0) rfl rfl ?_
 refine WL.nil (thn_n (WP.seq (WP.seq (WP.reg ?_))))
 refine qM (.slice a n cap) rfl rfl (qV rfl (R.eqNilS rfl rfl underlying61) ?_)
 refine WL.nil (thn_n ?_)
 refine WP.cond (b := a.isNone) rfl (fun c_1 => ?_) (fun c_1 => ?_)
 ·refine WP.seq (WP.reg ?_)
  refine qA (.slice none 0 0) rfl rfl ?_
  refine WL.nil (thn_n (WP.ret (thn_r ?_)))
  refine ret_of results52 (RV.tmp (v := (.slice none 0 0)) rfl RV.nil) ?_
  obtain rfl : xs = [] := view_noneV c_1 hv
  obtain rfl : n = 0 := by have := Lgs.len hp; simp at this; omega
  exact ⟨none, 0, rfl, h_00.chgS, Own.nil ..⟩
 ·refine WP.skip (thn_n (WP.seq (WP.reg ?_)))
  refine WL.buildSl0 h_00 underlying61 sizeOf64 rfl (fun b_2 w_3 h_4 => ?_)
  refine qM (.slice a n cap) rfl rfl ?_
  refine WL.append (km := n) (xs := []) (ys := xs) (zs := xs) h_4 rfl rfl el61 (viewV (h_4.ok _ M2)) (by rw [Lgs.len hp, hn]) (Lgs.one hp) rfl (by omega) (by omega) (by omega) (fun _ _ => At.h) rfl (fun a_5 c_6 w_7 h_8 => ?_)
  refine qA (.slice a_5 n c_6) rfl rfl ?_
  refine WL.nil (thn_n (WP.ret ?_))
  refine ret_of results52 (RV.tmp (v := (.slice a_5 n c_6)) rfl RV.nil) ?_
  exact ⟨_, _, rfl, h_8.chgS, h_8.ok _ M0⟩

theorem c_oLog {w00 : World} {L : List Ent} (id : Bool) (ob mp : Nat) (ms df : List UInt8) (hms : ms.length = 32) (da : Option Addr) (dn dc u : Nat) (hdf : df.length = 32 * dn) (la : Option Addr) (lc : Nat) (lx : List Value) (lg : Lg) (hu : u ≤ 1000000) (hlg : lg.length ≤ 1000000) (w : World) (h_0 : HP w00 w (Ent.blk ob .nw 90 [(1, [(.bool id)]), (32, ms.map vu8), (1, [(.slice da dn dc)]), (1, [(vi ((u : Nat) : Int))]), (1, [(.map (some mp))]), (1, [(.slice la lg.length lc)])] :: Ent.row la lg.length lc 64 67 lx :: Ent.obj mp .nw (.map (mArr lg) lg.length) :: Ent.pin (sblks lx) (fun w => Lgs w lx lg) :: Ent.view da (df.map vu8) :: L)) :
  Cs Try.prog 25 [(.pointer (some ⟨ob, 0, none⟩))].toArray w (fun v w1 => ∃ a cap ys, v = .slice a lg.length cap ∧ HP w00 w1 (.row a lg.length cap 64 67 ys :: .pin (sblks ys) (fun w => Lgs w ys lg) :: Ent.blk ob .nw 90 [(1, [(.bool id)]), (32, ms.map vu8), (1, [(.slice da dn dc)]), (1, [(vi ((u : Nat) : Int))]), (1, [(.map (some mp))]), (1, [(.slice la lg.length lc)])] :: Ent.row la lg.length lc 64 67 lx :: Ent.obj mp .nw (.map (mArr lg) lg.length) :: Ent.pin (sblks lx) (fun w => Lgs w lx lg) :: Ent.view da (df.map vu8) :: L)) := by
 refine Cs.of (n := 32) (args := [(pO ob 0)]) Try.func25 rfl rfl rfl ?_
 refine WP.seq (WP.reg ?_)
 refine qA (.slice none 0 0) rfl rfl ?_
 refine WL.nil (thn_n (WP.seq (WP.seq (WP.reg ?_))))
 refine qM (pO ob 0) rfl rfl ?_
 refine WL.call Try.call44 rfl rfl (c_othere id ob mp ms hms da dn dc u la lg.length lc _ (h_0.argR M0)) rfl ?_
 rintro _ w_2 ⟨rfl, hc_1⟩
 have h_3 := h_0.same hc_1
 refine qV rfl (R.not (b := true) rfl) ?_
 refine WL.nil (thn_n ?_)
 refine WP.condF rfl ?_
 refine WP.skip (thn_n (WP.seq (WP.reg ?_)))
 refine qM (pO ob 0) rfl rfl (qV rfl (R.nilCheck rfl) (qV rfl (R.fieldAddr (off' := 36) rfl underlying90 rfl sizeOf61 rfl rfl) (qV rfl (R.load1 rfl isAgg61 (h_3.ok _ M0) (Sg.t rfl (Sg.t rfl (Sg.t rfl (Sg.t rfl (Sg.t rfl Sg.h)))))) ?_)))
 refine WL.call Try.call52 rfl rfl (c_CloneA la lg.length lc lx lg rfl (by omega) _ (ownView (h_3.ok _ M1)) (h_3.ok _ M3).1) rfl ?_
 rintro _ w_6 ⟨a_4, cap_5, rfl, hc_7, ho_8⟩
 have h_9 := h_3.gotRow hc_7 ho_8
 refine qA (.slice a_4 lg.length cap_5) rfl rfl ?_
 refine WL.nil (thn_n (WP.seq (WP.seq (WP.reg ?_))))
 refine qM (.slice a_4 lg.length cap_5) rfl rfl (qV rfl (R.lenS (a := a_4) (m := lg.length) rfl rfl underlying61) (qM (vi 0) rfl rfl ?_))
 refine WL.nil (thn_n (WP.block ?_))
 have h_10 := h_9.within M4 rfl (h_9.ok _ M4) rfl rfl (fun b hb => hb)
 have h_17 := ((((((h_10.up J6).up J6).up J6).up J6).up J6).up J5).up J6
 refine WP.loopG (G := Nat × List Value) [4, 15, 16, 17, 18, 19, 20, 21, 22, 23, 24, 25, 26, 27, 28, 29, 30] (fun (k, ys) => [(15, (vn k))]) (fun (k, ys) m w1 => HP w00 w1 (Ent.row a_4 lg.length cap_5 64 67 ys :: Ent.pin (sblks ys) (fun w => Lgs w ys lg) :: Ent.blk ob .nw 90 [(1, [(.bool id)]), (32, ms.map vu8), (1, [(.slice da dn dc)]), (1, [(vn u)]), (1, [(.map (some mp))]), (1, [(.slice la lg.length lc)])] :: Ent.row la lg.length lc 64 67 lx :: Ent.obj mp .nw (.map (mArr lg) lg.length) :: Ent.pin (sblks lx) (fun w => Lgs w lx lg) :: Ent.view da (df.map vu8) :: L) ∧ (k ≤ lg.length) ∧ m = lg.length + 1 - k) ⟨(0, lx), _, ⟨rfl, trivial⟩, h_17, Nat.zero_le _, rfl⟩ ?_
 rintro ⟨k, ys⟩ m_20 J_21 w_18 ⟨h_19, hk, rfl⟩
 refine WP.seq (WP.reg ?_)
 refine qV rfl (R.bin rfl rfl (bi_lss (r := decide ((((k : Nat) : Int) : Int) < ((lg.length : Nat) : Int))) rfl)) ?_
 refine WL.nil (thn_n (WP.seq ?_))
 refine WP.cond (b := decide ((((k : Nat) : Int) : Int) < ((lg.length : Nat) : Int))) rfl (fun c_22 => ?_) (fun c_22 => ?_)
 ·have p_23 := of_decide_eq_true c_22
  refine WP.skip (thn_n (WP.seq (WP.block (WP.seq (WP.reg ?_)))))
  refine qM (vn k) rfl rfl (qA (vn k) rfl rfl ?_)
  refine WL.nil (thn_n ?_)
  have hkl : k < lg.length := by omega
  have hyl := Lgs.len (h_19.ok _ M1).1
  obtain ⟨ka, kn, kc, khx, khq, khn, khc, khv, khb⟩ := Lgs.qget (i := k) (z := ((0, [], 0, []), [])) (h_19.ok _ M1).1 hkl
  have kbd : kn ≤ 1000000000 := by have hq4 := khq.2.2.2; rw [khn] at hq4; exact hq4
  have h_24 := h_19.within (e' := .view ka ((lg.getD k ((0, [], 0, []), [])).1.2.2.2.map vu8)) M1 rfl (View.arg khv) rfl rfl (fun b hb_ => khb _ (view_sblk khn b hb_))
  refine WP.reg ?_
  refine qM (.slice a_4 lg.length cap_5) rfl rfl (qM (vn k) rfl rfl (qM (.slice a_4 lg.length cap_5) rfl rfl (qM (vn k) rfl rfl (qV rfl (R.indexS (a := a_4) (i := k) (off := k * 67) (xs := ys) rfl rfl rfl (by omega) (ownView (h_24.ok _ M1)) (by rw [hyl]; omega) underlying61 sizeOf64 rfl) (qV rfl (R.fieldG (a := a_4) (i := k * 67) (off' := k * 67) rfl underlying64 rfl sizeOf56 rfl rfl) (qV rfl (R.fieldG (a := a_4) (i := k * 67) (off' := k * 67 + 34) rfl underlying56 rfl sizeOf54 rfl rfl) (qV rfl (R.loadG rfl (ownView (h_24.ok _ M1)) isAgg54 (q34 khq.1 khx)) ?_)))))))
  refine WL.call Try.call53 rfl rfl (c_Clone ka kn kc ((lg.getD k ((0, [], 0, []), [])).1.2.2.2) khn (by omega) _ (viewV (h_24.ok _ M0))) rfl ?_
  rintro _ w_27 ⟨a_25, cap_26, rfl, hc_28, ho_29⟩
  have h_30 := h_24.gotRow hc_28 ho_29
  refine qV rfl (R.indexS (a := a_4) (i := k) (off := k * 67) (xs := ys) rfl rfl rfl (by omega) (ownView (h_30.ok _ M2)) (by rw [hyl]; omega) underlying61 sizeOf64 rfl) (qV rfl (R.fieldG (a := a_4) (i := k * 67) (off' := k * 67) rfl underlying64 rfl sizeOf56 rfl rfl) (qV rfl (R.fieldG (a := a_4) (i := k * 67) (off' := k * 67 + 34) rfl underlying56 rfl sizeOf54 rfl rfl) ?_))
  refine WL.storeR (a := a_4) (i := k * 67 + 34) (v := (.slice a_25 kn cap_26)) (xs' := ys.set (k * 67 + 34) (.slice a_25 kn cap_26)) h_30 rfl rfl sizeOf54 rfl Y2 (by rw [hyl]; omega) rfl (fun w_31 h_32 => ?_)
  refine WL.nil (inb_n (thn_n (WP.reg ?_)))
  refine qV rfl (R.bin rfl rfl (bi_add (c := ((k + 1 : Nat) : Int)) (by omega) (by omega))) (qM (vn (k + 1)) rfl rfl ?_)
  refine WL.nil (thn_n ?_)
  have h_42 := (((((((((h_32.up J1).drop rfl).up J7).up J7).up J7).up J7).up J7).up J6).up J7).up J7
  have h_43 := HP_logSet (z := ((0, [], 0, []), [])) h_42 hkl khn
  have h_54 := ((((((((((h_43.up J1).drop rfl).up J1).drop rfl).up J6).up J6).up J6).up J6).up J6).up J5).up J6
  exact ⟨(k + 1, _), _, (by omega), (Ag.upd rfl (U4 rfl rfl rfl rfl (U4 rfl rfl rfl rfl (U4 rfl rfl rfl rfl (U4 rfl rfl rfl rfl (Ag.updL rfl (Ag.mix _ _ _))))))), ⟨rfl, trivial⟩, h_54, (by omega), rfl⟩
 ·have p_55 := of_decide_eq_false c_22
  refine WP.exit (thn_x (thn_x (inb_hit (thn_n (WP.seq (WP.reg ?_))))))
  refine qM (.slice a_4 lg.length cap_5) rfl rfl (qA (.slice a_4 lg.length cap_5) rfl rfl ?_)
  refine WL.nil (thn_n (WP.ret ?_))
  refine ret_of results25 (RV.tmp (v := (.slice a_4 lg.length cap_5)) rfl RV.nil) ?_
  have h_62 := ((((((h_19.up J6).up J6).up J6).up J6).up J6).up J6).up J6
  exact ⟨_, _, _, rfl, h_62⟩

theorem c_rSameLog (a : Option Addr) (n cap : Nat) (xs : List Value) (lg : Lg) (hn : lg.length = n) (hlg : n ≤ 1000000) (a2 : Option Addr) (cap2 : Nat) (ys : List Value) (w : World) (hv : View w a xs) (hp : Lgs w xs lg) (hv2 : View w a2 ys) (hp2 : Lgs w ys lg) :
  Cs Try.prog 26 [(.slice a n cap), (.slice a2 n cap2)].toArray w (fun v w1 => v = (.bool true) ∧ Chg w w1 []) := by
 refine Cs.of (n := 42) (args := [(.slice a n cap), (.slice a2 n cap2)]) Try.func26 rfl rfl rfl ?_
 have h_0 := HP.init w
 have h_01 := h_0.oldV (View.arg hv) rfl (by simp [Ent.mut])
 have h_02 := h_01.oldV (Lgs.pin hp) rfl (by simp [Ent.mut])
 have h_03 := h_02.oldV (View.arg hv2) rfl (by simp [Ent.mut])
 have h_00 := h_03.oldV (Lgs.pin hp2) rfl (by simp [Ent.mut])
 refine WP.seq (WP.reg ?_)
 refine qA (.bool false) rfl rfl ?_
 refine WL.nil (thn_n (WP.seq (WP.seq (WP.reg ?_))))
 refine qM (.slice a n cap) rfl rfl (qV rfl (R.lenS (a := a) (m := n) rfl rfl underlying61) (qM (.slice a2 n cap2) rfl rfl (qV rfl (R.lenS (a := a2) (m := n) rfl rfl underlying61) (qV rfl (R.bin rfl rfl (bi_neq (r := false) (by simp))) ?_))))
 refine WL.nil (thn_n ?_)
 refine WP.condF rfl ?_
 refine WP.skip (thn_n (WP.seq (WP.seq (WP.reg ?_))))
 refine qA (vi 0) rfl rfl ?_
 refine WL.nil (thn_n (WP.block ?_))
 refine WP.loopG (G := Nat) [4, 5, 11, 12, 13, 14, 15, 16, 17, 18, 19, 20, 21, 22, 23, 24, 25, 26, 27, 28, 29, 30, 31, 32, 33, 34, 35, 36, 37, 38, 39, 40, 41] (fun k => [(5, (vn k))]) (fun k m w1 => HP w w1 [.pin (sblks ys) (fun w => Lgs w ys lg), .view a2 ys, .pin (sblks xs) (fun w => Lgs w xs lg), .view a xs] ∧ (k ≤ n) ∧ m = n + 1 - k) ⟨0, _, ⟨rfl, trivial⟩, h_00, Nat.zero_le _, rfl⟩ ?_
 rintro k m_3 J_4 w_1 ⟨h_2, hk, rfl⟩
 refine WP.seq (WP.seq (WP.reg ?_))
 refine qM (vn k) rfl rfl (qM (.slice a n cap) rfl rfl (qV rfl (R.lenS (a := a) (m := n) rfl rfl underlying61) (qV rfl (R.bin rfl rfl (bi_lss (r := decide ((((k : Nat) : Int) : Int) < ((n : Nat) : Int))) rfl)) ?_)))
 refine WL.nil (thn_n ?_)
 refine WP.cond (b := decide ((((k : Nat) : Int) : Int) < ((n : Nat) : Int))) rfl (fun c_5 => ?_) (fun c_5 => ?_)
 ·have p_6 := of_decide_eq_true c_5
  refine WP.skip (thn_n (WP.seq (WP.block (WP.seq ?_))))
  have hkl : k < lg.length := by omega
  obtain ⟨ka, kn, kc, khx, khq, khn, khc, khv, khb⟩ := Lgs.qget (i := k) (z := ((0, [], 0, []), [])) (h_2.ok _ M2).1 hkl
  have kbd : kn ≤ 1000000000 := by have hq4 := khq.2.2.2; rw [khn] at hq4; exact hq4
  have h_7 := h_2.within (e' := .view ka ((lg.getD k ((0, [], 0, []), [])).1.2.2.2.map vu8)) M2 rfl (View.arg khv) rfl rfl (fun b hb_ => khb _ (view_sblk khn b hb_))
  obtain ⟨ga, gn, gc, ghx, ghq, ghn, ghc, ghv, ghb⟩ := Lgs.qget (i := k) (z := ((0, [], 0, []), [])) (h_7.ok _ M1).1 hkl
  have gbd : gn ≤ 1000000000 := by have hq4 := ghq.2.2.2; rw [ghn] at hq4; exact hq4
  have h_8 := h_7.within (e' := .view ga ((lg.getD k ((0, [], 0, []), [])).1.2.2.2.map vu8)) M1 rfl (View.arg ghv) rfl rfl (fun b hb_ => ghb _ (view_sblk ghn b hb_))
  refine WP.drawT (SL w.heap.size [.view ga ((lg.getD k ((0, [], 0, []), [])).1.2.2.2.map vu8), .view ka ((lg.getD k ((0, [], 0, []), [])).1.2.2.2.map vu8), .pin (sblks ys) (fun w => Lgs w ys lg), .view a2 ys, .pin (sblks xs) (fun w => Lgs w xs lg), .view a xs]) (.q 0 (.q 1 (.q 2 (.q 3 (.q 4 (.q 5 (.q 6 (.q 7 (.q 8 (.q 9 (.s 10 (.q 11 (.q 12 (.q 13 (.q 14 (.q 15 (.q 16 (.q 17 (.q 18 (.q 19 (.q 20 (.q 21 (.q 22 (.q 23 (.q 24 .nil))))))))))))))))))))))))) (by kernel_rfl) (by kernel_rfl) rfl (by kernel_rfl) (fun w_9 hc_11 => (SL.cons ((h_8.same hc_11).ok _ M0) (SL.cons ((h_8.same hc_11).ok _ M1) (SL.cons ((h_8.same hc_11).ok _ M2) (SL.cons ((h_8.same hc_11).ok _ M3) (SL.cons ((h_8.same hc_11).ok _ M4) (SL.cons ((h_8.same hc_11).ok _ M5) (SL.nil _ _)))))))) (fun w_9 hc_11 => ?_)
  have h_10 := h_8.same hc_11
  refine qT rfl rfl (fun wq hS => R.move (v := (.slice a n cap)) rfl) ?_
  refine qT rfl rfl (fun wq hS => R.move (v := (vn k)) rfl) ?_
  refine qT rfl rfl (fun wq hS => R.indexS (a := a) (i := k) (off := k * 67) (xs := xs) rfl rfl rfl (by omega) (viewV (hS _ M5)) (by rw [Lgs.len hp, hn]; omega) underlying61 sizeOf64 rfl) ?_
  refine qT rfl rfl (fun wq hS => R.fieldG (a := a) (i := k * 67) (off' := k * 67) rfl underlying64 rfl sizeOf56 rfl rfl) ?_
  refine qT rfl rfl (fun wq hS => R.loadGA (a := a) (i := k * 67) (xs := xs) (cs := flat [(1, [(vi (((lg.getD k ((0, [], 0, []), [])).1).1))]), (32, (((lg.getD k ((0, [], 0, []), [])).1).2.1).map vu8), (1, [(vi (((lg.getD k ((0, [], 0, []), [])).1).2.2.1))]), (1, [(.slice ka kn kc)])]) rfl (viewV (hS _ M5)) isAgg56 sizeOf56 khx ((sC sV (sC (s8 khq.1) (sC sV (sC sV sN))))).len (by decide)) ?_
  refine qT rfl rfl (fun wq hS => R.move (v := (.slice a2 n cap2)) rfl) ?_
  refine qT rfl rfl (fun wq hS => R.move (v := (vn k)) rfl) ?_
  refine qT rfl rfl (fun wq hS => R.indexS (a := a2) (i := k) (off := k * 67) (xs := ys) rfl rfl rfl (by omega) (viewV (hS _ M3)) (by rw [Lgs.len hp2, hn]; omega) underlying61 sizeOf64 rfl) ?_
  refine qT rfl rfl (fun wq hS => R.fieldG (a := a2) (i := k * 67) (off' := k * 67) rfl underlying64 rfl sizeOf56 rfl rfl) ?_
  refine qT rfl rfl (fun wq hS => R.loadGA (a := a2) (i := k * 67) (xs := ys) (cs := flat [(1, [(vi (((lg.getD k ((0, [], 0, []), [])).1).1))]), (32, (((lg.getD k ((0, [], 0, []), [])).1).2.1).map vu8), (1, [(vi (((lg.getD k ((0, [], 0, []), [])).1).2.2.1))]), (1, [(.slice ga gn gc)])]) rfl (viewV (hS _ M3)) isAgg56 sizeOf56 ghx ((sC sV (sC (s8 ghq.1) (sC sV (sC sV sN))))).len (by decide)) ?_
  refine WT.s (oN rfl ?_)
  refine WL.call Try.call54 rfl rfl (c_rSame ((lg.getD k ((0, [], 0, []), [])).1) ((lg.getD k ((0, [], 0, []), [])).1) khq.1 ghq.1 ka kn kc khn ga gn gc ghn _ (viewV (h_10.ok _ M1)) (viewV (h_10.ok _ M0))) rfl ?_
  rintro _ w_13 ⟨rfl, hc_12⟩
  have h_14 := h_10.same hc_12
  refine WL.nil ?_
  refine ⟨(SL.cons (h_14.ok _ M0) (SL.cons (h_14.ok _ M1) (SL.cons (h_14.ok _ M2) (SL.cons (h_14.ok _ M3) (SL.cons (h_14.ok _ M4) (SL.cons (h_14.ok _ M5) (SL.nil _ _))))))), ?_⟩
  refine qT rfl rfl (fun wq hS => R.not (b := true) (congrArg Value.bool (decide_eq_true rfl))) ?_
  refine qT rfl rfl (fun wq hS => R.move (v := (.bool false)) rfl) ?_
  refine WT.q rfl (Wn.yes rfl rfl rfl) rfl rfl (fun wq hS => R.move (v := (.slice a n cap)) rfl) ?_
  refine WT.q rfl (Wn.yes rfl rfl rfl) rfl rfl (fun wq hS => R.move (v := (vn k)) rfl) ?_
  refine WT.q rfl (Wn.yes rfl rfl rfl) rfl rfl (fun wq hS => R.indexS (a := a) (i := k) (off := k * 67) (xs := xs) rfl rfl rfl (by omega) (viewV (hS _ M5)) (by rw [Lgs.len hp, hn]; omega) underlying61 sizeOf64 rfl) ?_
  refine WT.q rfl (Wn.yes rfl rfl rfl) rfl rfl (fun wq hS => R.fieldG (a := a) (i := k * 67) (off' := k * 67 + 35) rfl underlying64 rfl sizeOf23 rfl rfl) ?_
  refine WT.q rfl (Wn.yes rfl rfl rfl) rfl rfl (fun wq hS => R.loadGA (a := a) (i := k * 67 + 35) (xs := xs) (cs := ((lg.getD k ((0, [], 0, []), [])).2).map vu8) rfl (viewV (hS _ M5)) isAgg23 sizeOf23 (Lgs.ans (z := ((0, [], 0, []), [])) hp (i := k) hkl).1 (len_map (Lgs.ans (z := ((0, [], 0, []), [])) hp (i := k) hkl).2) (by decide)) ?_
  refine WT.q rfl (Wn.yes rfl rfl rfl) rfl rfl (fun wq hS => R.move (v := (.slice a2 n cap2)) rfl) ?_
  refine WT.q rfl (Wn.yes rfl rfl rfl) rfl rfl (fun wq hS => R.move (v := (vn k)) rfl) ?_
  refine WT.q rfl (Wn.yes rfl rfl rfl) rfl rfl (fun wq hS => R.indexS (a := a2) (i := k) (off := k * 67) (xs := ys) rfl rfl rfl (by omega) (viewV (hS _ M3)) (by rw [Lgs.len hp2, hn]; omega) underlying61 sizeOf64 rfl) ?_
  refine WT.q rfl (Wn.yes rfl rfl rfl) rfl rfl (fun wq hS => R.fieldG (a := a2) (i := k * 67) (off' := k * 67 + 35) rfl underlying64 rfl sizeOf23 rfl rfl) ?_
  refine WT.q rfl (Wn.yes rfl rfl rfl) rfl rfl (fun wq hS => R.loadGA (a := a2) (i := k * 67 + 35) (xs := ys) (cs := ((lg.getD k ((0, [], 0, []), [])).2).map vu8) rfl (viewV (hS _ M3)) isAgg23 sizeOf23 (Lgs.ans (z := ((0, [], 0, []), [])) hp2 (i := k) hkl).1 (len_map (Lgs.ans (z := ((0, [], 0, []), [])) hp2 (i := k) hkl).2) (by decide)) ?_
  refine WT.q rfl (Wn.yes rfl rfl rfl) rfl rfl (fun wq hS => R.neA (xs := ((lg.getD k ((0, [], 0, []), [])).2).map vu8) (ys := ((lg.getD k ((0, [], 0, []), [])).2).map vu8) (r := false) rfl rfl eqGuardType23 kt23 (by decide) ag23 (Typ.u8s underlying23 ce23 underlying5 ce5 ((Lgs.ans (z := ((0, [], 0, []), [])) hp (i := k) hkl).2)) (Typ.u8s underlying23 ce23 underlying5 ce5 ((Lgs.ans (z := ((0, [], 0, []), [])) hp2 (i := k) hkl).2)) (neT rfl)) ?_
  refine qT rfl rfl (fun wq hS => R.pickF (v := (.bool false)) rfl rfl) ?_
  refine WT.nil (thn_n ?_)
  refine WP.condF rfl ?_
  refine WP.skip (inb_n (thn_n (WP.reg ?_)))
  refine qM (vn k) rfl rfl (qV rfl (R.bin rfl rfl (bi_add (c := ((k + 1 : Nat) : Int)) (by omega) (by omega))) (qA (vn (k + 1)) rfl rfl ?_))
  refine WL.nil (thn_n ?_)
  have h_20 := (((((h_14.drop rfl).drop rfl).up J3).up J3).up J3).up J3
  exact ⟨k + 1, _, (by omega), (U4 rfl rfl rfl rfl (U4 rfl rfl rfl rfl (U4 rfl rfl rfl rfl (U4 rfl rfl rfl rfl (U4 rfl rfl rfl rfl (U4 rfl rfl rfl rfl (U4 rfl rfl rfl rfl (U4 rfl rfl rfl rfl (Ag.updL rfl (Ag.mix _ _ _)))))))))), ⟨rfl, trivial⟩, h_20, (by omega), rfl⟩
 ·have p_21 := of_decide_eq_false c_5
  refine WP.exit (thn_x (thn_x (inb_hit (thn_n (WP.seq (WP.reg ?_))))))
  refine qA (.bool true) rfl rfl ?_
  refine WL.nil (thn_n (WP.ret ?_))
  refine ret_of results26 (RV.tmp (v := (.bool true)) rfl RV.nil) ?_
  exact ⟨rfl, h_2.chgS⟩
end Go.Proofs.Yteclkcpdclimnaa

namespace Go.Vc
open Go.RowKit Go.ChangeShapes Go.WideShapes Go.ChangeAt
section
variable {P : Program} {w : World} {t : TypeId} {cs : List Value}
theorem Tr.slG {e : TypeId} {s : Nat} (hu : P.underlying t = some (.slice e)) (hce : P.cellsOf e = s) (hs : 1 ≤ s) (h : Tr P w t cs) :
    ∃ a n cap, ∃ els : List (List Value), cs = [.slice a n cap] ∧ els.length = n ∧ n ≤ cap ∧ cap ≤ maxLen ∧ (∀ y ∈ els, y.length = s ∧ Tr P w e y) ∧ (Ent.view a els.flatten).ok w.heap.size w := by
  rcases Tr.nilOrSlice hu h with rfl | ⟨a, len, cap, rfl, h1, h2, h3⟩
  · exact ⟨none, 0, 0, [], rfl, rfl, Nat.le_refl _, by simp [maxLen], (by intro y hy; cases hy), ⟨View.nil _ _, fun ad h => by cases h⟩⟩
  · have key : ∀ k, k ≤ len → ∃ els : List (List Value), els.length = k ∧ els.flatten.length = s * k ∧ (∀ y ∈ els, y.length = s ∧ Tr P w e y) ∧ View w (some a) els.flatten := by
      intro k
      induction k with
      | zero => intro _; exact ⟨[], rfl, rfl, (by intro y hy; cases hy), View.nil _ _⟩
      | succ k ih =>
        intro hk
        obtain ⟨els, hl, hf, he, hv⟩ := ih (by omega)
        obtain ⟨ys, hys, ht⟩ := h3 k (by omega)
        rw [hce] at hys
        obtain ⟨hyl, hyc⟩ := cells?_all hys
        refine ⟨els ++ [ys], by simp [hl], by simp [hf, hyl, Nat.mul_succ], fun y hy => ?_, fun i v hv' => ?_⟩
        · rcases List.mem_append.1 hy with hy | hy
          · exact he y hy
          · rw [List.mem_singleton] at hy; subst hy; exact ⟨hyl, ht⟩
        · rw [List.flatten_append] at hv'
          by_cases hi : i < els.flatten.length
          · refine hv i v ?_
            rw [List.getElem?_append_left hi] at hv'
            exact hv'
          · rw [List.getElem?_append_right (by omega)] at hv'
            have h4 := hyc (i - els.flatten.length) v (by rw [List.flatten_cons, List.flatten_nil, List.append_nil] at hv'; exact hv')
            rw [add_add, hf, Nat.mul_comm k, show s * k + (i - s * k) = i by omega] at h4
            exact ⟨a, rfl, h4⟩
    obtain ⟨els, hl, hf, he, hv⟩ := key len (Nat.le_refl _)
    refine ⟨some a, len, cap, els, rfl, hl, h1, h2, he, ⟨hv, fun ad ha hne => ?_⟩⟩
    cases ha
    cases hx : els.flatten with
    | nil => rw [hx] at hne; simp at hne
    | cons x l =>
      obtain ⟨ad', e, hc⟩ := hv 0 x (by rw [hx]; rfl)
      cases e
      have := block_lt_of_cell hc
      rwa [Addr.add_block] at this
end
theorem els_of {α : Type} {f : α → List Value} {p : α → Prop} : ∀ {els : List (List Value)}, (∀ y ∈ els, ∃ r, y = f r ∧ p r) → ∃ rs : List α, els = rs.map f ∧ ∀ r ∈ rs, p r
  | [], _ => ⟨[], rfl, fun r h => by cases h⟩
  | y :: els, h => by
    obtain ⟨r, hr, hp⟩ := h y (List.mem_cons_self ..)
    obtain ⟨rs, hrs, hps⟩ := els_of (els := els) fun z hz => h z (List.mem_cons_of_mem _ hz)
    refine ⟨r :: rs, by rw [hr, hrs]; rfl, fun q hq => ?_⟩
    rcases List.mem_cons.1 hq with rfl | hq
    · exact hp
    · exact hps q hq
theorem flat_len {α : Type} {f : α → List Value} {s : Nat} : ∀ {rs : List α}, (∀ r ∈ rs, (f r).length = s) → (rs.map f).flatten.length = rs.length * s
  | [], _ => by simp
  | r :: rs, h => by
    rw [List.map_cons, List.flatten_cons, List.length_append, flat_len fun q hq => h q (List.mem_cons_of_mem _ hq), h r (List.mem_cons_self ..), List.length_cons, Nat.succ_mul]; omega
theorem flat_at {α : Type} {f : α → List Value} {s : Nat} {z : α} : ∀ {rs : List α} {k : Nat}, (∀ r ∈ rs, (f r).length = s) → k < rs.length → ((rs.map f).flatten.drop (k * s)).take s = f (rs.getD k z)
  | r :: rs, 0, h, _ => by
    have := h r (List.mem_cons_self ..)
    rw [Nat.zero_mul, List.drop_zero, List.map_cons, List.flatten_cons, List.take_append_of_le_length (by omega), List.take_of_length_le (by omega)]; rfl
  | r :: rs, k + 1, h, hk => by
    have h1 := h r (List.mem_cons_self ..)
    have h2 := flat_at (z := z) (rs := rs) (k := k) (fun q hq => h q (List.mem_cons_of_mem _ hq)) (by simpa using hk)
    rw [List.map_cons, List.flatten_cons, show (k + 1) * s = (f r).length + k * s by rw [h1, Nat.succ_mul]; omega, ← List.drop_drop, List.drop_left]
    simpa using h2
theorem getD_mem {α : Type} {z : α} {rs : List α} {k : Nat} (h : k < rs.length) : rs.getD k z ∈ rs := by
  have e : rs.getD k z = rs[k] := by simp [h]
  rw [e]; exact List.getElem_mem h
end Go.Vc

namespace Go.Orc
open Go.Vc Go.RowKit
def dr (df : List UInt8) (i : Nat) : List UInt8 := (df.drop (i * 32)).take 32
def Unl (df : List UInt8) (n : Nat) (d : List UInt8) : Prop := (∀ i, i < n → (∀ k, k < i → dr df k ≠ dr df i) ∧ df.getD (i * 32 + 31) 0 ≠ 1 ∧ dr df i ≠ d) ∧ d.getD 31 0 ≠ 1
def Apt (df : List UInt8) (n : Nat) : Prop := ∀ i, i < n → (∀ k, k < i → dr df k ≠ dr df i) ∧ df.getD (i * 32 + 31) 0 ≠ 1
section
variable {df : List UInt8} {n : Nat} {d : List UInt8}
theorem drawF_lt {i : Nat} (h : i < n) : drawF df n i = dr df i := by rw [drawF, if_pos h]; rfl
def DL (df : List UInt8) (n u : Nat) (l : Lg) : Prop := u = l.length ∧ ∀ i, i < l.length → (l.getD i ((0, [], 0, []), [])).2 = drawF df n i
end
end Go.Orc
namespace Go.Vc
open Go.RowKit
section
variable {P : Program} {F : Fr} {w : World} {ty : TypeId} {pos : String} {after : Array Edge} {dst : Option Tmp} {g : Option (Nat × Bool)}
end
end Go.Vc
namespace Go.Vc
open Go.RowKit
section
variable {P : Program} {F : Fr} {w : World} {ty : TypeId} {pos : String} {after : Array Edge} {dst : Option Tmp} {g : Option (Nat × Bool)}
end
end Go.Vc

namespace Go.Orc
open Go.Vc Go.RowKit
structure Ae where
  k : Int
  n : Int
  kd : Int
  key : List UInt8
  dm : Int
  data : List UInt8
  a : Option Addr
  c : Nat
def zAe : Ae := ⟨0, 0, 0, [], 0, [], none, 0⟩
def aeC (e : Ae) : List Value := flat [(1, [vi e.k]), (1, [vi e.n]), (1, [vi e.kd]), (32, e.key.map vu8), (1, [vi e.dm]), (1, [.slice e.a e.data.length e.c])]
def bI (x : Int) : Prop := -9223372036854775808 ≤ x ∧ x < 9223372036854775808
def okAe (e : Ae) : Prop := e.key.length = 32 ∧ e.data.length ≤ e.c ∧ e.c ≤ maxLen ∧ bI e.k ∧ bI e.n ∧ bI e.kd ∧ bI e.dm
def aesC (es : List Ae) : List Value := (es.map aeC).flatten
def Aks (w : World) (es : List Ae) : Prop := ∀ e ∈ es, View w e.a (e.data.map vu8)
def akBs (es : List Ae) : List Nat := es.flatMap fun e => (Ent.view e.a (e.data.map vu8)).blocks
theorem Aks.pin {B : Nat} {w : World} {es : List Ae} (h : Aks w es) : (Ent.pin (akBs es) (fun w => Aks w es)).ok B w := by
  refine ⟨h, fun b hb => ?_, fun w' hs e he => ?_⟩
  · obtain ⟨e, he, hb⟩ := List.mem_flatMap.1 hb
    exact Ent.lt (View.arg (h e he)) b hb
  · exact (Ent.ok_same (View.arg (h e he)) fun b hb => hs b (List.mem_flatMap.2 ⟨e, he, hb⟩)).1
theorem aeC_len {e : Ae} (h : okAe e) : (aeC e).length = 37 := by simp [aeC, flat, h.1]
theorem aesC_len {es : List Ae} (h : ∀ e ∈ es, okAe e) : (aesC es).length = es.length * 37 := flat_len fun e he => aeC_len (h e he)
theorem aesC_at {es : List Ae} {k : Nat} (h : ∀ e ∈ es, okAe e) (hk : k < es.length) : ((aesC es).drop (k * 37)).take 37 = aeC (es.getD k zAe) := flat_at (fun e he => aeC_len (h e he)) hk
theorem ae_get {es : List Ae} {k j : Nat} (h : ∀ e ∈ es, okAe e) (hk : k < es.length) (hj : j < 37) : (aesC es)[k * 37 + j]? = (aeC (es.getD k zAe))[j]? := by
  rw [← aesC_at h hk, List.getElem?_take, if_pos hj, List.getElem?_drop]
theorem aeC_e (e : Ae) : aeC e = ([vi e.k, vi e.n, vi e.kd] ++ e.key.map vu8) ++ [vi e.dm, .slice e.a e.data.length e.c] := by simp [aeC, flat]
theorem ae_0 {es : List Ae} {k : Nat} (h : ∀ e ∈ es, okAe e) (hk : k < es.length) : (aesC es)[k * 37]? = some (vi (es.getD k zAe).k) := by
  have e := ae_get (j := 0) h hk (by decide)
  rw [Nat.add_zero] at e
  rw [e, aeC_e]; rfl
theorem aeC_35 {e : Ae} (h : e.key.length = 32) : (aeC e)[35]? = some (vi e.dm) := by
  rw [aeC_e, List.getElem?_append_right (by simp [h])]; simp [h]
theorem aeC_36 {e : Ae} (h : e.key.length = 32) : (aeC e)[36]? = some (.slice e.a e.data.length e.c) := by
  rw [aeC_e, List.getElem?_append_right (by simp [h])]; simp [h]
theorem ae_35 {es : List Ae} {k : Nat} (h : ∀ e ∈ es, okAe e) (hk : k < es.length) : (aesC es)[k * 37 + 2 + 33]? = some (vi (es.getD k zAe).dm) := by
  have e := ae_get (j := 35) h hk (by decide)
  rw [show k * 37 + 2 + 33 = k * 37 + 35 from rfl, e, aeC_35 (h _ (getD_mem hk)).1]
theorem ae_36 {es : List Ae} {k : Nat} (h : ∀ e ∈ es, okAe e) (hk : k < es.length) : (aesC es)[k * 37 + 2 + 34]? = some (.slice (es.getD k zAe).a (es.getD k zAe).data.length (es.getD k zAe).c) := by
  have e := ae_get (j := 36) h hk (by decide)
  rw [show k * 37 + 2 + 34 = k * 37 + 36 from rfl, e, aeC_36 (h _ (getD_mem hk)).1]
theorem ae_q {es : List Ae} {k : Nat} (h : ∀ e ∈ es, okAe e) (hk : k < es.length) : ((aesC es).drop (k * 37 + 2)).take 35 = flat [(1, [vi (es.getD k zAe).kd]), (32, (es.getD k zAe).key.map vu8), (1, [vi (es.getD k zAe).dm]), (1, [.slice (es.getD k zAe).a (es.getD k zAe).data.length (es.getD k zAe).c])] := by
  have h2 := congrArg (fun l => l.drop 2) (aesC_at h hk)
  simp only [List.drop_take, List.drop_drop] at h2
  rw [show (35 : Nat) = 37 - 2 from rfl, h2]
  simp [aeC, flat]
theorem ae_v {w : World} {es : List Ae} {k : Nat} (h : Aks w es) (hk : k < es.length) : View w (es.getD k zAe).a ((es.getD k zAe).data.map vu8) := h _ (getD_mem hk)
theorem ae_b {es : List Ae} {k : Nat} (hk : k < es.length) : ∀ b ∈ (Ent.view (es.getD k zAe).a ((es.getD k zAe).data.map vu8)).blocks, b ∈ akBs es := fun b hb => List.mem_flatMap.2 ⟨_, getD_mem hk, hb⟩
def mayB (kd dm : Int) (key : List UInt8) : Bool := decide (kd ≥ 1) && (decide (kd ≤ 4) && (decide (dm ≥ 1) && (decide (dm ≤ 16) && (decide (kd ≠ 1) || decide (key = List.replicate 32 0)))))
theorem mayB_t {kd dm : Int} {key : List UInt8} (h : mayB kd dm key = true) : (1 ≤ kd ∧ kd ≤ 4) ∧ (1 ≤ dm ∧ dm ≤ 16) ∧ (kd = 1 → key = List.replicate 32 0) := by
  simp only [mayB, Bool.and_eq_true, Bool.or_eq_true, decide_eq_true_eq] at h
  obtain ⟨h1, h2, h3, h4, h5⟩ := h
  refine ⟨⟨h1, h2⟩, ⟨h3, h4⟩, fun e => ?_⟩
  rcases h5 with h5 | h5
  · exact absurd e h5
  · exact h5
def askB (q : Qn) : Bool := mayB q.1 q.2.2.1 q.2.1 && !decide (q.1 = 4)
def gD (id : Bool) (df : List UInt8) (dn u : Nat) (l : Lg) (q : Qn) : List UInt8 := bif askB q then anD id df dn u l q else List.replicate 32 0
def gE (q : Qn) : Int := bif askB q then 0 else 2
def gU (id : Bool) (u : Nat) (l : Lg) (q : Qn) : Nat := bif askB q then anU id u l q else u
def gL (id : Bool) (df : List UInt8) (dn u : Nat) (l : Lg) (q : Qn) : Lg := bif askB q then anL id df dn u l q else l
section
variable {id : Bool} {df : List UInt8} {dn u : Nat} {l : Lg} {q : Qn}
theorem gU_le (id : Bool) (u : Nat) (l : Lg) (q : Qn) : gU id u l q ≤ u + 1 := by
  unfold gU; cases askB q
  · exact Nat.le_succ _
  · exact anU_le ..
theorem gL_le (id : Bool) (df : List UInt8) (dn u : Nat) (l : Lg) (q : Qn) : (gL id df dn u l q).length ≤ l.length + 1 := by
  unfold gL; cases askB q
  · exact Nat.le_succ _
  · exact anL_le ..
theorem gD_len (h : df.length = 32 * dn) (hl : ok32 l) : (gD id df dn u l q).length = 32 := by
  unfold gD; cases askB q
  · exact List.length_replicate ..
  · exact anD_len h hl
theorem gL_32 (h : df.length = 32 * dn) (hl : ok32 l) : ok32 (gL id df dn u l q) := by
  unfold gL; cases askB q
  · exact hl
  · exact anL_32 h hl
theorem gU_old (h : askB q = true → ∃ d, lk q l = some d) : gU id u l q = u := by
  unfold gU; cases e : askB q
  · rfl
  · obtain ⟨d, hd⟩ := h e; exact anU_lk hd
theorem gL_old (h : askB q = true → ∃ d, lk q l = some d) : gL id df dn u l q = l := by
  unfold gL; cases e : askB q
  · rfl
  · obtain ⟨d, hd⟩ := h e; exact anL_lk hd
theorem lk_gL {q' : Qn} {d : List UInt8} (h : lk q l = some d) : lk q (gL id df dn u l q') = some d := by
  unfold gL; cases askB q'
  · exact h
  · exact lk_anL h
theorem lk_gself (h : askB q = true) : lk q (gL id df dn u l q) = some (gD id df dn u l q) := by
  unfold gL gD; rw [h]; exact lk_self
theorem gL_pre : ∃ t, gL id df dn u l q = l ++ t := by
  unfold gL; cases askB q
  · exact ⟨[], (List.append_nil _).symm⟩
  · cases hf : fdq q l 0 with
    | some i => exact ⟨[], by rw [cond_true, anL_hit hf, List.append_nil]⟩
    | none => exact ⟨[(q, mF id df dn u q)], by rw [cond_true, anL_miss hf]⟩
end
def bqQ (ms : List UInt8) (e : Ae) : Qn := if e.k = 1 then (e.kd, e.key, e.dm, e.data) else (3, ms, e.dm, [e.data].flatten)
def isB (e : Ae) : Prop := e.k = 1 ∨ e.k = 5
instance (e : Ae) : Decidable (isB e) := inferInstanceAs (Decidable (_ ∨ _))
def brS (id : Bool) (df : List UInt8) (dn : Nat) (ms : List UInt8) (es : List Ae) : Nat → Nat × Lg
  | 0 => (0, [])
  | k + 1 => if isB (es.getD k zAe) then (gU id (brS id df dn ms es k).1 (brS id df dn ms es k).2 (bqQ ms (es.getD k zAe)), gL id df dn (brS id df dn ms es k).1 (brS id df dn ms es k).2 (bqQ ms (es.getD k zAe))) else brS id df dn ms es k
section
variable {id : Bool} {df : List UInt8} {dn : Nat} {ms : List UInt8} {es : List Ae}
theorem brS_u : ∀ k, (brS id df dn ms es k).1 ≤ k
  | 0 => Nat.le_refl _
  | k + 1 => by
    have h1 := brS_u k
    have h2 := gU_le id (brS id df dn ms es k).1 (brS id df dn ms es k).2 (bqQ ms (es.getD k zAe))
    rw [brS]; split
    · show gU _ _ _ _ ≤ _; omega
    · omega
theorem brS_l : ∀ k, (brS id df dn ms es k).2.length ≤ k
  | 0 => Nat.le_refl _
  | k + 1 => by
    have h1 := brS_l k
    have h2 := gL_le id df dn (brS id df dn ms es k).1 (brS id df dn ms es k).2 (bqQ ms (es.getD k zAe))
    rw [brS]; split
    · show (gL _ _ _ _ _ _).length ≤ _; omega
    · omega
theorem brS_32 (h : df.length = 32 * dn) : ∀ k, ok32 (brS id df dn ms es k).2
  | 0 => okN
  | k + 1 => by
    rw [brS]; split
    · exact gL_32 h (brS_32 h k)
    · exact brS_32 h k
theorem brS_1 {k : Nat} (h : (es.getD k zAe).k = 1) : brS id df dn ms es (k + 1) = (gU id (brS id df dn ms es k).1 (brS id df dn ms es k).2 ((es.getD k zAe).kd, (es.getD k zAe).key, (es.getD k zAe).dm, (es.getD k zAe).data), gL id df dn (brS id df dn ms es k).1 (brS id df dn ms es k).2 ((es.getD k zAe).kd, (es.getD k zAe).key, (es.getD k zAe).dm, (es.getD k zAe).data)) := by
  rw [brS, if_pos (.inl h), bqQ, if_pos h]
theorem brS_5 {k : Nat} (h : (es.getD k zAe).k = 5) : brS id df dn ms es (k + 1) = (gU id (brS id df dn ms es k).1 (brS id df dn ms es k).2 (3, ms, (es.getD k zAe).dm, [(es.getD k zAe).data].flatten), gL id df dn (brS id df dn ms es k).1 (brS id df dn ms es k).2 (3, ms, (es.getD k zAe).dm, [(es.getD k zAe).data].flatten)) := by
  rw [brS, if_pos (.inr h), bqQ, if_neg (by omega)]
theorem brS_0 {k : Nat} (h1 : (es.getD k zAe).k ≠ 1) (h5 : (es.getD k zAe).k ≠ 5) : brS id df dn ms es (k + 1) = brS id df dn ms es k := by
  rw [brS, if_neg (fun h => h.elim h1 h5)]
theorem brS_keep {q : Qn} {d : List UInt8} {i : Nat} (h : lk q (brS id df dn ms es i).2 = some d) : ∀ t, lk q (brS id df dn ms es (i + t)).2 = some d
  | 0 => h
  | t + 1 => by
    show lk q (brS id df dn ms es ((i + t) + 1)).2 = _
    rw [brS]; split
    · exact lk_gL (brS_keep h t)
    · exact brS_keep h t
theorem brS_lk {i m : Nat} (hm : i < m) (hb : isB (es.getD i zAe)) (ha : askB (bqQ ms (es.getD i zAe)) = true) : lk (bqQ ms (es.getD i zAe)) (brS id df dn ms es m).2 = some (gD id df dn (brS id df dn ms es i).1 (brS id df dn ms es i).2 (bqQ ms (es.getD i zAe))) := by
  have h : lk (bqQ ms (es.getD i zAe)) (brS id df dn ms es (i + 1)).2 = some (gD id df dn (brS id df dn ms es i).1 (brS id df dn ms es i).2 (bqQ ms (es.getD i zAe))) := by
    rw [brS, if_pos hb]; exact lk_gself ha
  have h2 := brS_keep h (m - (i + 1))
  rwa [show i + 1 + (m - (i + 1)) = m by omega] at h2
theorem brS_pre {i : Nat} : ∀ t, ∃ r, (brS id df dn ms es (i + t)).2 = (brS id df dn ms es i).2 ++ r
  | 0 => ⟨[], (List.append_nil _).symm⟩
  | t + 1 => by
    obtain ⟨r, hr⟩ := brS_pre (i := i) t
    show ∃ r, (brS id df dn ms es ((i + t) + 1)).2 = _
    rw [brS]; split
    · obtain ⟨s, hs⟩ := gL_pre (id := id) (df := df) (dn := dn) (u := (brS id df dn ms es (i + t)).1) (l := (brS id df dn ms es (i + t)).2) (q := bqQ ms (es.getD (i + t) zAe))
      exact ⟨r ++ s, by show gL _ _ _ _ _ _ = _; rw [hs, hr, List.append_assoc]⟩
    · exact ⟨r, hr⟩
def ansB (l : Lg) (k : Nat) : List UInt8 := ((l.take k).map (·.2)).flatten
theorem ansB_len {l : Lg} (h : ok32 l) : ∀ {k}, k ≤ l.length → (ansB l k).length = 32 * k := by
  intro k hk
  unfold ansB
  have h2 : ∀ (m : Lg), ok32 m → ((m.map (·.2)).flatten).length = 32 * m.length := by
    intro m
    induction m with
    | nil => intro _; rfl
    | cons p r ih =>
      intro hm
      rw [List.map_cons, List.flatten_cons, List.length_append, hm p (List.mem_cons_self ..), ih fun x hx => hm x (List.mem_cons_of_mem _ hx), List.length_cons]; omega
  rw [h2 _ fun p hp => h p (List.mem_of_mem_take hp), List.length_take, Nat.min_eq_left hk]
theorem ansB_succ {l : Lg} {k : Nat} {z : Qn × List UInt8} (h : k < l.length) : ansB l (k + 1) = ansB l k ++ (l.getD k z).2 := by
  unfold ansB
  rw [List.take_add_one, List.map_append, List.flatten_append]
  simp [h]
theorem ansB_dr {l : Lg} {z : Qn × List UInt8} (h : ok32 l) : ∀ {k i : Nat}, k ≤ l.length → i < k → dr (ansB l k) i = (l.getD i z).2
  | k + 1, i, hk, hi => by
    rw [ansB_succ (z := z) (by omega)]
    have hl := ansB_len h (k := k) (by omega)
    have hz : (l.getD k z).2.length = 32 := h _ (getD_mem (by omega))
    unfold dr
    by_cases e : i < k
    · rw [List.drop_append_of_le_length (by omega), List.take_append_of_le_length (by rw [List.length_drop]; omega)]
      exact ansB_dr h (by omega) e
    · have : i = k := by omega
      subst this
      rw [List.drop_append, List.drop_of_length_le (by omega), List.nil_append, show i * 32 - (ansB l i).length = 0 by omega, List.drop_zero, List.take_of_length_le (by omega)]
theorem bridge {n : Nat} : ∀ k, k ≤ n → brS true (ansB (brS false [] 0 ms es n).2 (brS false [] 0 ms es n).2.length) (brS false [] 0 ms es n).2.length ms es k = ((brS false [] 0 ms es k).2.length, (brS false [] 0 ms es k).2)
    ∧ (k < n → isB (es.getD k zAe) → gD true (ansB (brS false [] 0 ms es n).2 (brS false [] 0 ms es n).2.length) (brS false [] 0 ms es n).2.length (brS true (ansB (brS false [] 0 ms es n).2 (brS false [] 0 ms es n).2.length) (brS false [] 0 ms es n).2.length ms es k).1 (brS true (ansB (brS false [] 0 ms es n).2 (brS false [] 0 ms es n).2.length) (brS false [] 0 ms es n).2.length ms es k).2 (bqQ ms (es.getD k zAe)) = gD false [] 0 (brS false [] 0 ms es k).1 (brS false [] 0 ms es k).2 (bqQ ms (es.getD k zAe))) := by
  intro k
  have key : ∀ k, k < n → isB (es.getD k zAe) → askB (bqQ ms (es.getD k zAe)) = true → fdq (bqQ ms (es.getD k zAe)) (brS false [] 0 ms es k).2 0 = none →
      drawF (ansB (brS false [] 0 ms es n).2 (brS false [] 0 ms es n).2.length) (brS false [] 0 ms es n).2.length (brS false [] 0 ms es k).2.length = cF (bqQ ms (es.getD k zAe)) := by
    intro k hk hb ha hf
    have e1 : (brS false [] 0 ms es (k + 1)).2 = (brS false [] 0 ms es k).2 ++ [(bqQ ms (es.getD k zAe), cF (bqQ ms (es.getD k zAe)))] := by
      rw [brS, if_pos hb]
      show gL _ _ _ _ _ _ = _
      unfold gL
      rw [ha, cond_true, anL_miss hf]; rfl
    obtain ⟨r, hr⟩ := brS_pre (id := false) (df := []) (dn := 0) (ms := ms) (es := es) (i := k + 1) (n - (k + 1))
    rw [show k + 1 + (n - (k + 1)) = n by omega, e1] at hr
    have hlt : (brS false [] 0 ms es k).2.length < (brS false [] 0 ms es n).2.length := by rw [hr]; simp
    rw [drawF_lt hlt, ansB_dr (z := (bqQ ms zAe, [])) (brS_32 rfl n) (Nat.le_refl _) hlt, hr]
    simp
  induction k with
  | zero =>
    intro _
    refine ⟨rfl, fun hk hb => ?_⟩
    unfold gD
    cases ha : askB (bqQ ms (es.getD 0 zAe))
    · rfl
    · have hf : fdq (bqQ ms (es.getD 0 zAe)) ([] : Lg) 0 = none := rfl
      simp only [cond_true]
      rw [brS, brS, anD_miss hf, anD_miss hf]
      exact key 0 hk hb ha hf
  | succ k ih =>
    intro hk
    obtain ⟨h1, h2⟩ := ih (by omega)
    have e : brS true (ansB (brS false [] 0 ms es n).2 (brS false [] 0 ms es n).2.length) (brS false [] 0 ms es n).2.length ms es (k + 1) = ((brS false [] 0 ms es (k + 1)).2.length, (brS false [] 0 ms es (k + 1)).2) := by
      rw [brS, h1]
      by_cases hb : isB (es.getD k zAe)
      · rw [if_pos hb]
        have e2 : (brS false [] 0 ms es (k + 1)).2 = gL false [] 0 (brS false [] 0 ms es k).1 (brS false [] 0 ms es k).2 (bqQ ms (es.getD k zAe)) := by rw [brS, if_pos hb]
        rw [e2]
        unfold gU gL
        cases ha : askB (bqQ ms (es.getD k zAe))
        · rfl
        · simp only [cond_true]
          cases hf : fdq (bqQ ms (es.getD k zAe)) (brS false [] 0 ms es k).2 0 with
          | some i => rw [anU_hit hf, anL_hit hf, anL_hit hf]
          | none =>
            rw [anU_miss hf, anL_miss hf, anL_miss hf, snoc_len]
            have := key k (by omega) hb ha hf
            show (_ + 1, _ ++ [(_, drawF _ _ _)]) = (_, _ ++ [(_, cF _)])
            rw [this]
      · rw [if_neg hb]
        have e2 : brS false [] 0 ms es (k + 1) = brS false [] 0 ms es k := by rw [brS, if_neg hb]
        rw [e2]
    refine ⟨e, fun hk2 hb => ?_⟩
    rw [e]
    unfold gD
    cases ha : askB (bqQ ms (es.getD (k + 1) zAe))
    · rfl
    · simp only [cond_true]
      cases hf : fdq (bqQ ms (es.getD (k + 1) zAe)) (brS false [] 0 ms es (k + 1)).2 0 with
      | some i => rw [anD_hit hf, anD_hit hf]
      | none => rw [anD_miss hf, anD_miss hf]; exact key (k + 1) hk2 hb ha hf
theorem br_old {n k : Nat} {q : Qn} (hk : k < n) (hb : isB (es.getD k zAe)) (hq : bqQ ms (es.getD k zAe) = q) : askB q = true → ∃ d, lk q (brS id df dn ms es n).2 = some d := by
  subst hq
  exact fun ha => ⟨_, brS_lk hk hb ha⟩
theorem br_val {n k m : Nat} {q : Qn} (hm : m = (brS false [] 0 ms es n).2.length) (hk : k < n) (hb : isB (es.getD k zAe)) (hq : bqQ ms (es.getD k zAe) = q) : gD false [] 0 (brS false [] 0 ms es n).1 (brS false [] 0 ms es n).2 q = gD true (ansB (brS false [] 0 ms es n).2 m) m (brS true (ansB (brS false [] 0 ms es n).2 m) m ms es k).1 (brS true (ansB (brS false [] 0 ms es n).2 m) m ms es k).2 q := by
  subst hq hm
  rw [(bridge k (Nat.le_of_lt hk)).2 hk hb]
  unfold gD
  cases ha : askB (bqQ ms (es.getD k zAe))
  · rfl
  · simp only [cond_true]
    have h := brS_lk (id := false) (df := []) (dn := 0) hk hb ha
    rw [anD_lk h]
    unfold gD
    rw [ha]; rfl
theorem br_end {n m i : Nat} (hm : m = (brS false [] 0 ms es n).2.length) (hi : i = n) : (brS true (ansB (brS false [] 0 ms es n).2 m) m ms es i).1 = (brS false [] 0 ms es n).2.length ∧ (brS true (ansB (brS false [] 0 ms es n).2 m) m ms es i).2 = (brS false [] 0 ms es n).2 := by
  subst hm hi
  rw [(bridge i (Nat.le_refl _)).1]; exact ⟨rfl, rfl⟩
end
end Go.Orc

namespace Go.Proofs.Yteclkcpdclimnaa
open Go.Proofs.Try
open Go.Vc Go.Orc Go.Sh Go.RowKit
set_option maxRecDepth 20000
end Go.Proofs.Yteclkcpdclimnaa
