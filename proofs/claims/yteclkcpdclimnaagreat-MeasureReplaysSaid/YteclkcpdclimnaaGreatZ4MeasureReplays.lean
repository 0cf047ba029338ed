/- Rules for walks and contracts of the functions that the law reaches, one behind the other. Conditions: none beyond what each theorem states. -/
import Derived.Test.YteclkcpdclimnaaGreatZ3MeasureReplays
set_option linter.unusedVariables false
set_option linter.unusedSimpArgs false
set_option linter.unusedSectionVars false
namespace Go.Proofs.YteclkcpdclimnaaGreat
open Go.Proofs.Tryz
open Go.Vc Go.Orc Go.Sh Go.RowKit
set_option maxRecDepth 20000
theorem el128 : ElT Tryz.prog 128 88 1 24 := ElT.mk' underlying128 (i := Tryz.t88) rfl rfl rfl rfl rfl rfl
theorem flat_take {ls : List (List UInt8)} {k : Nat} (h : k < ls.length) : (ls.take (k + 1)).flatten = (ls.take k).flatten ++ ls.getD k [] := by
 rw [take_snoc ls k [] h, List.flatten_append]; simp
theorem flat_take_le (ls : List (List UInt8)) (k : Nat) : ((ls.take k).flatten).length ≤ ls.flatten.length := by
 have h : ls.flatten = (ls.take k).flatten ++ (ls.drop k).flatten := by rw [← List.flatten_append, List.take_append_drop]
 rw [h, List.length_append]; omega
theorem ovr_ovr {α : Type} {g A B : List α} {i : Nat} (h : i + A.length + B.length ≤ g.length) : ovr (ovr g i A) (i + A.length) B = ovr g i (A ++ B) := by
 have h1 : (g.take i ++ A).length = i + A.length := by rw [List.length_append, List.length_take]; omega
 have e : ovr g i A = (g.take i ++ A) ++ g.drop (i + A.length) := by rw [ovr, List.append_assoc]
 rw [e, ovr, ← h1, List.take_left, List.drop_append, h1, List.drop_of_length_le (by omega), List.nil_append, List.drop_drop, ovr]
 simp only [List.append_assoc, List.length_append]
 congr 4; omega
theorem gr_B {C : List UInt8} (h : C.length ≤ 128) : ovr (List.replicate 128 (0 : UInt8)) 0 C = C ++ List.replicate (128 - C.length) (0 : UInt8) := by
 rw [ovr, List.take_zero, List.nil_append, Nat.zero_add, List.drop_replicate]
theorem gr_P {A B : List UInt8} (hA : A.length ≤ 8) (hB : B.length ≤ 120) : ovr (ovr (List.replicate 128 (0 : UInt8)) 0 A) 8 B = (A ++ List.replicate (8 - A.length) (0 : UInt8)) ++ B ++ List.replicate (120 - B.length) (0 : UInt8) := by
 have e : List.replicate (128 - A.length) (0 : UInt8) = List.replicate (8 - A.length) (0 : UInt8) ++ List.replicate 120 (0 : UInt8) := by
  rw [List.replicate_append_replicate]; congr 1; omega
 have l8 : (A ++ List.replicate (8 - A.length) (0 : UInt8)).length = 8 := by rw [List.length_append, List.length_replicate]; omega
 rw [gr_B (by omega), e, ← List.append_assoc, ovr]
 conv => lhs; rw [show ((A ++ List.replicate (8 - A.length) (0 : UInt8)) ++ List.replicate 120 (0 : UInt8)).take 8 = (A ++ List.replicate (8 - A.length) (0 : UInt8)) from List.take_left' l8]
 rw [← List.drop_drop, List.drop_left' l8, List.drop_replicate]
 simp only [List.append_assoc]
def recL (pc : UInt64) (rg : List UInt64) (run : Bool) : List (List UInt8) := [leN 8 pc.toNat, leN 8 (rg.getD 0 0).toNat, leN 8 (rg.getD 1 0).toNat, leN 8 (rg.getD 2 0).toNat, leN 8 (rg.getD 3 0).toNat, leN 8 (rg.getD 4 0).toNat, leN 8 (rg.getD 5 0).toNat, leN 8 (rg.getD 6 0).toNat, leN 8 (rg.getD 7 0).toNat] ++ (bif run then [[1]] else [])
def recP (pc : UInt64) (rg : List UInt64) (run : Bool) : List UInt8 := ovr (ovr (List.replicate 128 (0 : UInt8)) 0 ([114, 101, 99] : List UInt8)) 8 (recL pc rg run).flatten
def regsB (rg : List UInt64) : List UInt8 := ((((((((([] : List UInt8) ++ leN 8 (rg.getD 0 0).toNat) ++ leN 8 (rg.getD 1 0).toNat) ++ leN 8 (rg.getD 2 0).toNat) ++ leN 8 (rg.getD 3 0).toNat) ++ leN 8 (rg.getD 4 0).toNat) ++ leN 8 (rg.getD 5 0).toNat) ++ leN 8 (rg.getD 6 0).toNat) ++ leN 8 (rg.getD 7 0).toNat)
theorem regsB_len (rg : List UInt64) : (regsB rg).length = 64 := by simp [regsB, leN_len]
def recB (pc : UInt64) (rg : List UInt64) (run : Bool) : List UInt8 := ovr (List.replicate 128 (0 : UInt8)) 0 [(([114, 101, 99] : List UInt8) ++ List.replicate (8 - 3) (0 : UInt8)), leN 8 pc.toNat, regsB rg, [bif run then 1 else 0]].flatten
theorem recB_fl (pc : UInt64) (rg : List UInt64) (run : Bool) : ([(([114, 101, 99] : List UInt8) ++ List.replicate (8 - 3) (0 : UInt8)), leN 8 pc.toNat, regsB rg, [bif run then 1 else 0]].flatten).length = 81 := by
 simp [leN_len, regsB_len]
theorem recB_len (pc : UInt64) (rg : List UInt64) (run : Bool) : (recB pc rg run).length = 128 := ovr_len lr (by rw [recB_fl]; decide)
theorem recP_fl (pc : UInt64) (rg : List UInt64) (run : Bool) : ((recL pc rg run).flatten).length = 72 + run.toNat := by
 cases run <;> simp [recL, leN_len]
theorem rec_eq (pc : UInt64) (rg : List UInt64) (run : Bool) : recP pc rg run = recB pc rg run := by
 rw [recP, recB, gr_P (by decide) (by rw [recP_fl]; cases run <;> decide), gr_B (by rw [recB_fl]; decide), recP_fl, recB_fl]
 cases run <;> simp [recL, regsB]

theorem c_pword (x : UInt64) (w : World) :
  Cs Tryz.prog 129 [(vu64 x)].toArray w (fun v w1 => ∃ a cap, v = .slice a 8 cap ∧ Chg w w1 [] ∧ Own w.heap.size w1 5 1 a 8 cap ((leN 8 x.toNat).map vu8)) := by
 refine Cs.of (n := 11) (args := [(vu64 x)]) Tryz.func129 rfl rfl rfl ?_
 have h_0 := HP.init w
 refine WP.seq (WP.reg ?_)
 refine qA (.slice none 0 0) rfl rfl ?_
 refine WL.nil (thn_n (WP.seq (WP.reg ?_)))
 refine qM (vu64 x) rfl rfl ?_
 refine WL.call Tryz.call73 rfl rfl (c_Put_b x 8 rfl _) rfl ?_
 rintro _ w_3 ⟨a_1, cap_2, rfl, hc_4, ho_5⟩
 have h_6 := h_0.gotRow hc_4 ho_5
 refine qM (.tuple [(.slice a_1 8 cap_2), (vi 0)].toArray) rfl rfl (qV rfl (R.extract rfl rfl) (qV rfl (R.extract rfl rfl) (qA (.slice a_1 8 cap_2) rfl rfl (qA (vi 0) rfl rfl ?_))))
 refine WL.nil (thn_n (WP.seq (WP.reg ?_)))
 refine qM (.slice a_1 8 cap_2) rfl rfl (qA (.slice a_1 8 cap_2) rfl rfl ?_)
 refine WL.nil (thn_n (WP.ret ?_))
 refine ret_of results129 (RV.tmp (v := (.slice a_1 8 cap_2)) rfl RV.nil) ?_
 exact ⟨_, _, rfl, h_6.chgS, h_6.ok _ M0⟩

theorem c_rword10 (x : UInt64) (w : World) :
  Cs Tryz.prog 107 [(vu64 x)].toArray w (fun v w1 => ∃ a cap, v = .slice a 8 cap ∧ Chg w w1 [] ∧ Own w.heap.size w1 5 1 a 8 cap ((leN 8 x.toNat).map vu8)) := by
 refine Cs.of (n := 5) (args := [(vu64 x)]) Tryz.func107 rfl rfl rfl ?_
 have h_0 := HP.init w
 refine WP.seq (WP.reg ?_)
 refine qA (.slice none 0 0) rfl rfl ?_
 refine WL.nil (thn_n (WP.seq (WP.reg ?_)))
 refine qM (vu64 x) rfl rfl ?_
 refine WL.call Tryz.call62 rfl rfl (c_PutR x 8 (by omega) _) rfl ?_
 rintro _ w_3 ⟨a_1, cap_2, rfl, hc_4, ho_5⟩
 have h_6 := h_0.gotRow hc_4 ho_5
 refine qA (.slice a_1 8 cap_2) rfl rfl ?_
 refine WL.nil (thn_n (WP.ret ?_))
 refine ret_of results107 (RV.tmp (v := (.slice a_1 8 cap_2)) rfl RV.nil) ?_
 exact ⟨_, _, rfl, h_6.chgS, h_6.ok _ M0⟩

theorem c_mark (m : Nat) (l : List UInt8) (hl : l.length = m) (hm : m ≤ 8) (w : World) :
  Cs Tryz.prog 109 [(.string (bstr l))].toArray w (fun v w1 => ∃ a cap, v = .slice a 8 cap ∧ Chg w w1 [] ∧ Own w.heap.size w1 5 1 a 8 cap ((l ++ List.replicate (8 - m) (0 : UInt8)).map vu8)) := by
 refine Cs.of (n := 9) (args := [(.string (bstr l))]) Tryz.func109 rfl rfl rfl ?_
 have h_0 := HP.init w
 refine WP.seq (WP.reg ?_)
 refine qA (.slice none 0 0) rfl rfl ?_
 refine WL.nil (thn_n (WP.seq (WP.reg ?_)))
 refine qM (.string (bstr l)) rfl rfl ?_
 refine WL.toBytes (bs := l) h_0 rfl underlying9 underlying88 underlying5 (by simp only [maxLen]; first | decide | omega) rfl (fun a_1 c_2 w_3 h_4 => ?_)
 refine qM (.string (bstr l)) rfl rfl (qV rfl (R.lenStrL (l := l) (m := m) rfl rfl underlying9 hl) (qV rfl (R.bin rfl rfl (bi_sub (c := ((8 - m : Nat) : Int)) (by omega) (by omega))) ?_))
 refine WL.appendZ (i := Tryz.t5) (m := 8 - m) (km := 8) (xs := l.map vu8) (zs := (l ++ List.replicate (8 - m) (0 : UInt8)).map vu8) h_4 rfl rfl underlying88 underlying3 rfl rfl rfl rfl (by simp only [List.map_append, List.map_replicate, List.map_nil]) (by omega) (by omega) (fun _ _ => At.h) rfl (fun a_5 c_6 w_7 h_8 => ?_)
 refine qA (.slice a_5 8 c_6) rfl rfl ?_
 refine WL.nil (thn_n (WP.ret ?_))
 refine ret_of results109 (RV.tmp (v := (.slice a_5 8 c_6)) rfl RV.nil) ?_
 exact ⟨_, _, rfl, h_8.chgS, h_8.ok _ M0⟩

theorem c_granR (a : Option Addr) (n cap : Nat) (xs : List Value) (ls : List (List UInt8)) (hln : ls.length = n) (hb : ls.flatten.length ≤ 128) (hnb : n ≤ 1099511627776) (w : World) (hv : View w a xs) (hs : Sls w xs ls) :
  Cs Tryz.prog 108 [(.slice a n cap)].toArray w (fun v w1 => v = .agg ⟨(ovr (List.replicate 128 (0 : UInt8)) 0 ls.flatten).map vu8⟩ ∧ Chg w w1 []) := by
 refine Cs.of (n := 9) (args := [(.slice a n cap)]) Tryz.func108 rfl rfl rfl ?_
 have h_0 := HP.init w
 have h_01 := h_0.old (View.arg hv) (fun f hf => by cases hf)
 have h_00 := h_01.old hs.pin (fun f hf => by rw [List.mem_singleton] at hf; subst hf; intro hm; simp [Ent.mut] at hm)
 have hxl : xs.length = n := hs.len.trans hln
 refine WP.seq (WP.reg ?_)
 refine WL.alloc (segs := [(128, (zB 128).map vu8)]) h_00 (zv typeInfo29 rfl) rfl (sC (s8 lr) sN) rfl (fun b_1 w_2 h_3 => ?_)
 refine WL.nil (thn_n (WP.seq (WP.reg ?_)))
 refine WL.alloc (segs := [(128, (zB 128).map vu8)]) h_3 (zv typeInfo29 rfl) rfl (sC (s8 lr) sN) rfl (fun b_4 w_5 h_6 => ?_)
 refine WL.nil (thn_n (WP.seq ?_))
 refine WP.drawT (SL w.heap.size [.blk b_1 .nw 29 [(128, (zB 128).map vu8)], .pin (sblks xs) (fun w => Sls w xs ls), .view a xs]) (.q 0 (.q 1 (.s 2 (.s 3 .nil)))) (by kernel_rfl) (by kernel_rfl) rfl (by kernel_rfl) (fun w_7 hc_9 => (SL.cons ((h_6.same hc_9).ok _ M1) (SL.cons ((h_6.same hc_9).ok _ M2) (SL.cons ((h_6.same hc_9).ok _ M3) (SL.nil _ _))))) (fun w_7 hc_9 => ?_)
 have h_8 := h_6.same hc_9
 refine qT rfl rfl (fun wq hS => R.sliceA (b := b_4) (off := 0) (off' := 0) (l := 0) (h := 128) rfl EvB.dflt EvB.dflt (by decide) (by decide) underlying29 sizeOf5 rfl) ?_
 refine qT rfl rfl (fun wq hS => R.move (v := (.slice a n cap)) rfl) ?_
 refine WT.s (oN rfl ?_)
 refine WL.call Tryz.call74 rfl rfl (c_JoinR a n cap xs ls hln (by omega) (by omega) _ (viewV (h_8.ok _ M3)) (h_8.ok _ M2).1) rfl ?_
 rintro _ w_12 ⟨a_10, cap_11, rfl, hc_13, ho_14⟩
 have h_15 := h_8.gotRow hc_13 ho_14
 refine WL.nil ?_
 refine ⟨(N2_3_4 h_15.ok), ?_⟩
 refine WT.s (oN rfl ?_)
 refine WL.copy (q := ls.flatten.length) (i := 0) (ys := ls.flatten.map vu8) (cs' := (ovr (zB 128) 0 ls.flatten).map vu8) h_15 rfl rfl underlying88 sizeOf5 (ownView (h_15.ok _ M0)) (len_map (rfl : List.length ls.flatten = ls.flatten.length)) (one_u8 _) Y1 (by decide) Sg.h rfl (Nat.min_eq_left (by omega)) (by rw [len_map lr]; omega) (cpOvr (rfl : List.length ls.flatten = ls.flatten.length)) rfl (fun w_16 h_17 => ?_)
 refine WL.nil ?_
 refine ⟨(N2_3_4 h_17.ok), ?_⟩
 refine WT.nil (thn_n (WP.seq (WP.reg ?_)))
 refine qV rfl (R.loadA [] [(128, (ovr (zB 128) 0 ls.flatten).map vu8)] [] (cs := (ovr (zB 128) 0 ls.flatten).map vu8) rfl isAgg29 sizeOf29 (h_17.ok _ M1) rfl rfl rfl rfl) ?_
 refine WL.storeA [] [(128, (zB 128).map vu8)] [(128, (ovr (zB 128) 0 ls.flatten).map vu8)] [] h_17 rfl rfl sizeOf29 Y2 (by decide) rfl rfl rfl rfl rfl rfl (sC (s8 (ovr_len lr (by rw [(rfl : List.length ls.flatten = ls.flatten.length)]; omega))) sN) (fun w_18 h_19 => ?_)
 refine WL.nil (thn_n (WP.ret ?_))
 refine ret_of results108 (RV.cell rfl (h_19.loadA (cs := (ovr (zB 128) 0 ls.flatten).map vu8) isAgg29 sizeOf29 M2 rfl rfl) RV.nil) ?_
 exact ⟨rfl, h_19.chgS⟩

theorem c_gran1 (a : Option Addr) (n cap : Nat) (bs : List UInt8) (hl : bs.length = n) (ba bg : Nat) (Ta Tg : TypeId) (at_ : Nat) (g : List UInt8) (hg : g.length = 128) (hat : at_ + n ≤ 128) (hat1 : at_ < 128) (w : World) (hba : (Ent.blk ba .ar Ta [(1, [vi (at_ : Int)])]).ok w.heap.size w) (hbg : (Ent.blk bg .ar Tg [(128, g.map vu8)]).ok w.heap.size w) (hne : bg ≠ ba) (hv : View w a (bs.map vu8)) (hs1 : Sep (.view a (bs.map vu8)) (.blk bg .ar Tg [(128, g.map vu8)])) (hs2 : Sep (.view a (bs.map vu8)) (.blk ba .ar Ta [(1, [vi (at_ : Int)])])) :
  Cs Tryz.prog 151 [(.slice a n cap), (.pointer (some ⟨ba, 0, none⟩)), (.pointer (some ⟨bg, 0, none⟩))].toArray w (fun v w1 => v = .tuple [].toArray ∧ Chg w w1 [bg, ba] ∧ CellsAt w1 bg Tg (flat [(128, (ovr g at_ bs).map vu8)]) ∧ CellsAt w1 ba Ta (flat [(1, [vi ((at_ + n : Nat) : Int)])])) := by
 refine Cs.of (n := 10) (args := [(.slice a n cap), (pO ba 0), (pO bg 0)]) Tryz.func151 rfl rfl rfl ?_
 have h_0 := HP.init w
 have h_02 := h_0.old hba (fun f hf => by cases hf)
 have h_01 := h_02.old hbg (fun f hf => by rw [List.mem_singleton] at hf; subst hf; intro _ b hb hb2; rw [Ent.blocks, List.mem_singleton] at hb hb2; exact hne (hb.symm.trans hb2))
 have h_00 := h_01.old (View.arg hv) (fun f hf => by
  rcases List.mem_cons.1 hf with rfl | hf
  ·exact hs1
  ·rw [List.mem_singleton] at hf; subst hf; exact hs2)
 refine WP.cutG (G := Unit) [4, 5, 6, 7, 8, 9] (fun _ => [(7, (.slice a n cap)), (4, (vn at_)), (5, (vn at_)), (6, (.slice (some ⟨bg, (0 + at_), none⟩) (128 - at_) (128 - at_))), (8, (vn n)), (9, (vn (at_ + n)))]) (fun _ w1 => HP w w1 [.view a (bs.map vu8), .blk bg .ar Tg [(128, (ovr g at_ bs).map vu8)], .blk ba .ar Ta [(1, [(vn (at_ + n))])]]) ?_ ?_
 ·refine WP.drawZ 6 (SL w.heap.size [.view a (bs.map vu8), .blk ba .ar Ta [(1, [(vn at_)])]]) (.q 3 (.s2 0 1 (.s 1 (.q 2 (.s 4 (.q 5 (.s 6 .nil))))) (.q 2 (.s2 0 4 (.s 4 (.q 5 (.s 6 .nil))) (.s 0 (.q 5 (.s 6 .nil))))))) (by kernel_rfl) (by kernel_rfl) rfl (by kernel_rfl) (fun w_1 hc_3 => (SL.cons ((h_00.same hc_3).ok _ M0) (SL.cons ((h_00.same hc_3).ok _ M2) (SL.nil _ _)))) (fun w_1 hc_3 => ?_)
  have h_2 := h_00.same hc_3
  refine ZT.q rfl (Wn.no rfl) rfl rfl (fun wq hS => R.move (v := (.slice a n cap)) rfl) ?_
  refine ZT.s2 ?_ ?_
  ·refine OpZ.one rfl (Wn.no rfl) ?_
   refine qV rfl (R.load1 rfl isAgg3 (h_2.ok _ M2) Sg.h) ?_
   refine WL.nil ?_
   refine ⟨(N0_2 h_2.ok), ?_⟩
   refine ZT.s ?_
   refine OpZ.one rfl (Wn.no rfl) ?_
   refine qV rfl (R.load1 rfl isAgg3 (h_2.ok _ M2) Sg.h) ?_
   refine WL.nil ?_
   refine ⟨(N0_2 h_2.ok), ?_⟩
   refine ZT.q rfl (Wn.no rfl) rfl rfl (fun wq hS => R.sliceA (b := bg) (off := 0) (off' := (0 + at_)) (l := at_) (h := 128) rfl (EvB.it (l := at_) rfl rfl) EvB.dflt (by omega) (by decide) underlying29 sizeOf5 (by rw [if_neg (by omega), Nat.mul_one])) ?_
   refine ZT.s ?_
   refine OpZ.one rfl (Wn.no rfl) ?_
   refine WL.copy (q := n) (i := at_) (ys := bs.map vu8) (cs' := (ovr g at_ bs).map vu8) h_2 rfl rfl underlying88 sizeOf5 (viewV (h_2.ok _ M0)) (len_map hl) (one_u8 _) Y1 (by decide) Sg.h rfl (Nat.min_eq_left (by omega)) (by rw [len_map hg]; omega) (cpOvr hl) rfl (fun w_4 h_5 => ?_)
   refine WL.nil ?_
   refine ⟨(N0_2 h_5.ok), ?_⟩
   refine ZT.q rfl (Wn.no rfl) rfl rfl (fun wq hS => R.bin rfl rfl (bi_add (c := ((at_ + n : Nat) : Int)) (by omega) (by omega))) ?_
   refine ZT.s ?_
   refine OpZ.last rfl (Wn.no rfl) ?_
   refine WL.store1 h_5 rfl rfl sizeOf3 rfl Y2 (by decide) Sg.h (fun w_6 h_7 => ?_)
   refine WL.nil (ZT.nil (thn_n ?_))
   exact ⟨(), (U2 rfl rfl (U4 rfl rfl rfl rfl (Ag.refl _ _))), ⟨rfl, rfl, rfl, rfl, rfl, rfl, trivial⟩, h_7⟩
  ·refine OpZ.one rfl (Wn.no rfl) ?_
   refine qV rfl (R.load1 rfl isAgg3 (h_2.ok _ M2) Sg.h) ?_
   refine WL.nil ?_
   refine ⟨(N0_2 h_2.ok), ?_⟩
   refine ZT.q rfl (Wn.no rfl) rfl rfl (fun wq hS => R.sliceA (b := bg) (off := 0) (off' := (0 + at_)) (l := at_) (h := 128) rfl (EvB.it (l := at_) rfl rfl) EvB.dflt (by omega) (by decide) underlying29 sizeOf5 (by rw [if_neg (by omega), Nat.mul_one])) ?_
   refine ZT.s2 ?_ ?_
   ·refine OpZ.one rfl (Wn.no rfl) ?_
    refine qV rfl (R.load1 rfl isAgg3 (h_2.ok _ M2) Sg.h) ?_
    refine WL.nil ?_
    refine ⟨(N0_2 h_2.ok), ?_⟩
    refine ZT.s ?_
    refine OpZ.one rfl (Wn.no rfl) ?_
    refine WL.copy (q := n) (i := at_) (ys := bs.map vu8) (cs' := (ovr g at_ bs).map vu8) h_2 rfl rfl underlying88 sizeOf5 (viewV (h_2.ok _ M0)) (len_map hl) (one_u8 _) Y1 (by decide) Sg.h rfl (Nat.min_eq_left (by omega)) (by rw [len_map hg]; omega) (cpOvr hl) rfl (fun w_8 h_9 => ?_)
    refine WL.nil ?_
    refine ⟨(N0_2 h_9.ok), ?_⟩
    refine ZT.q rfl (Wn.no rfl) rfl rfl (fun wq hS => R.bin rfl rfl (bi_add (c := ((at_ + n : Nat) : Int)) (by omega) (by omega))) ?_
    refine ZT.s ?_
    refine OpZ.last rfl (Wn.no rfl) ?_
    refine WL.store1 h_9 rfl rfl sizeOf3 rfl Y2 (by decide) Sg.h (fun w_10 h_11 => ?_)
    refine WL.nil (ZT.nil (thn_n ?_))
    exact ⟨(), (U2 rfl rfl (U4 rfl rfl rfl rfl (Ag.refl _ _))), ⟨rfl, rfl, rfl, rfl, rfl, rfl, trivial⟩, h_11⟩
   ·refine OpZ.one rfl (Wn.no rfl) ?_
    refine WL.copy (q := n) (i := at_) (ys := bs.map vu8) (cs' := (ovr g at_ bs).map vu8) h_2 rfl rfl underlying88 sizeOf5 (viewV (h_2.ok _ M0)) (len_map hl) (one_u8 _) Y1 (by decide) Sg.h rfl (Nat.min_eq_left (by omega)) (by rw [len_map hg]; omega) (cpOvr hl) rfl (fun w_12 h_13 => ?_)
    refine WL.nil ?_
    refine ⟨(N0_2 h_13.ok), ?_⟩
    refine ZT.s ?_
    refine OpZ.one rfl (Wn.no rfl) ?_
    refine qV rfl (R.load1 rfl isAgg3 (h_13.ok _ M2) Sg.h) ?_
    refine WL.nil ?_
    refine ⟨(N0_2 h_13.ok), ?_⟩
    refine ZT.q rfl (Wn.no rfl) rfl rfl (fun wq hS => R.bin rfl rfl (bi_add (c := ((at_ + n : Nat) : Int)) (by omega) (by omega))) ?_
    refine ZT.s ?_
    refine OpZ.last rfl (Wn.no rfl) ?_
    refine WL.store1 h_13 rfl rfl sizeOf3 rfl Y2 (by decide) Sg.h (fun w_14 h_15 => ?_)
    refine WL.nil (ZT.nil (thn_n ?_))
    exact ⟨(), (U2 rfl rfl (U4 rfl rfl rfl rfl (Ag.refl _ _))), ⟨rfl, rfl, rfl, rfl, rfl, rfl, trivial⟩, h_15⟩
 ·rintro _ J_16 w_17 h_18
  refine ret_n ?_
  refine ret_of results151 RV.nil ?_
  exact ⟨rfl, h_18.chgS, (h_18.ok _ M1).2.1, (h_18.ok _ M2).2.1⟩

theorem c_gran (m : Nat) (l : List UInt8) (hlm : l.length = m) (hm : m ≤ 8) (a : Option Addr) (n cap : Nat) (xs : List Value) (ls : List (List UInt8)) (hln : ls.length = n) (hb : ls.flatten.length ≤ 119) (hnb : n ≤ 1099511627776) (w : World) (hv : View w a xs) (hs : Sls w xs ls) :
  Cs Tryz.prog 130 [(.string (bstr l)), (.slice a n cap)].toArray w (fun v w1 => v = .agg ⟨(ovr (ovr (List.replicate 128 (0 : UInt8)) 0 l) 8 ls.flatten).map vu8⟩ ∧ Chg w w1 []) := by
 refine Cs.of (n := 28) (args := [(.string (bstr l)), (.slice a n cap)]) Tryz.func130 rfl rfl rfl ?_
 have h_0 := HP.init w
 have h_01 := h_0.old (View.arg hv) (fun f hf => by cases hf)
 have h_00 := h_01.old hs.pin (fun f hf => by rw [List.mem_singleton] at hf; subst hf; intro hm; simp [Ent.mut] at hm)
 have hxl : xs.length = n := hs.len.trans hln
 refine WP.seq (WP.reg ?_)
 refine WL.alloc (segs := [(128, (zB 128).map vu8)]) h_00 (zv typeInfo29 rfl) rfl (sC (s8 lr) sN) rfl (fun b_1 w_2 h_3 => ?_)
 refine WL.nil (thn_n (WP.seq (WP.reg ?_)))
 refine qV rfl (R.sliceA (b := b_1) (off := 0) (off' := 0) (l := 0) (h := 128) rfl EvB.dflt EvB.dflt (by decide) (by decide) underlying29 sizeOf5 rfl) (qM (.string (bstr l)) rfl rfl ?_)
 refine WL.copyS (q := m) (i := 0) (bs := l) (cs' := (ovr (zB 128) 0 l).map vu8) h_3 rfl rfl underlying88 sizeOf5 hlm At.h (by decide) Sg.h rfl (Nat.min_eq_left (by omega)) (by rw [len_map lr]; omega) (cpOvr hlm) rfl (fun w_4 h_5 => ?_)
 refine qM (.string (bstr l)) rfl rfl (qV rfl (R.lenStrL (l := l) (m := m) rfl rfl underlying9 hlm) (qV rfl (R.bin rfl rfl (bi_sub (c := ((m - m : Nat) : Int)) (by omega) (by omega))) (qV rfl (R.bin rfl rfl (bi_add (c := (((m - m) + 8 : Nat) : Int)) (by omega) (by omega))) ?_)))
 refine WL.alloc (segs := [(1, [(vi 0)])]) h_5 (zv typeInfo3 rfl) rfl (sC sV sN) rfl (fun b_6 w_7 h_8 => ?_)
 refine WL.store1 h_8 rfl rfl sizeOf3 rfl At.h (by decide) Sg.h (fun w_9 h_10 => ?_)
 refine WL.nil (thn_n (WP.seq (WP.reg ?_)))
 refine qV rfl (R.makeFuncL (fi := []) (ca := [(pO b_6 0), (pO b_1 0)]) rfl rfl) (qA (Value.func (Fn.func 151) [].toArray [(Value.pointer (some ⟨b_6, 0, none⟩)), (Value.pointer (some ⟨b_1, 0, none⟩))].toArray) rfl rfl ?_)
 refine WL.nil (thn_n (WP.seq (WP.seq (WP.reg ?_))))
 refine qM (.slice a n cap) rfl rfl (qV rfl (R.lenS (a := a) (m := n) rfl rfl underlying128) (qM (vi 0) rfl rfl ?_))
 refine WL.nil (thn_n (WP.block ?_))
 refine WP.loopG (G := Nat) [8, 19, 20, 21, 22, 23, 24, 25, 26] (fun k => [(19, (vn k))]) (fun k m w1 => HP w w1 [.blk b_6 .nw 3 [(1, [(vn (8 + ((ls.take k).flatten).length))])], .blk b_1 .nw 29 [(128, (ovr (ovr (zB 128) 0 l) 8 ((ls.take k).flatten)).map vu8)], .pin (sblks xs) (fun w => Sls w xs ls), .view a xs] ∧ (k ≤ n) ∧ m = n - k) ⟨0, _, ⟨rfl, trivial⟩, (by rw [show m - m + 8 = 8 + ((ls.take 0).flatten).length by simp, show ovr (zB 128) 0 l = ovr (ovr (zB 128) 0 l) 8 ((ls.take 0).flatten) from ovr_nil.symm] at h_10; exact h_10), Nat.zero_le _, rfl⟩ ?_
 rintro k m_13 J_14 w_11 ⟨h_12, hk, rfl⟩
 refine WP.seq (WP.reg ?_)
 refine qV rfl (R.bin rfl rfl (bi_lss (r := decide ((((k : Nat) : Int) : Int) < ((n : Nat) : Int))) rfl)) ?_
 refine WL.nil (thn_n (WP.seq ?_))
 refine WP.cond (b := decide ((((k : Nat) : Int) : Int) < ((n : Nat) : Int))) rfl (fun c_15 => ?_) (fun c_15 => ?_)
 ·have p_16 := of_decide_eq_true c_15
  refine WP.skip (thn_n (WP.seq (WP.block (WP.seq (WP.reg ?_)))))
  refine qV rfl (R.indexS (a := a) (i := k) (off := k) (xs := xs) rfl rfl rfl (by omega) (viewV (h_12.ok _ M3)) (by omega) underlying128 sizeOf88 (Nat.mul_one _).symm) ?_
  obtain ⟨a_17, n_18, c_19, hx_20, hl_21, hn_22, hv_23, hb_24⟩ := Sls.get (i := k) (h_12.ok _ M2).1 (by rw [hln]; omega)
  have h_25 := h_12.within (e' := .view a_17 ((ls.getD k []).map vu8)) M2 rfl (View.arg hv_23) rfl rfl (fun b hb_ => hb_24 _ (view_sblk hl_21 b hb_))
  refine qV rfl (R.loadG rfl (viewV (h_25.ok _ M4)) isAgg88 hx_20) (qA (.slice a_17 n_18 c_19) rfl rfl ?_)
  refine WL.nil (thn_n (WP.reg ?_))
  refine qM (Value.func (Fn.func 151) [].toArray [(Value.pointer (some ⟨b_6, 0, none⟩)), (Value.pointer (some ⟨b_1, 0, none⟩))].toArray) rfl rfl (qM (.slice a_17 n_18 c_19) rfl rfl ?_)
  have hleA := flat_take_le ls (k + 1)
  rw [flat_take (by omega), List.length_append] at hleA
  refine WL.call Tryz.call151 rfl rfl (c_gran1 a_17 n_18 c_19 (ls.getD k []) hl_21 b_6 b_1 3 29 (8 + ((ls.take k).flatten).length) (ovr (ovr (zB 128) 0 l) 8 ((ls.take k).flatten)) (ovr_len (ovr_len lr (by omega)) (by have := flat_take_le ls k; omega)) (by have e := flat_take (ls := ls) (k := k) (by omega); have hle := flat_take_le ls (k + 1); rw [e, List.length_append] at hle; omega) (by have := flat_take_le ls k; omega) _ (h_25.arg M1) (h_25.arg M2) (fun e => (h_25.ne (i := 1) (j := 2) rfl rfl rfl).symm (.inl rfl) _ (List.mem_singleton.2 rfl) (List.mem_singleton.2 e)) (viewV (h_25.ok _ M0)) (Sep.view (by decide) (fun h => h) (h_25.ne (i := 0) (j := 2) rfl rfl rfl)) (Sep.view (by decide) (fun h => h) (h_25.ne (i := 0) (j := 1) rfl rfl rfl))) rfl ?_
  rintro _ w_26 ⟨rfl, hc_27, hk_28, hk_29⟩
  have h_30 := h_25.setAll (Rp.same (Rp.blk (h_25.ok _ M1).2.2 (by decide) (sC sV sN) hk_29 (Rp.blk (h_25.ok _ M2).2.2 (by decide) (sC (s8 (ovr_len (ovr_len (ovr_len lr (by omega)) (by have := flat_take_le ls k; omega)) (by rw [hl_21]; omega))) sN) hk_28 (Rp.same (Rp.same Rp.nil))))) (hc_27.mono (by intro x hx; simp at hx ⊢; omega))
  refine WL.nil (inb_n (thn_n (WP.reg ?_)))
  refine qV rfl (R.bin rfl rfl (bi_add (c := ((k + 1 : Nat) : Int)) (by omega) (by omega))) (qM (vn (k + 1)) rfl rfl ?_)
  refine WL.nil (thn_n ?_)
  have h_31 := h_30.drop rfl
  have e := flat_take (ls := ls) (k := k) (by omega)
  have hle := flat_take_le ls (k + 1)
  rw [e, List.length_append] at hle
  have eg : ovr (ovr (ovr (List.replicate 128 (0 : UInt8)) 0 l) 8 ((ls.take k).flatten)) (8 + ((ls.take k).flatten).length) (ls.getD k []) = ovr (ovr (List.replicate 128 (0 : UInt8)) 0 l) 8 ((ls.take (k + 1)).flatten) := by rw [ovr_ovr (by rw [ovr_len (K := 128) lr (by omega)]; omega), e]
  have ea : 8 + ((ls.take k).flatten).length + n_18 = 8 + ((ls.take (k + 1)).flatten).length := by rw [e, List.length_append]; omega
  rw [eg, ea] at h_31
  exact ⟨k + 1, _, (by omega), (Ag.upd rfl (U4 rfl rfl rfl rfl (U4 rfl rfl rfl rfl (Ag.updL rfl (Ag.mix _ _ _))))), ⟨rfl, trivial⟩, h_31, (by omega), rfl⟩
 ·have p_32 := of_decide_eq_false c_15
  refine WP.exit (thn_x (thn_x (inb_hit (thn_n (WP.seq (WP.reg ?_))))))
  refine qV rfl (R.loadA [] [(128, (ovr (ovr (zB 128) 0 l) 8 ((ls.take k).flatten)).map vu8)] [] (cs := (ovr (ovr (zB 128) 0 l) 8 ((ls.take k).flatten)).map vu8) rfl isAgg29 sizeOf29 (h_12.ok _ M1) rfl rfl rfl rfl) ?_
  refine WL.storeA [] [(128, (ovr (ovr (zB 128) 0 l) 8 ((ls.take k).flatten)).map vu8)] [(128, (ovr (ovr (zB 128) 0 l) 8 ((ls.take k).flatten)).map vu8)] [] h_12 rfl rfl sizeOf29 Y1 (by decide) rfl rfl rfl rfl rfl rfl (sC (s8 (ovr_len (ovr_len lr (by omega)) (by have := flat_take_le ls k; omega))) sN) (fun w_33 h_34 => ?_)
  refine WL.nil (thn_n (WP.ret ?_))
  refine ret_of results130 (RV.cell rfl (h_34.loadA (cs := (ovr (ovr (zB 128) 0 l) 8 ((ls.take k).flatten)).map vu8) isAgg29 sizeOf29 M1 rfl rfl) RV.nil) ?_
  have hkn : k = n := by omega
  exact ⟨by rw [hkn, List.take_of_length_le (by omega)]; rfl, h_34.chgS⟩

theorem c_rec (pc : UInt64) (rg : List UInt64) (hrg : rg.length = 8) (run : Bool) (w : World) :
  Cs Tryz.prog 106 [(.agg ⟨flat [(1, [(vu64 pc)]), (8, rg.map vu64), (1, [(.bool run)])]⟩)].toArray w (fun v w1 => v = .agg ⟨(recB pc rg run).map vu8⟩ ∧ Chg w w1 []) := by
 refine Cs.of (n := 29) (args := [(.agg ⟨flat [(1, [(vu64 pc)]), (8, rg.map vu64), (1, [(.bool run)])]⟩)]) Tryz.func106 rfl rfl rfl ?_
 have h_0 := HP.init w
 refine WP.seq (WP.reg ?_)
 refine WL.box (segs := [(1, [(vu64 pc)]), (8, rg.map vu64), (1, [(.bool run)])]) h_0 rfl rfl (sC sV (sC (SOk.u64 hrg) (sC sV sN))) rfl (fun b_1 w_2 h_3 => ?_)
 refine WL.alloc (segs := [(128, (zB 128).map vu8)]) h_3 (zv typeInfo29 rfl) rfl (sC (s8 lr) sN) rfl (fun b_4 w_5 h_6 => ?_)
 refine WL.nil (thn_n (WP.seq (WP.reg ?_)))
 refine qV rfl (R.fieldAddr (off' := 0) rfl underlying57 rfl sizeOf27 rfl rfl) (qV rfl (R.load1 rfl isAgg27 (h_6.ok _ M1) Sg.h) ?_)
 refine WL.call Tryz.call129 rfl rfl (c_pword pc _) rfl ?_
 rintro _ w_9 ⟨a_7, cap_8, rfl, hc_10, ho_11⟩
 have h_12 := h_6.gotRow hc_10 ho_11
 refine WL.buildSl (vs := [(0, (.slice a_7 8 cap_8))]) (cs := [(.slice a_7 8 cap_8)]) h_12 underlying128 sizeOf88 (zv typeInfo88 rfl) rfl rfl (by kernel_rfl) rfl (by simp [Value.oneCell']) rfl rfl (fun b_13 w_14 h_15 => ?_)
 refine qA (.slice (some ⟨b_13, 0, none⟩) 1 1) rfl rfl ?_
 refine WL.nil (thn_n (WP.seq (WP.seq (WP.reg ?_))))
 refine qM (vi 0) rfl rfl ?_
 refine WL.nil (thn_n (WP.block ?_))
 refine WP.loopU (WI.round ?_)
 refine WP.seq (WP.reg ?_)
 refine qV rfl (R.bin rfl rfl (bi_lss (r := true) (by decide))) ?_
 refine WL.nil (thn_n (WP.seq ?_))
 refine WP.condT rfl ?_
 refine WP.skip (thn_n (WP.seq (WP.block (WP.seq (WP.reg ?_)))))
 refine qM (vi 0) rfl rfl (qA (vi 0) rfl rfl ?_)
 refine WL.nil (thn_n (WP.reg ?_))
 refine qM (.slice (some ⟨b_13, 0, none⟩) 1 1) rfl rfl (qM (vi 0) rfl rfl (qV rfl (R.fieldAddr (off' := 1) rfl underlying57 rfl sizeOf55 rfl rfl) (qV rfl (R.indexA (b := b_1) (off := 1) (off' := 1) (i := 0) rfl rfl rfl (by decide) underlying55 sizeOf27 rfl) (qV rfl (R.loadE (b := b_1) (off := 1) (i := 0) (v := (vu64 (rg.getD 0 0))) rfl isAgg27 (h_15.ok _ M3) (Sg.t rfl Sg.h) rfl (get_u64 (lt_len (K := 8) hrg (by decide)))) ?_))))
 refine WL.call Tryz.call129 rfl rfl (c_pword (rg.getD 0 0) _) rfl ?_
 rintro _ w_18 ⟨a_16, cap_17, rfl, hc_19, ho_20⟩
 have h_21 := h_15.gotRow hc_19 ho_20
 refine WL.buildSl (vs := [(0, (.slice a_16 8 cap_17))]) (cs := [(.slice a_16 8 cap_17)]) h_21 underlying128 sizeOf88 (zv typeInfo88 rfl) rfl rfl (by kernel_rfl) rfl (by simp [Value.oneCell']) rfl rfl (fun b_22 w_23 h_24 => ?_)
 have h_25 := HP.blkRow (m := 1) (s := 1) h_24 Y2 rfl (by simp only [maxLen]; decide)
 refine WL.append (km := 2) (xs := [(.slice a_7 8 cap_8)]) (ys := [(.slice a_16 8 cap_17)]) (zs := [(.slice a_7 8 cap_8), (.slice a_16 8 cap_17)]) h_25 rfl rfl el128 (viewB (h_25.ok _ M0) Sg.h) rfl (by simp [Value.oneCell']) rfl rfl (by omega) (by omega) (fun _ _ => Y2) rfl (fun a_26 c_27 w_28 h_29 => ?_)
 refine qA (.slice a_26 2 c_27) rfl rfl ?_
 refine WL.nil (inb_n (thn_n (WP.reg ?_)))
 refine qV rfl (R.bin rfl rfl (bi_add (c := 1) (by omega) (by omega))) (qM (vi 1) rfl rfl ?_)
 refine WL.nil (thn_n ?_)
 refine WI.round ?_
 refine WP.seq (WP.reg ?_)
 refine qV rfl (R.bin rfl rfl (bi_lss (r := true) (by decide))) ?_
 refine WL.nil (thn_n (WP.seq ?_))
 refine WP.condT rfl ?_
 refine WP.skip (thn_n (WP.seq (WP.block (WP.seq (WP.reg ?_)))))
 refine qM (vi 1) rfl rfl (qA (vi 1) rfl rfl ?_)
 refine WL.nil (thn_n (WP.reg ?_))
 refine qM (.slice a_26 2 c_27) rfl rfl (qM (vi 1) rfl rfl (qV rfl (R.fieldAddr (off' := 1) rfl underlying57 rfl sizeOf55 rfl rfl) (qV rfl (R.indexA (b := b_1) (off := 1) (off' := 2) (i := 1) rfl rfl rfl (by decide) underlying55 sizeOf27 rfl) (qV rfl (R.loadE (b := b_1) (off := 2) (i := 1) (v := (vu64 (rg.getD 1 0))) rfl isAgg27 (h_29.ok _ M5) (Sg.t rfl Sg.h) rfl (get_u64 (lt_len (K := 8) hrg (by decide)))) ?_))))
 refine WL.call Tryz.call129 rfl rfl (c_pword (rg.getD 1 0) _) rfl ?_
 rintro _ w_32 ⟨a_30, cap_31, rfl, hc_33, ho_34⟩
 have h_35 := h_29.gotRow hc_33 ho_34
 refine WL.buildSl (vs := [(0, (.slice a_30 8 cap_31))]) (cs := [(.slice a_30 8 cap_31)]) h_35 underlying128 sizeOf88 (zv typeInfo88 rfl) rfl rfl (by kernel_rfl) rfl (by simp [Value.oneCell']) rfl rfl (fun b_36 w_37 h_38 => ?_)
 refine WL.append (km := 3) (xs := [(.slice a_7 8 cap_8), (.slice a_16 8 cap_17)]) (ys := [(.slice a_30 8 cap_31)]) (zs := [(.slice a_7 8 cap_8), (.slice a_16 8 cap_17), (.slice a_30 8 cap_31)]) h_38 rfl rfl el128 (viewB (h_38.ok _ M0) Sg.h) rfl (by simp [Value.oneCell']) rfl rfl (by omega) (by omega) (fun _ _ => Y4) rfl (fun a_39 c_40 w_41 h_42 => ?_)
 refine qA (.slice a_39 3 c_40) rfl rfl ?_
 refine WL.nil (inb_n (thn_n (WP.reg ?_)))
 refine qV rfl (R.bin rfl rfl (bi_add (c := 2) (by omega) (by omega))) (qM (vi 2) rfl rfl ?_)
 refine WL.nil (thn_n ?_)
 refine WI.round ?_
 refine WP.seq (WP.reg ?_)
 refine qV rfl (R.bin rfl rfl (bi_lss (r := true) (by decide))) ?_
 refine WL.nil (thn_n (WP.seq ?_))
 refine WP.condT rfl ?_
 refine WP.skip (thn_n (WP.seq (WP.block (WP.seq (WP.reg ?_)))))
 refine qM (vi 2) rfl rfl (qA (vi 2) rfl rfl ?_)
 refine WL.nil (thn_n (WP.reg ?_))
 refine qM (.slice a_39 3 c_40) rfl rfl (qM (vi 2) rfl rfl (qV rfl (R.fieldAddr (off' := 1) rfl underlying57 rfl sizeOf55 rfl rfl) (qV rfl (R.indexA (b := b_1) (off := 1) (off' := 3) (i := 2) rfl rfl rfl (by decide) underlying55 sizeOf27 rfl) (qV rfl (R.loadE (b := b_1) (off := 3) (i := 2) (v := (vu64 (rg.getD 2 0))) rfl isAgg27 (h_42.ok _ M7) (Sg.t rfl Sg.h) rfl (get_u64 (lt_len (K := 8) hrg (by decide)))) ?_))))
 refine WL.call Tryz.call129 rfl rfl (c_pword (rg.getD 2 0) _) rfl ?_
 rintro _ w_45 ⟨a_43, cap_44, rfl, hc_46, ho_47⟩
 have h_48 := h_42.gotRow hc_46 ho_47
 refine WL.buildSl (vs := [(0, (.slice a_43 8 cap_44))]) (cs := [(.slice a_43 8 cap_44)]) h_48 underlying128 sizeOf88 (zv typeInfo88 rfl) rfl rfl (by kernel_rfl) rfl (by simp [Value.oneCell']) rfl rfl (fun b_49 w_50 h_51 => ?_)
 refine WL.append (km := 4) (xs := [(.slice a_7 8 cap_8), (.slice a_16 8 cap_17), (.slice a_30 8 cap_31)]) (ys := [(.slice a_43 8 cap_44)]) (zs := [(.slice a_7 8 cap_8), (.slice a_16 8 cap_17), (.slice a_30 8 cap_31), (.slice a_43 8 cap_44)]) h_51 rfl rfl el128 (viewB (h_51.ok _ M0) Sg.h) rfl (by simp [Value.oneCell']) rfl rfl (by omega) (by omega) (fun _ _ => Y6) rfl (fun a_52 c_53 w_54 h_55 => ?_)
 refine qA (.slice a_52 4 c_53) rfl rfl ?_
 refine WL.nil (inb_n (thn_n (WP.reg ?_)))
 refine qV rfl (R.bin rfl rfl (bi_add (c := 3) (by omega) (by omega))) (qM (vi 3) rfl rfl ?_)
 refine WL.nil (thn_n ?_)
 refine WI.round ?_
 refine WP.seq (WP.reg ?_)
 refine qV rfl (R.bin rfl rfl (bi_lss (r := true) (by decide))) ?_
 refine WL.nil (thn_n (WP.seq ?_))
 refine WP.condT rfl ?_
 refine WP.skip (thn_n (WP.seq (WP.block (WP.seq (WP.reg ?_)))))
 refine qM (vi 3) rfl rfl (qA (vi 3) rfl rfl ?_)
 refine WL.nil (thn_n (WP.reg ?_))
 refine qM (.slice a_52 4 c_53) rfl rfl (qM (vi 3) rfl rfl (qV rfl (R.fieldAddr (off' := 1) rfl underlying57 rfl sizeOf55 rfl rfl) (qV rfl (R.indexA (b := b_1) (off := 1) (off' := 4) (i := 3) rfl rfl rfl (by decide) underlying55 sizeOf27 rfl) (qV rfl (R.loadE (b := b_1) (off := 4) (i := 3) (v := (vu64 (rg.getD 3 0))) rfl isAgg27 (h_55.ok _ M9) (Sg.t rfl Sg.h) rfl (get_u64 (lt_len (K := 8) hrg (by decide)))) ?_))))
 refine WL.call Tryz.call129 rfl rfl (c_pword (rg.getD 3 0) _) rfl ?_
 rintro _ w_58 ⟨a_56, cap_57, rfl, hc_59, ho_60⟩
 have h_61 := h_55.gotRow hc_59 ho_60
 refine WL.buildSl (vs := [(0, (.slice a_56 8 cap_57))]) (cs := [(.slice a_56 8 cap_57)]) h_61 underlying128 sizeOf88 (zv typeInfo88 rfl) rfl rfl (by kernel_rfl) rfl (by simp [Value.oneCell']) rfl rfl (fun b_62 w_63 h_64 => ?_)
 refine WL.append (km := 5) (xs := [(.slice a_7 8 cap_8), (.slice a_16 8 cap_17), (.slice a_30 8 cap_31), (.slice a_43 8 cap_44)]) (ys := [(.slice a_56 8 cap_57)]) (zs := [(.slice a_7 8 cap_8), (.slice a_16 8 cap_17), (.slice a_30 8 cap_31), (.slice a_43 8 cap_44), (.slice a_56 8 cap_57)]) h_64 rfl rfl el128 (viewB (h_64.ok _ M0) Sg.h) rfl (by simp [Value.oneCell']) rfl rfl (by omega) (by omega) (fun _ _ => Y8) rfl (fun a_65 c_66 w_67 h_68 => ?_)
 refine qA (.slice a_65 5 c_66) rfl rfl ?_
 refine WL.nil (inb_n (thn_n (WP.reg ?_)))
 refine qV rfl (R.bin rfl rfl (bi_add (c := 4) (by omega) (by omega))) (qM (vi 4) rfl rfl ?_)
 refine WL.nil (thn_n ?_)
 refine WI.round ?_
 refine WP.seq (WP.reg ?_)
 refine qV rfl (R.bin rfl rfl (bi_lss (r := true) (by decide))) ?_
 refine WL.nil (thn_n (WP.seq ?_))
 refine WP.condT rfl ?_
 refine WP.skip (thn_n (WP.seq (WP.block (WP.seq (WP.reg ?_)))))
 refine qM (vi 4) rfl rfl (qA (vi 4) rfl rfl ?_)
 refine WL.nil (thn_n (WP.reg ?_))
 refine qM (.slice a_65 5 c_66) rfl rfl (qM (vi 4) rfl rfl (qV rfl (R.fieldAddr (off' := 1) rfl underlying57 rfl sizeOf55 rfl rfl) (qV rfl (R.indexA (b := b_1) (off := 1) (off' := 5) (i := 4) rfl rfl rfl (by decide) underlying55 sizeOf27 rfl) (qV rfl (R.loadE (b := b_1) (off := 5) (i := 4) (v := (vu64 (rg.getD 4 0))) rfl isAgg27 (h_68.ok _ M11) (Sg.t rfl Sg.h) rfl (get_u64 (lt_len (K := 8) hrg (by decide)))) ?_))))
 refine WL.call Tryz.call129 rfl rfl (c_pword (rg.getD 4 0) _) rfl ?_
 rintro _ w_71 ⟨a_69, cap_70, rfl, hc_72, ho_73⟩
 have h_74 := h_68.gotRow hc_72 ho_73
 refine WL.buildSl (vs := [(0, (.slice a_69 8 cap_70))]) (cs := [(.slice a_69 8 cap_70)]) h_74 underlying128 sizeOf88 (zv typeInfo88 rfl) rfl rfl (by kernel_rfl) rfl (by simp [Value.oneCell']) rfl rfl (fun b_75 w_76 h_77 => ?_)
 refine WL.append (km := 6) (xs := [(.slice a_7 8 cap_8), (.slice a_16 8 cap_17), (.slice a_30 8 cap_31), (.slice a_43 8 cap_44), (.slice a_56 8 cap_57)]) (ys := [(.slice a_69 8 cap_70)]) (zs := [(.slice a_7 8 cap_8), (.slice a_16 8 cap_17), (.slice a_30 8 cap_31), (.slice a_43 8 cap_44), (.slice a_56 8 cap_57), (.slice a_69 8 cap_70)]) h_77 rfl rfl el128 (viewB (h_77.ok _ M0) Sg.h) rfl (by simp [Value.oneCell']) rfl rfl (by omega) (by omega) (fun _ _ => Y10) rfl (fun a_78 c_79 w_80 h_81 => ?_)
 refine qA (.slice a_78 6 c_79) rfl rfl ?_
 refine WL.nil (inb_n (thn_n (WP.reg ?_)))
 refine qV rfl (R.bin rfl rfl (bi_add (c := 5) (by omega) (by omega))) (qM (vi 5) rfl rfl ?_)
 refine WL.nil (thn_n ?_)
 refine WI.round ?_
 refine WP.seq (WP.reg ?_)
 refine qV rfl (R.bin rfl rfl (bi_lss (r := true) (by decide))) ?_
 refine WL.nil (thn_n (WP.seq ?_))
 refine WP.condT rfl ?_
 refine WP.skip (thn_n (WP.seq (WP.block (WP.seq (WP.reg ?_)))))
 refine qM (vi 5) rfl rfl (qA (vi 5) rfl rfl ?_)
 refine WL.nil (thn_n (WP.reg ?_))
 refine qM (.slice a_78 6 c_79) rfl rfl (qM (vi 5) rfl rfl (qV rfl (R.fieldAddr (off' := 1) rfl underlying57 rfl sizeOf55 rfl rfl) (qV rfl (R.indexA (b := b_1) (off := 1) (off' := 6) (i := 5) rfl rfl rfl (by decide) underlying55 sizeOf27 rfl) (qV rfl (R.loadE (b := b_1) (off := 6) (i := 5) (v := (vu64 (rg.getD 5 0))) rfl isAgg27 (h_81.ok _ M13) (Sg.t rfl Sg.h) rfl (get_u64 (lt_len (K := 8) hrg (by decide)))) ?_))))
 refine WL.call Tryz.call129 rfl rfl (c_pword (rg.getD 5 0) _) rfl ?_
 rintro _ w_84 ⟨a_82, cap_83, rfl, hc_85, ho_86⟩
 have h_87 := h_81.gotRow hc_85 ho_86
 refine WL.buildSl (vs := [(0, (.slice a_82 8 cap_83))]) (cs := [(.slice a_82 8 cap_83)]) h_87 underlying128 sizeOf88 (zv typeInfo88 rfl) rfl rfl (by kernel_rfl) rfl (by simp [Value.oneCell']) rfl rfl (fun b_88 w_89 h_90 => ?_)
 refine WL.append (km := 7) (xs := [(.slice a_7 8 cap_8), (.slice a_16 8 cap_17), (.slice a_30 8 cap_31), (.slice a_43 8 cap_44), (.slice a_56 8 cap_57), (.slice a_69 8 cap_70)]) (ys := [(.slice a_82 8 cap_83)]) (zs := [(.slice a_7 8 cap_8), (.slice a_16 8 cap_17), (.slice a_30 8 cap_31), (.slice a_43 8 cap_44), (.slice a_56 8 cap_57), (.slice a_69 8 cap_70), (.slice a_82 8 cap_83)]) h_90 rfl rfl el128 (viewB (h_90.ok _ M0) Sg.h) rfl (by simp [Value.oneCell']) rfl rfl (by omega) (by omega) (fun _ _ => Y12) rfl (fun a_91 c_92 w_93 h_94 => ?_)
 refine qA (.slice a_91 7 c_92) rfl rfl ?_
 refine WL.nil (inb_n (thn_n (WP.reg ?_)))
 refine qV rfl (R.bin rfl rfl (bi_add (c := 6) (by omega) (by omega))) (qM (vi 6) rfl rfl ?_)
 refine WL.nil (thn_n ?_)
 refine WI.round ?_
 refine WP.seq (WP.reg ?_)
 refine qV rfl (R.bin rfl rfl (bi_lss (r := true) (by decide))) ?_
 refine WL.nil (thn_n (WP.seq ?_))
 refine WP.condT rfl ?_
 refine WP.skip (thn_n (WP.seq (WP.block (WP.seq (WP.reg ?_)))))
 refine qM (vi 6) rfl rfl (qA (vi 6) rfl rfl ?_)
 refine WL.nil (thn_n (WP.reg ?_))
 refine qM (.slice a_91 7 c_92) rfl rfl (qM (vi 6) rfl rfl (qV rfl (R.fieldAddr (off' := 1) rfl underlying57 rfl sizeOf55 rfl rfl) (qV rfl (R.indexA (b := b_1) (off := 1) (off' := 7) (i := 6) rfl rfl rfl (by decide) underlying55 sizeOf27 rfl) (qV rfl (R.loadE (b := b_1) (off := 7) (i := 6) (v := (vu64 (rg.getD 6 0))) rfl isAgg27 (h_94.ok _ M15) (Sg.t rfl Sg.h) rfl (get_u64 (lt_len (K := 8) hrg (by decide)))) ?_))))
 refine WL.call Tryz.call129 rfl rfl (c_pword (rg.getD 6 0) _) rfl ?_
 rintro _ w_97 ⟨a_95, cap_96, rfl, hc_98, ho_99⟩
 have h_100 := h_94.gotRow hc_98 ho_99
 refine WL.buildSl (vs := [(0, (.slice a_95 8 cap_96))]) (cs := [(.slice a_95 8 cap_96)]) h_100 underlying128 sizeOf88 (zv typeInfo88 rfl) rfl rfl (by kernel_rfl) rfl (by simp [Value.oneCell']) rfl rfl (fun b_101 w_102 h_103 => ?_)
 refine WL.append (km := 8) (xs := [(.slice a_7 8 cap_8), (.slice a_16 8 cap_17), (.slice a_30 8 cap_31), (.slice a_43 8 cap_44), (.slice a_56 8 cap_57), (.slice a_69 8 cap_70), (.slice a_82 8 cap_83)]) (ys := [(.slice a_95 8 cap_96)]) (zs := [(.slice a_7 8 cap_8), (.slice a_16 8 cap_17), (.slice a_30 8 cap_31), (.slice a_43 8 cap_44), (.slice a_56 8 cap_57), (.slice a_69 8 cap_70), (.slice a_82 8 cap_83), (.slice a_95 8 cap_96)]) h_103 rfl rfl el128 (viewB (h_103.ok _ M0) Sg.h) rfl (by simp [Value.oneCell']) rfl rfl (by omega) (by omega) (fun _ _ => Y14) rfl (fun a_104 c_105 w_106 h_107 => ?_)
 refine qA (.slice a_104 8 c_105) rfl rfl ?_
 refine WL.nil (inb_n (thn_n (WP.reg ?_)))
 refine qV rfl (R.bin rfl rfl (bi_add (c := 7) (by omega) (by omega))) (qM (vi 7) rfl rfl ?_)
 refine WL.nil (thn_n ?_)
 refine WI.round ?_
 refine WP.seq (WP.reg ?_)
 refine qV rfl (R.bin rfl rfl (bi_lss (r := true) (by decide))) ?_
 refine WL.nil (thn_n (WP.seq ?_))
 refine WP.condT rfl ?_
 refine WP.skip (thn_n (WP.seq (WP.block (WP.seq (WP.reg ?_)))))
 refine qM (vi 7) rfl rfl (qA (vi 7) rfl rfl ?_)
 refine WL.nil (thn_n (WP.reg ?_))
 refine qM (.slice a_104 8 c_105) rfl rfl (qM (vi 7) rfl rfl (qV rfl (R.fieldAddr (off' := 1) rfl underlying57 rfl sizeOf55 rfl rfl) (qV rfl (R.indexA (b := b_1) (off := 1) (off' := 8) (i := 7) rfl rfl rfl (by decide) underlying55 sizeOf27 rfl) (qV rfl (R.loadE (b := b_1) (off := 8) (i := 7) (v := (vu64 (rg.getD 7 0))) rfl isAgg27 (h_107.ok _ M17) (Sg.t rfl Sg.h) rfl (get_u64 (lt_len (K := 8) hrg (by decide)))) ?_))))
 refine WL.call Tryz.call129 rfl rfl (c_pword (rg.getD 7 0) _) rfl ?_
 rintro _ w_110 ⟨a_108, cap_109, rfl, hc_111, ho_112⟩
 have h_113 := h_107.gotRow hc_111 ho_112
 refine WL.buildSl (vs := [(0, (.slice a_108 8 cap_109))]) (cs := [(.slice a_108 8 cap_109)]) h_113 underlying128 sizeOf88 (zv typeInfo88 rfl) rfl rfl (by kernel_rfl) rfl (by simp [Value.oneCell']) rfl rfl (fun b_114 w_115 h_116 => ?_)
 refine WL.append (km := 9) (xs := [(.slice a_7 8 cap_8), (.slice a_16 8 cap_17), (.slice a_30 8 cap_31), (.slice a_43 8 cap_44), (.slice a_56 8 cap_57), (.slice a_69 8 cap_70), (.slice a_82 8 cap_83), (.slice a_95 8 cap_96)]) (ys := [(.slice a_108 8 cap_109)]) (zs := [(.slice a_7 8 cap_8), (.slice a_16 8 cap_17), (.slice a_30 8 cap_31), (.slice a_43 8 cap_44), (.slice a_56 8 cap_57), (.slice a_69 8 cap_70), (.slice a_82 8 cap_83), (.slice a_95 8 cap_96), (.slice a_108 8 cap_109)]) h_116 rfl rfl el128 (viewB (h_116.ok _ M0) Sg.h) rfl (by simp [Value.oneCell']) rfl rfl (by omega) (by omega) (fun _ _ => (At.t (At.t (At.t (At.t (At.t (At.t (At.t (At.t (At.t (At.t (At.t (At.t (At.t (At.t (At.t (At.t At.h))))))))))))))))) rfl (fun a_117 c_118 w_119 h_120 => ?_)
 refine qA (.slice a_117 9 c_118) rfl rfl ?_
 refine WL.nil (inb_n (thn_n (WP.reg ?_)))
 refine qV rfl (R.bin rfl rfl (bi_add (c := 8) (by omega) (by omega))) (qM (vi 8) rfl rfl ?_)
 refine WL.nil (thn_n ?_)
 refine WI.round ?_
 refine WP.seq (WP.reg ?_)
 refine qV rfl (R.bin rfl rfl (bi_lss (r := false) (by decide))) ?_
 refine WL.nil (thn_n (WP.seq ?_))
 refine WP.condF rfl ?_
 refine WP.exit (thn_x (thn_x (inb_hit (thn_n (WP.seq (WP.seq (WP.reg ?_)))))))
 refine qV rfl (R.fieldAddr (off' := 9) rfl underlying57 rfl sizeOf4 rfl rfl) (qV rfl (R.load1 rfl isAgg4 (h_120.ok _ M19) (Sg.t rfl (Sg.t rfl Sg.h))) ?_)
 refine WL.nil (thn_n ?_)
 refine WP.cond (b := run) rfl (fun c_121 => ?_) (fun c_121 => ?_)
 ·refine WP.reg ?_
  refine qM (.slice a_117 9 c_118) rfl rfl ?_
  refine WL.buildSl (vs := [(0, (vu8 1))]) (cs := ([1] : List UInt8).map vu8) h_120 underlying88 sizeOf5 (zv typeInfo5 rfl) rfl rfl (by kernel_rfl) rfl (one_u8 _) rfl rfl (fun b_122 w_123 h_124 => ?_)
  refine WL.buildSl (vs := [(0, (.slice (some ⟨b_122, 0, none⟩) 1 1))]) (cs := [(.slice (some ⟨b_122, 0, none⟩) 1 1)]) h_124 underlying128 sizeOf88 (zv typeInfo88 rfl) rfl rfl (by kernel_rfl) rfl (by simp [Value.oneCell']) rfl rfl (fun b_125 w_126 h_127 => ?_)
  refine WL.append (km := 10) (xs := [(.slice a_7 8 cap_8), (.slice a_16 8 cap_17), (.slice a_30 8 cap_31), (.slice a_43 8 cap_44), (.slice a_56 8 cap_57), (.slice a_69 8 cap_70), (.slice a_82 8 cap_83), (.slice a_95 8 cap_96), (.slice a_108 8 cap_109)]) (ys := [(.slice (some ⟨b_122, 0, none⟩) 1 1)]) (zs := [(.slice a_7 8 cap_8), (.slice a_16 8 cap_17), (.slice a_30 8 cap_31), (.slice a_43 8 cap_44), (.slice a_56 8 cap_57), (.slice a_69 8 cap_70), (.slice a_82 8 cap_83), (.slice a_95 8 cap_96), (.slice a_108 8 cap_109), (.slice (some ⟨b_122, 0, none⟩) 1 1)]) h_127 rfl rfl el128 (viewB (h_127.ok _ M0) Sg.h) rfl (by simp [Value.oneCell']) rfl rfl (by omega) (by omega) (fun _ _ => (At.t (At.t (At.t (At.t (At.t (At.t (At.t (At.t (At.t (At.t (At.t (At.t (At.t (At.t (At.t (At.t (At.t (At.t At.h))))))))))))))))))) rfl (fun a_128 c_129 w_130 h_131 => ?_)
  refine qA (.slice a_128 10 c_129) rfl rfl ?_
  refine WL.nil (thn_n (WP.seq (WP.reg ?_)))
  refine qM (.slice a_128 10 c_129) rfl rfl ?_
  refine WL.call Tryz.call130 rfl rfl (c_gran 3 ([114, 101, 99] : List UInt8) rfl (by decide) a_128 10 c_129 [(.slice a_7 8 cap_8), (.slice a_16 8 cap_17), (.slice a_30 8 cap_31), (.slice a_43 8 cap_44), (.slice a_56 8 cap_57), (.slice a_69 8 cap_70), (.slice a_82 8 cap_83), (.slice a_95 8 cap_96), (.slice a_108 8 cap_109), (.slice (some ⟨b_122, 0, none⟩) 1 1)] [leN 8 pc.toNat, leN 8 (rg.getD 0 0).toNat, leN 8 (rg.getD 1 0).toNat, leN 8 (rg.getD 2 0).toNat, leN 8 (rg.getD 3 0).toNat, leN 8 (rg.getD 4 0).toNat, leN 8 (rg.getD 5 0).toNat, leN 8 (rg.getD 6 0).toNat, leN 8 (rg.getD 7 0).toNat, ([1] : List UInt8)] rfl (by simp [leN_len]) (by omega) _ (ownView (h_131.ok _ M18)) (Sls.cons (leN_len ..) (h_131.own M19).2.2.1 (ownView (h_131.ok _ M19)) (Sls.cons (leN_len ..) (h_131.own M17).2.2.1 (ownView (h_131.ok _ M17)) (Sls.cons (leN_len ..) (h_131.own M15).2.2.1 (ownView (h_131.ok _ M15)) (Sls.cons (leN_len ..) (h_131.own M13).2.2.1 (ownView (h_131.ok _ M13)) (Sls.cons (leN_len ..) (h_131.own M11).2.2.1 (ownView (h_131.ok _ M11)) (Sls.cons (leN_len ..) (h_131.own M9).2.2.1 (ownView (h_131.ok _ M9)) (Sls.cons (leN_len ..) (h_131.own M7).2.2.1 (ownView (h_131.ok _ M7)) (Sls.cons (leN_len ..) (h_131.own M5).2.2.1 (ownView (h_131.ok _ M5)) (Sls.cons (leN_len ..) (h_131.own M3).2.2.1 (ownView (h_131.ok _ M3)) (Sls.cons (rfl : List.length ([1] : List UInt8) = 1) (by decide) (viewB (h_131.ok _ M1) Sg.h) Sls.nil))))))))))) rfl ?_
  rintro _ w_133 ⟨rfl, hc_132⟩
  have h_134 := h_131.same hc_132
  refine WL.storeA [] [(128, (zB 128).map vu8)] [(128, (ovr (ovr (zB 128) 0 ([114, 101, 99] : List UInt8)) 8 ([leN 8 pc.toNat, leN 8 (rg.getD 0 0).toNat, leN 8 (rg.getD 1 0).toNat, leN 8 (rg.getD 2 0).toNat, leN 8 (rg.getD 3 0).toNat, leN 8 (rg.getD 4 0).toNat, leN 8 (rg.getD 5 0).toNat, leN 8 (rg.getD 6 0).toNat, leN 8 (rg.getD 7 0).toNat, ([1] : List UInt8)]).flatten).map vu8)] [] h_134 rfl rfl sizeOf29 (At.t (At.t (At.t (At.t (At.t (At.t (At.t (At.t (At.t (At.t (At.t (At.t (At.t (At.t (At.t (At.t (At.t (At.t (At.t (At.t At.h)))))))))))))))))))) (by decide) rfl rfl rfl rfl rfl rfl (sC (s8 (ovr_len (ovr_len lr (by decide)) (by have hz : ([leN 8 pc.toNat, leN 8 (rg.getD 0 0).toNat, leN 8 (rg.getD 1 0).toNat, leN 8 (rg.getD 2 0).toNat, leN 8 (rg.getD 3 0).toNat, leN 8 (rg.getD 4 0).toNat, leN 8 (rg.getD 5 0).toNat, leN 8 (rg.getD 6 0).toNat, leN 8 (rg.getD 7 0).toNat, ([1] : List UInt8)]).flatten.length ≤ 119 := (by simp [leN_len]); omega))) sN) (fun w_135 h_136 => ?_)
  refine WL.nil (thn_n (WP.ret ?_))
  refine ret_of results106 (RV.cell rfl (h_136.loadA (cs := (ovr (ovr (zB 128) 0 ([114, 101, 99] : List UInt8)) 8 ([leN 8 pc.toNat, leN 8 (rg.getD 0 0).toNat, leN 8 (rg.getD 1 0).toNat, leN 8 (rg.getD 2 0).toNat, leN 8 (rg.getD 3 0).toNat, leN 8 (rg.getD 4 0).toNat, leN 8 (rg.getD 5 0).toNat, leN 8 (rg.getD 6 0).toNat, leN 8 (rg.getD 7 0).toNat, ([1] : List UInt8)]).flatten).map vu8) isAgg29 sizeOf29 M20 rfl rfl) RV.nil) ?_
  exact ⟨by rw [← rec_eq, recP, recL, c_121]; rfl, h_136.chgS⟩
 ·refine WP.skip (thn_n (WP.seq (WP.reg ?_)))
  refine qM (.slice a_117 9 c_118) rfl rfl ?_
  refine WL.call Tryz.call130 rfl rfl (c_gran 3 ([114, 101, 99] : List UInt8) rfl (by decide) a_117 9 c_118 [(.slice a_7 8 cap_8), (.slice a_16 8 cap_17), (.slice a_30 8 cap_31), (.slice a_43 8 cap_44), (.slice a_56 8 cap_57), (.slice a_69 8 cap_70), (.slice a_82 8 cap_83), (.slice a_95 8 cap_96), (.slice a_108 8 cap_109)] [leN 8 pc.toNat, leN 8 (rg.getD 0 0).toNat, leN 8 (rg.getD 1 0).toNat, leN 8 (rg.getD 2 0).toNat, leN 8 (rg.getD 3 0).toNat, leN 8 (rg.getD 4 0).toNat, leN 8 (rg.getD 5 0).toNat, leN 8 (rg.getD 6 0).toNat, leN 8 (rg.getD 7 0).toNat] rfl (by simp [leN_len]) (by omega) _ (ownView (h_120.ok _ M16)) (Sls.cons (leN_len ..) (h_120.own M17).2.2.1 (ownView (h_120.ok _ M17)) (Sls.cons (leN_len ..) (h_120.own M15).2.2.1 (ownView (h_120.ok _ M15)) (Sls.cons (leN_len ..) (h_120.own M13).2.2.1 (ownView (h_120.ok _ M13)) (Sls.cons (leN_len ..) (h_120.own M11).2.2.1 (ownView (h_120.ok _ M11)) (Sls.cons (leN_len ..) (h_120.own M9).2.2.1 (ownView (h_120.ok _ M9)) (Sls.cons (leN_len ..) (h_120.own M7).2.2.1 (ownView (h_120.ok _ M7)) (Sls.cons (leN_len ..) (h_120.own M5).2.2.1 (ownView (h_120.ok _ M5)) (Sls.cons (leN_len ..) (h_120.own M3).2.2.1 (ownView (h_120.ok _ M3)) (Sls.cons (leN_len ..) (h_120.own M1).2.2.1 (ownView (h_120.ok _ M1)) Sls.nil)))))))))) rfl ?_
  rintro _ w_138 ⟨rfl, hc_137⟩
  have h_139 := h_120.same hc_137
  refine WL.storeA [] [(128, (zB 128).map vu8)] [(128, (ovr (ovr (zB 128) 0 ([114, 101, 99] : List UInt8)) 8 ([leN 8 pc.toNat, leN 8 (rg.getD 0 0).toNat, leN 8 (rg.getD 1 0).toNat, leN 8 (rg.getD 2 0).toNat, leN 8 (rg.getD 3 0).toNat, leN 8 (rg.getD 4 0).toNat, leN 8 (rg.getD 5 0).toNat, leN 8 (rg.getD 6 0).toNat, leN 8 (rg.getD 7 0).toNat]).flatten).map vu8)] [] h_139 rfl rfl sizeOf29 (At.t (At.t (At.t (At.t (At.t (At.t (At.t (At.t (At.t (At.t (At.t (At.t (At.t (At.t (At.t (At.t (At.t (At.t At.h)))))))))))))))))) (by decide) rfl rfl rfl rfl rfl rfl (sC (s8 (ovr_len (ovr_len lr (by decide)) (by have hz : ([leN 8 pc.toNat, leN 8 (rg.getD 0 0).toNat, leN 8 (rg.getD 1 0).toNat, leN 8 (rg.getD 2 0).toNat, leN 8 (rg.getD 3 0).toNat, leN 8 (rg.getD 4 0).toNat, leN 8 (rg.getD 5 0).toNat, leN 8 (rg.getD 6 0).toNat, leN 8 (rg.getD 7 0).toNat]).flatten.length ≤ 119 := (by simp [leN_len]); omega))) sN) (fun w_140 h_141 => ?_)
  refine WL.nil (thn_n (WP.ret ?_))
  refine ret_of results106 (RV.cell rfl (h_141.loadA (cs := (ovr (ovr (zB 128) 0 ([114, 101, 99] : List UInt8)) 8 ([leN 8 pc.toNat, leN 8 (rg.getD 0 0).toNat, leN 8 (rg.getD 1 0).toNat, leN 8 (rg.getD 2 0).toNat, leN 8 (rg.getD 3 0).toNat, leN 8 (rg.getD 4 0).toNat, leN 8 (rg.getD 5 0).toNat, leN 8 (rg.getD 6 0).toNat, leN 8 (rg.getD 7 0).toNat]).flatten).map vu8) isAgg29 sizeOf29 M18 rfl rfl) RV.nil) ?_
  exact ⟨by rw [← rec_eq, recP, recL, c_121]; rfl, h_141.chgS⟩

theorem c_RecBytesR (pc : UInt64) (rg : List UInt64) (hrg : rg.length = 8) (run : Bool) (w : World) :
  Cs Tryz.prog 76 [(.agg ⟨flat [(1, [(vu64 pc)]), (8, rg.map vu64), (1, [(.bool run)])]⟩)].toArray w (fun v w1 => v = .agg ⟨(recB pc rg run).map vu8⟩ ∧ Chg w w1 []) := by
 refine Cs.of (n := 30) (args := [(.agg ⟨flat [(1, [(vu64 pc)]), (8, rg.map vu64), (1, [(.bool run)])]⟩)]) Tryz.func76 rfl rfl rfl ?_
 have h_0 := HP.init w
 refine WP.seq (WP.reg ?_)
 refine WL.box (segs := [(1, [(vu64 pc)]), (8, rg.map vu64), (1, [(.bool run)])]) h_0 rfl rfl (sC sV (sC (SOk.u64 hrg) (sC sV sN))) rfl (fun b_1 w_2 h_3 => ?_)
 refine WL.alloc (segs := [(128, (zB 128).map vu8)]) h_3 (zv typeInfo29 rfl) rfl (sC (s8 lr) sN) rfl (fun b_4 w_5 h_6 => ?_)
 refine WL.nil (thn_n (WP.seq (WP.reg ?_)))
 refine qA (.slice none 0 0) rfl rfl ?_
 refine WL.nil (thn_n (WP.seq (WP.seq (WP.reg ?_))))
 refine qA (vi 0) rfl rfl ?_
 refine WL.nil (thn_n (WP.block ?_))
 refine WP.loopU (WI.round ?_)
 refine WP.seq (WP.seq (WP.reg ?_))
 refine qM (vi 0) rfl rfl (qV rfl (R.bin rfl rfl (bi_lss (r := true) (by decide))) ?_)
 refine WL.nil (thn_n ?_)
 refine WP.condT rfl ?_
 refine WP.skip (thn_n (WP.seq (WP.block (WP.reg ?_))))
 refine qM (.slice none 0 0) rfl rfl (qM (vi 0) rfl rfl (qV rfl (R.fieldAddr (off' := 1) rfl underlying57 rfl sizeOf55 rfl rfl) (qV rfl (R.indexA (b := b_1) (off := 1) (off' := 1) (i := 0) rfl rfl rfl (by decide) underlying55 sizeOf27 rfl) (qV rfl (R.loadE (b := b_1) (off := 1) (i := 0) (v := (vu64 (rg.getD 0 0))) rfl isAgg27 (h_6.ok _ M1) (Sg.t rfl Sg.h) rfl (get_u64 (lt_len (K := 8) hrg (by decide)))) ?_))))
 refine WL.call Tryz.call107 rfl rfl (c_rword10 (rg.getD 0 0) _) rfl ?_
 rintro _ w_9 ⟨a_7, cap_8, rfl, hc_10, ho_11⟩
 have h_12 := h_6.gotRow hc_10 ho_11
 have h_13 := h_12.rowNil 5 1
 refine WL.append (km := 8) (xs := []) (ys := (leN 8 (rg.getD 0 0).toNat).map vu8) (zs := (([] : List UInt8) ++ (leN 8 (rg.getD 0 0).toNat)).map vu8) h_13 rfl rfl el88 (ownView (h_13.ok _ M1)) ((len_map (leN_len ..)).trans (Nat.mul_one _).symm) (one_u8 _) (by simp only [List.map_append, List.map_nil]) rfl (by omega) (by omega) (fun _ _ => At.h) rfl (fun a_14 c_15 w_16 h_17 => ?_)
 refine qA (.slice a_14 8 c_15) rfl rfl ?_
 refine WL.nil (inb_n (thn_n (WP.reg ?_)))
 refine qM (vi 0) rfl rfl (qV rfl (R.bin rfl rfl (bi_add (c := 1) (by omega) (by omega))) (qA (vi 1) rfl rfl ?_))
 refine WL.nil (thn_n ?_)
 refine WI.round ?_
 refine WP.seq (WP.seq (WP.reg ?_))
 refine qM (vi 1) rfl rfl (qV rfl (R.bin rfl rfl (bi_lss (r := true) (by decide))) ?_)
 refine WL.nil (thn_n ?_)
 refine WP.condT rfl ?_
 refine WP.skip (thn_n (WP.seq (WP.block (WP.reg ?_))))
 refine qM (.slice a_14 8 c_15) rfl rfl (qM (vi 1) rfl rfl (qV rfl (R.fieldAddr (off' := 1) rfl underlying57 rfl sizeOf55 rfl rfl) (qV rfl (R.indexA (b := b_1) (off := 1) (off' := 2) (i := 1) rfl rfl rfl (by decide) underlying55 sizeOf27 rfl) (qV rfl (R.loadE (b := b_1) (off := 2) (i := 1) (v := (vu64 (rg.getD 1 0))) rfl isAgg27 (h_17.ok _ M3) (Sg.t rfl Sg.h) rfl (get_u64 (lt_len (K := 8) hrg (by decide)))) ?_))))
 refine WL.call Tryz.call107 rfl rfl (c_rword10 (rg.getD 1 0) _) rfl ?_
 rintro _ w_20 ⟨a_18, cap_19, rfl, hc_21, ho_22⟩
 have h_23 := h_17.gotRow hc_21 ho_22
 refine WL.append (km := 16) (xs := (([] : List UInt8) ++ (leN 8 (rg.getD 0 0).toNat)).map vu8) (ys := (leN 8 (rg.getD 1 0).toNat).map vu8) (zs := ((([] : List UInt8) ++ (leN 8 (rg.getD 0 0).toNat)) ++ (leN 8 (rg.getD 1 0).toNat)).map vu8) h_23 rfl rfl el88 (ownView (h_23.ok _ M0)) ((len_map (leN_len ..)).trans (Nat.mul_one _).symm) (one_u8 _) (by simp only [List.map_append, List.map_nil]) rfl (by omega) (by omega) (fun _ _ => Y1) rfl (fun a_24 c_25 w_26 h_27 => ?_)
 refine qA (.slice a_24 16 c_25) rfl rfl ?_
 refine WL.nil (inb_n (thn_n (WP.reg ?_)))
 refine qM (vi 1) rfl rfl (qV rfl (R.bin rfl rfl (bi_add (c := 2) (by omega) (by omega))) (qA (vi 2) rfl rfl ?_))
 refine WL.nil (thn_n ?_)
 refine WI.round ?_
 refine WP.seq (WP.seq (WP.reg ?_))
 refine qM (vi 2) rfl rfl (qV rfl (R.bin rfl rfl (bi_lss (r := true) (by decide))) ?_)
 refine WL.nil (thn_n ?_)
 refine WP.condT rfl ?_
 refine WP.skip (thn_n (WP.seq (WP.block (WP.reg ?_))))
 refine qM (.slice a_24 16 c_25) rfl rfl (qM (vi 2) rfl rfl (qV rfl (R.fieldAddr (off' := 1) rfl underlying57 rfl sizeOf55 rfl rfl) (qV rfl (R.indexA (b := b_1) (off := 1) (off' := 3) (i := 2) rfl rfl rfl (by decide) underlying55 sizeOf27 rfl) (qV rfl (R.loadE (b := b_1) (off := 3) (i := 2) (v := (vu64 (rg.getD 2 0))) rfl isAgg27 (h_27.ok _ M4) (Sg.t rfl Sg.h) rfl (get_u64 (lt_len (K := 8) hrg (by decide)))) ?_))))
 refine WL.call Tryz.call107 rfl rfl (c_rword10 (rg.getD 2 0) _) rfl ?_
 rintro _ w_30 ⟨a_28, cap_29, rfl, hc_31, ho_32⟩
 have h_33 := h_27.gotRow hc_31 ho_32
 refine WL.append (km := 24) (xs := ((([] : List UInt8) ++ (leN 8 (rg.getD 0 0).toNat)) ++ (leN 8 (rg.getD 1 0).toNat)).map vu8) (ys := (leN 8 (rg.getD 2 0).toNat).map vu8) (zs := (((([] : List UInt8) ++ (leN 8 (rg.getD 0 0).toNat)) ++ (leN 8 (rg.getD 1 0).toNat)) ++ (leN 8 (rg.getD 2 0).toNat)).map vu8) h_33 rfl rfl el88 (ownView (h_33.ok _ M0)) ((len_map (leN_len ..)).trans (Nat.mul_one _).symm) (one_u8 _) (by simp only [List.map_append, List.map_nil]) rfl (by omega) (by omega) (fun _ _ => Y2) rfl (fun a_34 c_35 w_36 h_37 => ?_)
 refine qA (.slice a_34 24 c_35) rfl rfl ?_
 refine WL.nil (inb_n (thn_n (WP.reg ?_)))
 refine qM (vi 2) rfl rfl (qV rfl (R.bin rfl rfl (bi_add (c := 3) (by omega) (by omega))) (qA (vi 3) rfl rfl ?_))
 refine WL.nil (thn_n ?_)
 refine WI.round ?_
 refine WP.seq (WP.seq (WP.reg ?_))
 refine qM (vi 3) rfl rfl (qV rfl (R.bin rfl rfl (bi_lss (r := true) (by decide))) ?_)
 refine WL.nil (thn_n ?_)
 refine WP.condT rfl ?_
 refine WP.skip (thn_n (WP.seq (WP.block (WP.reg ?_))))
 refine qM (.slice a_34 24 c_35) rfl rfl (qM (vi 3) rfl rfl (qV rfl (R.fieldAddr (off' := 1) rfl underlying57 rfl sizeOf55 rfl rfl) (qV rfl (R.indexA (b := b_1) (off := 1) (off' := 4) (i := 3) rfl rfl rfl (by decide) underlying55 sizeOf27 rfl) (qV rfl (R.loadE (b := b_1) (off := 4) (i := 3) (v := (vu64 (rg.getD 3 0))) rfl isAgg27 (h_37.ok _ M5) (Sg.t rfl Sg.h) rfl (get_u64 (lt_len (K := 8) hrg (by decide)))) ?_))))
 refine WL.call Tryz.call107 rfl rfl (c_rword10 (rg.getD 3 0) _) rfl ?_
 rintro _ w_40 ⟨a_38, cap_39, rfl, hc_41, ho_42⟩
 have h_43 := h_37.gotRow hc_41 ho_42
 refine WL.append (km := 32) (xs := (((([] : List UInt8) ++ (leN 8 (rg.getD 0 0).toNat)) ++ (leN 8 (rg.getD 1 0).toNat)) ++ (leN 8 (rg.getD 2 0).toNat)).map vu8) (ys := (leN 8 (rg.getD 3 0).toNat).map vu8) (zs := ((((([] : List UInt8) ++ (leN 8 (rg.getD 0 0).toNat)) ++ (leN 8 (rg.getD 1 0).toNat)) ++ (leN 8 (rg.getD 2 0).toNat)) ++ (leN 8 (rg.getD 3 0).toNat)).map vu8) h_43 rfl rfl el88 (ownView (h_43.ok _ M0)) ((len_map (leN_len ..)).trans (Nat.mul_one _).symm) (one_u8 _) (by simp only [List.map_append, List.map_nil]) rfl (by omega) (by omega) (fun _ _ => Y3) rfl (fun a_44 c_45 w_46 h_47 => ?_)
 refine qA (.slice a_44 32 c_45) rfl rfl ?_
 refine WL.nil (inb_n (thn_n (WP.reg ?_)))
 refine qM (vi 3) rfl rfl (qV rfl (R.bin rfl rfl (bi_add (c := 4) (by omega) (by omega))) (qA (vi 4) rfl rfl ?_))
 refine WL.nil (thn_n ?_)
 refine WI.round ?_
 refine WP.seq (WP.seq (WP.reg ?_))
 refine qM (vi 4) rfl rfl (qV rfl (R.bin rfl rfl (bi_lss (r := true) (by decide))) ?_)
 refine WL.nil (thn_n ?_)
 refine WP.condT rfl ?_
 refine WP.skip (thn_n (WP.seq (WP.block (WP.reg ?_))))
 refine qM (.slice a_44 32 c_45) rfl rfl (qM (vi 4) rfl rfl (qV rfl (R.fieldAddr (off' := 1) rfl underlying57 rfl sizeOf55 rfl rfl) (qV rfl (R.indexA (b := b_1) (off := 1) (off' := 5) (i := 4) rfl rfl rfl (by decide) underlying55 sizeOf27 rfl) (qV rfl (R.loadE (b := b_1) (off := 5) (i := 4) (v := (vu64 (rg.getD 4 0))) rfl isAgg27 (h_47.ok _ M6) (Sg.t rfl Sg.h) rfl (get_u64 (lt_len (K := 8) hrg (by decide)))) ?_))))
 refine WL.call Tryz.call107 rfl rfl (c_rword10 (rg.getD 4 0) _) rfl ?_
 rintro _ w_50 ⟨a_48, cap_49, rfl, hc_51, ho_52⟩
 have h_53 := h_47.gotRow hc_51 ho_52
 refine WL.append (km := 40) (xs := ((((([] : List UInt8) ++ (leN 8 (rg.getD 0 0).toNat)) ++ (leN 8 (rg.getD 1 0).toNat)) ++ (leN 8 (rg.getD 2 0).toNat)) ++ (leN 8 (rg.getD 3 0).toNat)).map vu8) (ys := (leN 8 (rg.getD 4 0).toNat).map vu8) (zs := (((((([] : List UInt8) ++ (leN 8 (rg.getD 0 0).toNat)) ++ (leN 8 (rg.getD 1 0).toNat)) ++ (leN 8 (rg.getD 2 0).toNat)) ++ (leN 8 (rg.getD 3 0).toNat)) ++ (leN 8 (rg.getD 4 0).toNat)).map vu8) h_53 rfl rfl el88 (ownView (h_53.ok _ M0)) ((len_map (leN_len ..)).trans (Nat.mul_one _).symm) (one_u8 _) (by simp only [List.map_append, List.map_nil]) rfl (by omega) (by omega) (fun _ _ => Y4) rfl (fun a_54 c_55 w_56 h_57 => ?_)
 refine qA (.slice a_54 40 c_55) rfl rfl ?_
 refine WL.nil (inb_n (thn_n (WP.reg ?_)))
 refine qM (vi 4) rfl rfl (qV rfl (R.bin rfl rfl (bi_add (c := 5) (by omega) (by omega))) (qA (vi 5) rfl rfl ?_))
 refine WL.nil (thn_n ?_)
 refine WI.round ?_
 refine WP.seq (WP.seq (WP.reg ?_))
 refine qM (vi 5) rfl rfl (qV rfl (R.bin rfl rfl (bi_lss (r := true) (by decide))) ?_)
 refine WL.nil (thn_n ?_)
 refine WP.condT rfl ?_
 refine WP.skip (thn_n (WP.seq (WP.block (WP.reg ?_))))
 refine qM (.slice a_54 40 c_55) rfl rfl (qM (vi 5) rfl rfl (qV rfl (R.fieldAddr (off' := 1) rfl underlying57 rfl sizeOf55 rfl rfl) (qV rfl (R.indexA (b := b_1) (off := 1) (off' := 6) (i := 5) rfl rfl rfl (by decide) underlying55 sizeOf27 rfl) (qV rfl (R.loadE (b := b_1) (off := 6) (i := 5) (v := (vu64 (rg.getD 5 0))) rfl isAgg27 (h_57.ok _ M7) (Sg.t rfl Sg.h) rfl (get_u64 (lt_len (K := 8) hrg (by decide)))) ?_))))
 refine WL.call Tryz.call107 rfl rfl (c_rword10 (rg.getD 5 0) _) rfl ?_
 rintro _ w_60 ⟨a_58, cap_59, rfl, hc_61, ho_62⟩
 have h_63 := h_57.gotRow hc_61 ho_62
 refine WL.append (km := 48) (xs := (((((([] : List UInt8) ++ (leN 8 (rg.getD 0 0).toNat)) ++ (leN 8 (rg.getD 1 0).toNat)) ++ (leN 8 (rg.getD 2 0).toNat)) ++ (leN 8 (rg.getD 3 0).toNat)) ++ (leN 8 (rg.getD 4 0).toNat)).map vu8) (ys := (leN 8 (rg.getD 5 0).toNat).map vu8) (zs := ((((((([] : List UInt8) ++ (leN 8 (rg.getD 0 0).toNat)) ++ (leN 8 (rg.getD 1 0).toNat)) ++ (leN 8 (rg.getD 2 0).toNat)) ++ (leN 8 (rg.getD 3 0).toNat)) ++ (leN 8 (rg.getD 4 0).toNat)) ++ (leN 8 (rg.getD 5 0).toNat)).map vu8) h_63 rfl rfl el88 (ownView (h_63.ok _ M0)) ((len_map (leN_len ..)).trans (Nat.mul_one _).symm) (one_u8 _) (by simp only [List.map_append, List.map_nil]) rfl (by omega) (by omega) (fun _ _ => Y5) rfl (fun a_64 c_65 w_66 h_67 => ?_)
 refine qA (.slice a_64 48 c_65) rfl rfl ?_
 refine WL.nil (inb_n (thn_n (WP.reg ?_)))
 refine qM (vi 5) rfl rfl (qV rfl (R.bin rfl rfl (bi_add (c := 6) (by omega) (by omega))) (qA (vi 6) rfl rfl ?_))
 refine WL.nil (thn_n ?_)
 refine WI.round ?_
 refine WP.seq (WP.seq (WP.reg ?_))
 refine qM (vi 6) rfl rfl (qV rfl (R.bin rfl rfl (bi_lss (r := true) (by decide))) ?_)
 refine WL.nil (thn_n ?_)
 refine WP.condT rfl ?_
 refine WP.skip (thn_n (WP.seq (WP.block (WP.reg ?_))))
 refine qM (.slice a_64 48 c_65) rfl rfl (qM (vi 6) rfl rfl (qV rfl (R.fieldAddr (off' := 1) rfl underlying57 rfl sizeOf55 rfl rfl) (qV rfl (R.indexA (b := b_1) (off := 1) (off' := 7) (i := 6) rfl rfl rfl (by decide) underlying55 sizeOf27 rfl) (qV rfl (R.loadE (b := b_1) (off := 7) (i := 6) (v := (vu64 (rg.getD 6 0))) rfl isAgg27 (h_67.ok _ M8) (Sg.t rfl Sg.h) rfl (get_u64 (lt_len (K := 8) hrg (by decide)))) ?_))))
 refine WL.call Tryz.call107 rfl rfl (c_rword10 (rg.getD 6 0) _) rfl ?_
 rintro _ w_70 ⟨a_68, cap_69, rfl, hc_71, ho_72⟩
 have h_73 := h_67.gotRow hc_71 ho_72
 refine WL.append (km := 56) (xs := ((((((([] : List UInt8) ++ (leN 8 (rg.getD 0 0).toNat)) ++ (leN 8 (rg.getD 1 0).toNat)) ++ (leN 8 (rg.getD 2 0).toNat)) ++ (leN 8 (rg.getD 3 0).toNat)) ++ (leN 8 (rg.getD 4 0).toNat)) ++ (leN 8 (rg.getD 5 0).toNat)).map vu8) (ys := (leN 8 (rg.getD 6 0).toNat).map vu8) (zs := (((((((([] : List UInt8) ++ (leN 8 (rg.getD 0 0).toNat)) ++ (leN 8 (rg.getD 1 0).toNat)) ++ (leN 8 (rg.getD 2 0).toNat)) ++ (leN 8 (rg.getD 3 0).toNat)) ++ (leN 8 (rg.getD 4 0).toNat)) ++ (leN 8 (rg.getD 5 0).toNat)) ++ (leN 8 (rg.getD 6 0).toNat)).map vu8) h_73 rfl rfl el88 (ownView (h_73.ok _ M0)) ((len_map (leN_len ..)).trans (Nat.mul_one _).symm) (one_u8 _) (by simp only [List.map_append, List.map_nil]) rfl (by omega) (by omega) (fun _ _ => Y6) rfl (fun a_74 c_75 w_76 h_77 => ?_)
 refine qA (.slice a_74 56 c_75) rfl rfl ?_
 refine WL.nil (inb_n (thn_n (WP.reg ?_)))
 refine qM (vi 6) rfl rfl (qV rfl (R.bin rfl rfl (bi_add (c := 7) (by omega) (by omega))) (qA (vi 7) rfl rfl ?_))
 refine WL.nil (thn_n ?_)
 refine WI.round ?_
 refine WP.seq (WP.seq (WP.reg ?_))
 refine qM (vi 7) rfl rfl (qV rfl (R.bin rfl rfl (bi_lss (r := true) (by decide))) ?_)
 refine WL.nil (thn_n ?_)
 refine WP.condT rfl ?_
 refine WP.skip (thn_n (WP.seq (WP.block (WP.reg ?_))))
 refine qM (.slice a_74 56 c_75) rfl rfl (qM (vi 7) rfl rfl (qV rfl (R.fieldAddr (off' := 1) rfl underlying57 rfl sizeOf55 rfl rfl) (qV rfl (R.indexA (b := b_1) (off := 1) (off' := 8) (i := 7) rfl rfl rfl (by decide) underlying55 sizeOf27 rfl) (qV rfl (R.loadE (b := b_1) (off := 8) (i := 7) (v := (vu64 (rg.getD 7 0))) rfl isAgg27 (h_77.ok _ M9) (Sg.t rfl Sg.h) rfl (get_u64 (lt_len (K := 8) hrg (by decide)))) ?_))))
 refine WL.call Tryz.call107 rfl rfl (c_rword10 (rg.getD 7 0) _) rfl ?_
 rintro _ w_80 ⟨a_78, cap_79, rfl, hc_81, ho_82⟩
 have h_83 := h_77.gotRow hc_81 ho_82
 refine WL.append (km := 64) (xs := (((((((([] : List UInt8) ++ (leN 8 (rg.getD 0 0).toNat)) ++ (leN 8 (rg.getD 1 0).toNat)) ++ (leN 8 (rg.getD 2 0).toNat)) ++ (leN 8 (rg.getD 3 0).toNat)) ++ (leN 8 (rg.getD 4 0).toNat)) ++ (leN 8 (rg.getD 5 0).toNat)) ++ (leN 8 (rg.getD 6 0).toNat)).map vu8) (ys := (leN 8 (rg.getD 7 0).toNat).map vu8) (zs := ((((((((([] : List UInt8) ++ (leN 8 (rg.getD 0 0).toNat)) ++ (leN 8 (rg.getD 1 0).toNat)) ++ (leN 8 (rg.getD 2 0).toNat)) ++ (leN 8 (rg.getD 3 0).toNat)) ++ (leN 8 (rg.getD 4 0).toNat)) ++ (leN 8 (rg.getD 5 0).toNat)) ++ (leN 8 (rg.getD 6 0).toNat)) ++ (leN 8 (rg.getD 7 0).toNat)).map vu8) h_83 rfl rfl el88 (ownView (h_83.ok _ M0)) ((len_map (leN_len ..)).trans (Nat.mul_one _).symm) (one_u8 _) (by simp only [List.map_append, List.map_nil]) rfl (by omega) (by omega) (fun _ _ => Y7) rfl (fun a_84 c_85 w_86 h_87 => ?_)
 refine qA (.slice a_84 64 c_85) rfl rfl ?_
 refine WL.nil (inb_n (thn_n (WP.reg ?_)))
 refine qM (vi 7) rfl rfl (qV rfl (R.bin rfl rfl (bi_add (c := 8) (by omega) (by omega))) (qA (vi 8) rfl rfl ?_))
 refine WL.nil (thn_n ?_)
 refine WI.round ?_
 refine WP.seq (WP.seq (WP.reg ?_))
 refine qM (vi 8) rfl rfl (qV rfl (R.bin rfl rfl (bi_lss (r := false) (by decide))) ?_)
 refine WL.nil (thn_n ?_)
 refine WP.condF rfl ?_
 refine WP.exit (thn_x (thn_x (inb_hit (thn_n (WP.seq (WP.reg ?_))))))
 refine WL.buildSl (vs := [(0, (vu8 0))]) (cs := ([0] : List UInt8).map vu8) h_87 underlying88 sizeOf5 (zv typeInfo5 rfl) rfl rfl (by kernel_rfl) rfl (one_u8 _) rfl rfl (fun b_88 w_89 h_90 => ?_)
 refine qA (.slice (some ⟨b_88, 0, none⟩) 1 1) rfl rfl ?_
 refine WL.nil (thn_n (WP.seq (WP.seq (WP.reg ?_))))
 refine qV rfl (R.fieldAddr (off' := 9) rfl underlying57 rfl sizeOf4 rfl rfl) (qV rfl (R.load1 rfl isAgg4 (h_90.ok _ M11) (Sg.t rfl (Sg.t rfl Sg.h))) ?_)
 refine WL.nil (thn_n ?_)
 refine WP.cond (b := run) rfl (fun c_91 => ?_) (fun c_91 => ?_)
 ·refine WP.reg ?_
  refine qM (.slice (some ⟨b_88, 0, none⟩) 1 1) rfl rfl (qV rfl (R.indexP (b := b_88) (off := 0) (off' := 0) (i := 0) rfl rfl rfl (by decide) underlying88 sizeOf5 rfl) ?_)
  refine WL.storeE (b := b_88) (off := 0) (i := 0) (v := (vu8 1)) (cs' := (([0] : List UInt8).set 0 1).map vu8) h_90 rfl rfl sizeOf5 rfl At.h (by decide) Sg.h rfl (lt_len (K := 1) (len_map (rfl : List.length ([0] : List UInt8) = 1)) (by decide)) (set_u8 _ _ _) (fun w_92 h_93 => ?_)
  refine WL.nil (thn_n (WP.seq ?_))
  refine WP.drawZ 8 (SL w.heap.size [.blk b_88 .nw 5 [(1, (([0] : List UInt8).set 0 1).map vu8)], .row a_78 8 cap_79 5 1 ((leN 8 (rg.getD 7 0).toNat).map vu8), .row a_68 8 cap_69 5 1 ((leN 8 (rg.getD 6 0).toNat).map vu8), .row a_58 8 cap_59 5 1 ((leN 8 (rg.getD 5 0).toNat).map vu8), .row a_48 8 cap_49 5 1 ((leN 8 (rg.getD 4 0).toNat).map vu8), .row a_38 8 cap_39 5 1 ((leN 8 (rg.getD 3 0).toNat).map vu8), .row a_28 8 cap_29 5 1 ((leN 8 (rg.getD 2 0).toNat).map vu8), .row a_18 8 cap_19 5 1 ((leN 8 (rg.getD 1 0).toNat).map vu8), .row a_84 64 c_85 5 1 (((((((((([] : List UInt8) ++ (leN 8 (rg.getD 0 0).toNat)) ++ (leN 8 (rg.getD 1 0).toNat)) ++ (leN 8 (rg.getD 2 0).toNat)) ++ (leN 8 (rg.getD 3 0).toNat)) ++ (leN 8 (rg.getD 4 0).toNat)) ++ (leN 8 (rg.getD 5 0).toNat)) ++ (leN 8 (rg.getD 6 0).toNat)) ++ (leN 8 (rg.getD 7 0).toNat)).map vu8), .row a_7 8 cap_8 5 1 ((leN 8 (rg.getD 0 0).toNat).map vu8), .blk b_4 .nw 29 [(128, (zB 128).map vu8)], .blk b_1 .nw 57 [(1, [(vu64 pc)]), (8, rg.map vu64), (1, [(.bool run)])]]) (.q 1 (.q 2 (.q 4 (.q 5 (.s 0 (.s 3 (.s 6 (.s 7 (.s 8 .nil))))))))) (by kernel_rfl) (by kernel_rfl) rfl (by kernel_rfl) (fun w_94 hc_96 => (SL.cons ((h_93.same hc_96).ok _ M0) (SL.cons ((h_93.same hc_96).ok _ M1) (SL.cons ((h_93.same hc_96).ok _ M2) (SL.cons ((h_93.same hc_96).ok _ M3) (SL.cons ((h_93.same hc_96).ok _ M4) (SL.cons ((h_93.same hc_96).ok _ M5) (SL.cons ((h_93.same hc_96).ok _ M6) (SL.cons ((h_93.same hc_96).ok _ M7) (SL.cons ((h_93.same hc_96).ok _ M8) (SL.cons ((h_93.same hc_96).ok _ M9) (SL.cons ((h_93.same hc_96).ok _ M10) (SL.cons ((h_93.same hc_96).ok _ M11) (SL.nil _ _)))))))))))))) (fun w_94 hc_96 => ?_)
  have h_95 := h_93.same hc_96
  refine ZT.q rfl (Wn.no rfl) rfl rfl (fun wq hS => R.fieldAddr (off' := 0) rfl underlying57 rfl sizeOf27 rfl rfl) ?_
  refine ZT.q rfl (Wn.no rfl) rfl rfl (fun wq hS => R.load1 rfl isAgg27 (hS _ M11) Sg.h) ?_
  refine ZT.q rfl (Wn.no rfl) rfl rfl (fun wq hS => R.move (v := (.slice a_84 64 c_85)) rfl) ?_
  refine ZT.q rfl (Wn.no rfl) rfl rfl (fun wq hS => R.move (v := (.slice (some ⟨b_88, 0, none⟩) 1 1)) rfl) ?_
  refine ZT.s ?_
  refine OpZ.one rfl (Wn.no rfl) ?_
  refine WL.call Tryz.call109 rfl rfl (c_mark 3 ([114, 101, 99] : List UInt8) rfl (by decide) _) rfl ?_
  rintro _ w_99 ⟨a_97, cap_98, rfl, hc_100, ho_101⟩
  have h_102 := h_95.gotRow hc_100 ho_101
  refine WL.nil ?_
  refine ⟨(N1_2_3_4_5_6_7_8_9_10_11_12 h_102.ok), ?_⟩
  refine ZT.s ?_
  refine OpZ.one rfl (Wn.no rfl) ?_
  refine WL.call Tryz.call107 rfl rfl (c_rword10 pc _) rfl ?_
  rintro _ w_105 ⟨a_103, cap_104, rfl, hc_106, ho_107⟩
  have h_108 := h_102.gotRow hc_106 ho_107
  refine WL.nil ?_
  refine ⟨(N2_3_4_5_6_7_8_9_10_11_12_13 h_108.ok), ?_⟩
  refine ZT.s ?_
  refine OpZ.one rfl (Wn.no rfl) ?_
  refine WL.buildSl (vs := [(0, (.slice a_97 8 cap_98)), (1, (.slice a_103 8 cap_104)), (2, (.slice a_84 64 c_85)), (3, (.slice (some ⟨b_88, 0, none⟩) 1 1))]) (cs := [(.slice a_97 8 cap_98), (.slice a_103 8 cap_104), (.slice a_84 64 c_85), (.slice (some ⟨b_88, 0, none⟩) 1 1)]) h_108 underlying128 sizeOf88 (zv typeInfo88 rfl) rfl rfl (by kernel_rfl) rfl (by simp [Value.oneCell']) rfl rfl (fun b_109 w_110 h_111 => ?_)
  refine WL.nil ?_
  refine ⟨(N3_4_5_6_7_8_9_10_11_12_13_14 h_111.ok), ?_⟩
  refine ZT.s ?_
  refine OpZ.one rfl (Wn.no rfl) ?_
  refine WL.call Tryz.call108 rfl rfl (c_granR (some ⟨b_109, 0, none⟩) 4 4 [(.slice a_97 8 cap_98), (.slice a_103 8 cap_104), (.slice a_84 64 c_85), (.slice (some ⟨b_88, 0, none⟩) 1 1)] [([114, 101, 99] : List UInt8) ++ List.replicate (8 - 3) (0 : UInt8), leN 8 pc.toNat, (((((((([] : List UInt8) ++ (leN 8 (rg.getD 0 0).toNat)) ++ (leN 8 (rg.getD 1 0).toNat)) ++ (leN 8 (rg.getD 2 0).toNat)) ++ (leN 8 (rg.getD 3 0).toNat)) ++ (leN 8 (rg.getD 4 0).toNat)) ++ (leN 8 (rg.getD 5 0).toNat)) ++ (leN 8 (rg.getD 6 0).toNat)) ++ (leN 8 (rg.getD 7 0).toNat), ([0] : List UInt8).set 0 1] rfl (by simp [leN_len]) (by omega) _ (viewB (h_111.ok _ M0) Sg.h) (Sls.cons (rfl : List.length (([114, 101, 99] : List UInt8) ++ List.replicate (8 - 3) (0 : UInt8)) = 8) (h_111.own M2).2.2.1 (ownView (h_111.ok _ M2)) (Sls.cons (leN_len ..) (h_111.own M1).2.2.1 (ownView (h_111.ok _ M1)) (Sls.cons (lenApp (a := 56) (b := 8) (lenApp (a := 48) (b := 8) (lenApp (a := 40) (b := 8) (lenApp (a := 32) (b := 8) (lenApp (a := 24) (b := 8) (lenApp (a := 16) (b := 8) (lenApp (a := 8) (b := 8) (lenApp (a := 0) (b := 8) (rfl : List.length ([] : List UInt8) = 0) (leN_len ..) (by omega) : List.length (([] : List UInt8) ++ (leN 8 (rg.getD 0 0).toNat)) = 8) (leN_len ..) (by omega) : List.length ((([] : List UInt8) ++ (leN 8 (rg.getD 0 0).toNat)) ++ (leN 8 (rg.getD 1 0).toNat)) = 16) (leN_len ..) (by omega) : List.length (((([] : List UInt8) ++ (leN 8 (rg.getD 0 0).toNat)) ++ (leN 8 (rg.getD 1 0).toNat)) ++ (leN 8 (rg.getD 2 0).toNat)) = 24) (leN_len ..) (by omega) : List.length ((((([] : List UInt8) ++ (leN 8 (rg.getD 0 0).toNat)) ++ (leN 8 (rg.getD 1 0).toNat)) ++ (leN 8 (rg.getD 2 0).toNat)) ++ (leN 8 (rg.getD 3 0).toNat)) = 32) (leN_len ..) (by omega) : List.length (((((([] : List UInt8) ++ (leN 8 (rg.getD 0 0).toNat)) ++ (leN 8 (rg.getD 1 0).toNat)) ++ (leN 8 (rg.getD 2 0).toNat)) ++ (leN 8 (rg.getD 3 0).toNat)) ++ (leN 8 (rg.getD 4 0).toNat)) = 40) (leN_len ..) (by omega) : List.length ((((((([] : List UInt8) ++ (leN 8 (rg.getD 0 0).toNat)) ++ (leN 8 (rg.getD 1 0).toNat)) ++ (leN 8 (rg.getD 2 0).toNat)) ++ (leN 8 (rg.getD 3 0).toNat)) ++ (leN 8 (rg.getD 4 0).toNat)) ++ (leN 8 (rg.getD 5 0).toNat)) = 48) (leN_len ..) (by omega) : List.length (((((((([] : List UInt8) ++ (leN 8 (rg.getD 0 0).toNat)) ++ (leN 8 (rg.getD 1 0).toNat)) ++ (leN 8 (rg.getD 2 0).toNat)) ++ (leN 8 (rg.getD 3 0).toNat)) ++ (leN 8 (rg.getD 4 0).toNat)) ++ (leN 8 (rg.getD 5 0).toNat)) ++ (leN 8 (rg.getD 6 0).toNat)) = 56) (leN_len ..) (by omega) : List.length ((((((((([] : List UInt8) ++ (leN 8 (rg.getD 0 0).toNat)) ++ (leN 8 (rg.getD 1 0).toNat)) ++ (leN 8 (rg.getD 2 0).toNat)) ++ (leN 8 (rg.getD 3 0).toNat)) ++ (leN 8 (rg.getD 4 0).toNat)) ++ (leN 8 (rg.getD 5 0).toNat)) ++ (leN 8 (rg.getD 6 0).toNat)) ++ (leN 8 (rg.getD 7 0).toNat)) = 64) (h_111.own M11).2.2.1 (ownView (h_111.ok _ M11)) (Sls.cons (len_set (rfl : List.length ([0] : List UInt8) = 1) _ _) (by decide) (viewB (h_111.ok _ M3) Sg.h) Sls.nil))))) rfl ?_
  rintro _ w_113 ⟨rfl, hc_112⟩
  have h_114 := h_111.same hc_112
  refine WL.nil ?_
  refine ⟨(N3_4_5_6_7_8_9_10_11_12_13_14 h_114.ok), ?_⟩
  refine ZT.s ?_
  refine OpZ.last rfl (Wn.no rfl) ?_
  refine WL.storeA [] [(128, (zB 128).map vu8)] [(128, (ovr (zB 128) 0 ([([114, 101, 99] : List UInt8) ++ List.replicate (8 - 3) (0 : UInt8), leN 8 pc.toNat, (((((((([] : List UInt8) ++ (leN 8 (rg.getD 0 0).toNat)) ++ (leN 8 (rg.getD 1 0).toNat)) ++ (leN 8 (rg.getD 2 0).toNat)) ++ (leN 8 (rg.getD 3 0).toNat)) ++ (leN 8 (rg.getD 4 0).toNat)) ++ (leN 8 (rg.getD 5 0).toNat)) ++ (leN 8 (rg.getD 6 0).toNat)) ++ (leN 8 (rg.getD 7 0).toNat), ([0] : List UInt8).set 0 1]).flatten).map vu8)] [] h_114 rfl rfl sizeOf29 Y13 (by decide) rfl rfl rfl rfl rfl rfl (sC (s8 (ovr_len lr (by have hz : ([([114, 101, 99] : List UInt8) ++ List.replicate (8 - 3) (0 : UInt8), leN 8 pc.toNat, (((((((([] : List UInt8) ++ (leN 8 (rg.getD 0 0).toNat)) ++ (leN 8 (rg.getD 1 0).toNat)) ++ (leN 8 (rg.getD 2 0).toNat)) ++ (leN 8 (rg.getD 3 0).toNat)) ++ (leN 8 (rg.getD 4 0).toNat)) ++ (leN 8 (rg.getD 5 0).toNat)) ++ (leN 8 (rg.getD 6 0).toNat)) ++ (leN 8 (rg.getD 7 0).toNat), ([0] : List UInt8).set 0 1]).flatten.length ≤ 128 := (by simp [leN_len]); omega))) sN) (fun w_115 h_116 => ?_)
  refine WL.nil (ZT.nil (thn_n (WP.ret ?_)))
  refine ret_of results76 (RV.cell rfl (h_116.loadA (cs := (ovr (zB 128) 0 ([([114, 101, 99] : List UInt8) ++ List.replicate (8 - 3) (0 : UInt8), leN 8 pc.toNat, (((((((([] : List UInt8) ++ (leN 8 (rg.getD 0 0).toNat)) ++ (leN 8 (rg.getD 1 0).toNat)) ++ (leN 8 (rg.getD 2 0).toNat)) ++ (leN 8 (rg.getD 3 0).toNat)) ++ (leN 8 (rg.getD 4 0).toNat)) ++ (leN 8 (rg.getD 5 0).toNat)) ++ (leN 8 (rg.getD 6 0).toNat)) ++ (leN 8 (rg.getD 7 0).toNat), ([0] : List UInt8).set 0 1]).flatten).map vu8) isAgg29 sizeOf29 M13 rfl rfl) RV.nil) ?_
  exact ⟨by rw [recB, c_91]; rfl, h_116.chgS⟩
 ·refine WP.skip (thn_n (WP.seq ?_))
  refine WP.drawZ 8 (SL w.heap.size [.blk b_88 .nw 5 [(1, ([0] : List UInt8).map vu8)], .row a_78 8 cap_79 5 1 ((leN 8 (rg.getD 7 0).toNat).map vu8), .row a_68 8 cap_69 5 1 ((leN 8 (rg.getD 6 0).toNat).map vu8), .row a_58 8 cap_59 5 1 ((leN 8 (rg.getD 5 0).toNat).map vu8), .row a_48 8 cap_49 5 1 ((leN 8 (rg.getD 4 0).toNat).map vu8), .row a_38 8 cap_39 5 1 ((leN 8 (rg.getD 3 0).toNat).map vu8), .row a_28 8 cap_29 5 1 ((leN 8 (rg.getD 2 0).toNat).map vu8), .row a_18 8 cap_19 5 1 ((leN 8 (rg.getD 1 0).toNat).map vu8), .row a_84 64 c_85 5 1 (((((((((([] : List UInt8) ++ (leN 8 (rg.getD 0 0).toNat)) ++ (leN 8 (rg.getD 1 0).toNat)) ++ (leN 8 (rg.getD 2 0).toNat)) ++ (leN 8 (rg.getD 3 0).toNat)) ++ (leN 8 (rg.getD 4 0).toNat)) ++ (leN 8 (rg.getD 5 0).toNat)) ++ (leN 8 (rg.getD 6 0).toNat)) ++ (leN 8 (rg.getD 7 0).toNat)).map vu8), .row a_7 8 cap_8 5 1 ((leN 8 (rg.getD 0 0).toNat).map vu8), .blk b_4 .nw 29 [(128, (zB 128).map vu8)], .blk b_1 .nw 57 [(1, [(vu64 pc)]), (8, rg.map vu64), (1, [(.bool run)])]]) (.q 1 (.q 2 (.q 4 (.q 5 (.s 0 (.s 3 (.s 6 (.s 7 (.s 8 .nil))))))))) (by kernel_rfl) (by kernel_rfl) rfl (by kernel_rfl) (fun w_117 hc_119 => (SL.cons ((h_90.same hc_119).ok _ M0) (SL.cons ((h_90.same hc_119).ok _ M1) (SL.cons ((h_90.same hc_119).ok _ M2) (SL.cons ((h_90.same hc_119).ok _ M3) (SL.cons ((h_90.same hc_119).ok _ M4) (SL.cons ((h_90.same hc_119).ok _ M5) (SL.cons ((h_90.same hc_119).ok _ M6) (SL.cons ((h_90.same hc_119).ok _ M7) (SL.cons ((h_90.same hc_119).ok _ M8) (SL.cons ((h_90.same hc_119).ok _ M9) (SL.cons ((h_90.same hc_119).ok _ M10) (SL.cons ((h_90.same hc_119).ok _ M11) (SL.nil _ _)))))))))))))) (fun w_117 hc_119 => ?_)
  have h_118 := h_90.same hc_119
  refine ZT.q rfl (Wn.no rfl) rfl rfl (fun wq hS => R.fieldAddr (off' := 0) rfl underlying57 rfl sizeOf27 rfl rfl) ?_
  refine ZT.q rfl (Wn.no rfl) rfl rfl (fun wq hS => R.load1 rfl isAgg27 (hS _ M11) Sg.h) ?_
  refine ZT.q rfl (Wn.no rfl) rfl rfl (fun wq hS => R.move (v := (.slice a_84 64 c_85)) rfl) ?_
  refine ZT.q rfl (Wn.no rfl) rfl rfl (fun wq hS => R.move (v := (.slice (some ⟨b_88, 0, none⟩) 1 1)) rfl) ?_
  refine ZT.s ?_
  refine OpZ.one rfl (Wn.no rfl) ?_
  refine WL.call Tryz.call109 rfl rfl (c_mark 3 ([114, 101, 99] : List UInt8) rfl (by decide) _) rfl ?_
  rintro _ w_122 ⟨a_120, cap_121, rfl, hc_123, ho_124⟩
  have h_125 := h_118.gotRow hc_123 ho_124
  refine WL.nil ?_
  refine ⟨(N1_2_3_4_5_6_7_8_9_10_11_12 h_125.ok), ?_⟩
  refine ZT.s ?_
  refine OpZ.one rfl (Wn.no rfl) ?_
  refine WL.call Tryz.call107 rfl rfl (c_rword10 pc _) rfl ?_
  rintro _ w_128 ⟨a_126, cap_127, rfl, hc_129, ho_130⟩
  have h_131 := h_125.gotRow hc_129 ho_130
  refine WL.nil ?_
  refine ⟨(N2_3_4_5_6_7_8_9_10_11_12_13 h_131.ok), ?_⟩
  refine ZT.s ?_
  refine OpZ.one rfl (Wn.no rfl) ?_
  refine WL.buildSl (vs := [(0, (.slice a_120 8 cap_121)), (1, (.slice a_126 8 cap_127)), (2, (.slice a_84 64 c_85)), (3, (.slice (some ⟨b_88, 0, none⟩) 1 1))]) (cs := [(.slice a_120 8 cap_121), (.slice a_126 8 cap_127), (.slice a_84 64 c_85), (.slice (some ⟨b_88, 0, none⟩) 1 1)]) h_131 underlying128 sizeOf88 (zv typeInfo88 rfl) rfl rfl (by kernel_rfl) rfl (by simp [Value.oneCell']) rfl rfl (fun b_132 w_133 h_134 => ?_)
  refine WL.nil ?_
  refine ⟨(N3_4_5_6_7_8_9_10_11_12_13_14 h_134.ok), ?_⟩
  refine ZT.s ?_
  refine OpZ.one rfl (Wn.no rfl) ?_
  refine WL.call Tryz.call108 rfl rfl (c_granR (some ⟨b_132, 0, none⟩) 4 4 [(.slice a_120 8 cap_121), (.slice a_126 8 cap_127), (.slice a_84 64 c_85), (.slice (some ⟨b_88, 0, none⟩) 1 1)] [([114, 101, 99] : List UInt8) ++ List.replicate (8 - 3) (0 : UInt8), leN 8 pc.toNat, (((((((([] : List UInt8) ++ (leN 8 (rg.getD 0 0).toNat)) ++ (leN 8 (rg.getD 1 0).toNat)) ++ (leN 8 (rg.getD 2 0).toNat)) ++ (leN 8 (rg.getD 3 0).toNat)) ++ (leN 8 (rg.getD 4 0).toNat)) ++ (leN 8 (rg.getD 5 0).toNat)) ++ (leN 8 (rg.getD 6 0).toNat)) ++ (leN 8 (rg.getD 7 0).toNat), ([0] : List UInt8)] rfl (by simp [leN_len]) (by omega) _ (viewB (h_134.ok _ M0) Sg.h) (Sls.cons (rfl : List.length (([114, 101, 99] : List UInt8) ++ List.replicate (8 - 3) (0 : UInt8)) = 8) (h_134.own M2).2.2.1 (ownView (h_134.ok _ M2)) (Sls.cons (leN_len ..) (h_134.own M1).2.2.1 (ownView (h_134.ok _ M1)) (Sls.cons (lenApp (a := 56) (b := 8) (lenApp (a := 48) (b := 8) (lenApp (a := 40) (b := 8) (lenApp (a := 32) (b := 8) (lenApp (a := 24) (b := 8) (lenApp (a := 16) (b := 8) (lenApp (a := 8) (b := 8) (lenApp (a := 0) (b := 8) (rfl : List.length ([] : List UInt8) = 0) (leN_len ..) (by omega) : List.length (([] : List UInt8) ++ (leN 8 (rg.getD 0 0).toNat)) = 8) (leN_len ..) (by omega) : List.length ((([] : List UInt8) ++ (leN 8 (rg.getD 0 0).toNat)) ++ (leN 8 (rg.getD 1 0).toNat)) = 16) (leN_len ..) (by omega) : List.length (((([] : List UInt8) ++ (leN 8 (rg.getD 0 0).toNat)) ++ (leN 8 (rg.getD 1 0).toNat)) ++ (leN 8 (rg.getD 2 0).toNat)) = 24) (leN_len ..) (by omega) : List.length ((((([] : List UInt8) ++ (leN 8 (rg.getD 0 0).toNat)) ++ (leN 8 (rg.getD 1 0).toNat)) ++ (leN 8 (rg.getD 2 0).toNat)) ++ (leN 8 (rg.getD 3 0).toNat)) = 32) (leN_len ..) (by omega) : List.length (((((([] : List UInt8) ++ (leN 8 (rg.getD 0 0).toNat)) ++ (leN 8 (rg.getD 1 0).toNat)) ++ (leN 8 (rg.getD 2 0).toNat)) ++ (leN 8 (rg.getD 3 0).toNat)) ++ (leN 8 (rg.getD 4 0).toNat)) = 40) (leN_len ..) (by omega) : List.length ((((((([] : List UInt8) ++ (leN 8 (rg.getD 0 0).toNat)) ++ (leN 8 (rg.getD 1 0).toNat)) ++ (leN 8 (rg.getD 2 0).toNat)) ++ (leN 8 (rg.getD 3 0).toNat)) ++ (leN 8 (rg.getD 4 0).toNat)) ++ (leN 8 (rg.getD 5 0).toNat)) = 48) (leN_len ..) (by omega) : List.length (((((((([] : List UInt8) ++ (leN 8 (rg.getD 0 0).toNat)) ++ (leN 8 (rg.getD 1 0).toNat)) ++ (leN 8 (rg.getD 2 0).toNat)) ++ (leN 8 (rg.getD 3 0).toNat)) ++ (leN 8 (rg.getD 4 0).toNat)) ++ (leN 8 (rg.getD 5 0).toNat)) ++ (leN 8 (rg.getD 6 0).toNat)) = 56) (leN_len ..) (by omega) : List.length ((((((((([] : List UInt8) ++ (leN 8 (rg.getD 0 0).toNat)) ++ (leN 8 (rg.getD 1 0).toNat)) ++ (leN 8 (rg.getD 2 0).toNat)) ++ (leN 8 (rg.getD 3 0).toNat)) ++ (leN 8 (rg.getD 4 0).toNat)) ++ (leN 8 (rg.getD 5 0).toNat)) ++ (leN 8 (rg.getD 6 0).toNat)) ++ (leN 8 (rg.getD 7 0).toNat)) = 64) (h_134.own M11).2.2.1 (ownView (h_134.ok _ M11)) (Sls.cons (rfl : List.length ([0] : List UInt8) = 1) (by decide) (viewB (h_134.ok _ M3) Sg.h) Sls.nil))))) rfl ?_
  rintro _ w_136 ⟨rfl, hc_135⟩
  have h_137 := h_134.same hc_135
  refine WL.nil ?_
  refine ⟨(N3_4_5_6_7_8_9_10_11_12_13_14 h_137.ok), ?_⟩
  refine ZT.s ?_
  refine OpZ.last rfl (Wn.no rfl) ?_
  refine WL.storeA [] [(128, (zB 128).map vu8)] [(128, (ovr (zB 128) 0 ([([114, 101, 99] : List UInt8) ++ List.replicate (8 - 3) (0 : UInt8), leN 8 pc.toNat, (((((((([] : List UInt8) ++ (leN 8 (rg.getD 0 0).toNat)) ++ (leN 8 (rg.getD 1 0).toNat)) ++ (leN 8 (rg.getD 2 0).toNat)) ++ (leN 8 (rg.getD 3 0).toNat)) ++ (leN 8 (rg.getD 4 0).toNat)) ++ (leN 8 (rg.getD 5 0).toNat)) ++ (leN 8 (rg.getD 6 0).toNat)) ++ (leN 8 (rg.getD 7 0).toNat), ([0] : List UInt8)]).flatten).map vu8)] [] h_137 rfl rfl sizeOf29 Y13 (by decide) rfl rfl rfl rfl rfl rfl (sC (s8 (ovr_len lr (by have hz : ([([114, 101, 99] : List UInt8) ++ List.replicate (8 - 3) (0 : UInt8), leN 8 pc.toNat, (((((((([] : List UInt8) ++ (leN 8 (rg.getD 0 0).toNat)) ++ (leN 8 (rg.getD 1 0).toNat)) ++ (leN 8 (rg.getD 2 0).toNat)) ++ (leN 8 (rg.getD 3 0).toNat)) ++ (leN 8 (rg.getD 4 0).toNat)) ++ (leN 8 (rg.getD 5 0).toNat)) ++ (leN 8 (rg.getD 6 0).toNat)) ++ (leN 8 (rg.getD 7 0).toNat), ([0] : List UInt8)]).flatten.length ≤ 128 := (by simp [leN_len]); omega))) sN) (fun w_138 h_139 => ?_)
  refine WL.nil (ZT.nil (thn_n (WP.ret ?_)))
  refine ret_of results76 (RV.cell rfl (h_139.loadA (cs := (ovr (zB 128) 0 ([([114, 101, 99] : List UInt8) ++ List.replicate (8 - 3) (0 : UInt8), leN 8 pc.toNat, (((((((([] : List UInt8) ++ (leN 8 (rg.getD 0 0).toNat)) ++ (leN 8 (rg.getD 1 0).toNat)) ++ (leN 8 (rg.getD 2 0).toNat)) ++ (leN 8 (rg.getD 3 0).toNat)) ++ (leN 8 (rg.getD 4 0).toNat)) ++ (leN 8 (rg.getD 5 0).toNat)) ++ (leN 8 (rg.getD 6 0).toNat)) ++ (leN 8 (rg.getD 7 0).toNat), ([0] : List UInt8)]).flatten).map vu8) isAgg29 sizeOf29 M13 rfl rfl) RV.nil) ?_
  exact ⟨by rw [recB, c_91]; rfl, h_139.chgS⟩

theorem c_RecBytes_t (pc : UInt64) (rg : List UInt64) (hrg : rg.length = 8) (run : Bool) (h : decide (pc % 8 = 0) = true) (w : World) :
  Cs Tryz.prog 75 [(.agg ⟨flat [(1, [(vu64 pc)]), (8, rg.map vu64), (1, [(.bool run)])]⟩)].toArray w (fun v w1 => v = (.tuple [(.agg ⟨(recB pc rg run).map vu8⟩), (vi 0)].toArray) ∧ Chg w w1 []) := by
 refine Cs.of (n := 10) (args := [(.agg ⟨flat [(1, [(vu64 pc)]), (8, rg.map vu64), (1, [(.bool run)])]⟩)]) Tryz.func75 rfl rfl rfl ?_
 have h_0 := HP.init w
 refine WP.seq (WP.reg ?_)
 refine WL.box (segs := [(1, [(vu64 pc)]), (8, rg.map vu64), (1, [(.bool run)])]) h_0 rfl rfl (sC sV (sC (SOk.u64 hrg) (sC sV sN))) rfl (fun b_1 w_2 h_3 => ?_)
 refine WL.alloc (segs := [(128, (zB 128).map vu8)]) h_3 (zv typeInfo29 rfl) rfl (sC (s8 lr) sN) rfl (fun b_4 w_5 h_6 => ?_)
 refine qA (vi 0) rfl rfl ?_
 refine WL.nil (thn_n (WP.seq (WP.seq (WP.reg ?_))))
 refine qV rfl (R.loadA [] [(1, [(vu64 pc)]), (8, rg.map vu64), (1, [(.bool run)])] [] rfl isAgg57 sizeOf57 (h_6.ok _ M1) rfl rfl rfl rfl) ?_
 refine WL.call Tryz.call79 rfl rfl (c_MayRec pc rg hrg run _ ) rfl ?_
 rintro _ w_8 ⟨rfl, hc_7⟩
 have h_9 := h_6.same hc_7
 refine qV rfl (R.not (b := true) (congrArg Value.bool h)) ?_
 refine WL.nil (thn_n ?_)
 refine WP.condF rfl ?_
 refine WP.skip (thn_n (WP.seq (WP.reg ?_)))
 refine qV rfl (R.loadA [] [(1, [(vu64 pc)]), (8, rg.map vu64), (1, [(.bool run)])] [] rfl isAgg57 sizeOf57 (h_9.ok _ M1) rfl rfl rfl rfl) ?_
 refine WL.call Tryz.call106 rfl rfl (c_rec pc rg hrg run _ ) rfl ?_
 rintro _ w_11 ⟨rfl, hc_10⟩
 have h_12 := h_9.same hc_10
 refine WL.storeA [] [(128, (zB 128).map vu8)] [(128, (recB pc rg run).map vu8)] [] h_12 rfl rfl sizeOf29 At.h (by decide) rfl rfl rfl rfl rfl rfl (sC (s8 (recB_len ..)) sN) (fun w_13 h_14 => ?_)
 refine qA (vi 0) rfl rfl ?_
 refine WL.nil (thn_n (WP.ret ?_))
 refine ret_of results75 (RV.cell rfl (h_14.loadA (cs := (recB pc rg run).map vu8) isAgg29 sizeOf29 M0 rfl rfl) (RV.tmp (v := (vi 0)) rfl RV.nil)) ?_
 exact ⟨rfl, h_14.chgS⟩

theorem c_MayRecR (pc : UInt64) (rg : List UInt64) (hrg : rg.length = 8) (b : Bool) (w : World) :
  Cs Tryz.prog 32 [(.agg ⟨flat [(1, [(vu64 pc)]), (8, rg.map vu64), (1, [(.bool b)])]⟩)].toArray w (fun v w1 => v = (.bool (decide (pc % 8 = 0))) ∧ Chg w w1 []) := by
 refine Cs.of (n := 7) (args := [(.agg ⟨flat [(1, [(vu64 pc)]), (8, rg.map vu64), (1, [(.bool b)])]⟩)]) Tryz.func32 rfl rfl rfl ?_
 have h_0 := HP.init w
 refine WP.seq (WP.reg ?_)
 refine WL.box (segs := [(1, [(vu64 pc)]), (8, rg.map vu64), (1, [(.bool b)])]) h_0 rfl rfl (sC sV (sC (SOk.u64 hrg) (sC sV sN))) rfl (fun b_1 w_2 h_3 => ?_)
 refine qA (.bool false) rfl rfl ?_
 refine WL.nil (thn_n (WP.seq (WP.reg ?_)))
 refine qV rfl (R.fieldAddr (off' := 0) rfl underlying57 rfl sizeOf27 rfl rfl) (qV rfl (R.load1 rfl isAgg27 (h_3.ok _ M0) Sg.h) (qV rfl (R.bin (v := (vu64 (pc % 8))) rfl rfl (b64_rem pc 8 (by decide))) (qV rfl (R.bin (v := (.bool (decide ((pc % 8 : UInt64) = 0)))) rfl rfl (b64_eql (pc % 8) 0 (r := decide ((pc % 8 : UInt64) = 0)) rfl)) (qA (.bool (decide ((pc % 8 : UInt64) = 0))) rfl rfl ?_))))
 refine WL.nil (thn_n (WP.ret ?_))
 refine ret_of results32 (RV.tmp (v := (.bool (decide ((pc % 8 : UInt64) = 0)))) rfl RV.nil) ?_
 exact ⟨rfl, h_3.chgS⟩
end Go.Proofs.YteclkcpdclimnaaGreat

namespace Go.Proofs.YteclkcpdclimnaaGreat
open Go.Proofs.Tryz
open Go.Vc Go.Sh Go.RowKit
set_option maxRecDepth 20000
theorem el172 : ElT Tryz.prog 172 169 1 4 := ElT.mk' underlying172 (i := Tryz.t169) rfl rfl rfl rfl rfl rfl
theorem c_prime (i : Nat) (hi : i < 64) (w : World) :
  Cs Tryz.prog 144 [(vi ((i : Nat) : Int))].toArray w (fun v w1 => v = (vu64 (primeL.getD i 0)) ∧ Chg w w1 []) := by
 refine Cs.of (n := 28) (args := [(vn i)]) Tryz.func144 rfl rfl rfl ?_
 have h_0 := HP.init w
 refine WP.seq (WP.reg ?_)
 refine qA (vu64 0) rfl rfl ?_
 refine WL.nil (thn_n (WP.seq (WP.reg ?_)))
 refine qA (vu64 1) rfl rfl ?_
 refine WL.nil (thn_n (WP.seq (WP.block ?_)))
 refine WP.loopG (G := Nat) [0, 3, 4, 5, 6, 7, 8, 9, 10, 11, 12, 13, 14, 15, 16, 17, 18, 19, 20, 21, 22, 23, 24, 25, 26] (fun q => [(0, (vi ((i : Int) - (cnt q : Int)))), (3, (vu64 (UInt64.ofNat q)))]) (fun q m w1 => HP w w1 [] ∧ (1 ≤ q) ∧ (q ≤ 311) ∧ (cnt q ≤ i + 1) ∧ (cnt q ≤ i ∨ (cnt q = i + 1 ∧ primeL.getD i 0 = UInt64.ofNat q)) ∧ m = 312 - q) ⟨1, _, ⟨by rw [cnt_1]; exact congrArg vi (by omega), rfl, trivial⟩, h_0, (Nat.le_refl 1), (by decide), (by rw [cnt_1]; omega), (.inl (by rw [cnt_1]; omega)), rfl⟩ ?_
 rintro q m_3 J_4 w_1 ⟨h_2, hq1, hq2, hcb, hin, rfl⟩
 have hq3 : (0 : Int) ≤ (i : Int) - (cnt q : Int) → q < 311 := fun h => cnt_lt hi (by omega)
 refine WP.seq (WP.seq (WP.reg ?_))
 refine qM (vi ((i : Int) - (cnt q : Int))) rfl rfl (qV rfl (R.bin rfl rfl (bi_geq (r := decide (((i : Int) - (cnt q : Int) : Int) ≥ 0)) rfl)) ?_)
 refine WL.nil (thn_n ?_)
 refine WP.cond (b := decide (((i : Int) - (cnt q : Int) : Int) ≥ 0)) rfl (fun c_5 => ?_) (fun c_5 => ?_)
 ·have p_6 := of_decide_eq_true c_5
  refine WP.skip (thn_n (WP.block (WP.seq (WP.reg ?_))))
  refine qM (vu64 (UInt64.ofNat q)) rfl rfl (qV rfl (R.bin (v := (vu64 (UInt64.ofNat (q + 1)))) rfl rfl ((b64_add (UInt64.ofNat q) 1).trans (congrArg (fun x : UInt64 => some (vu64 x)) (u64_succ q)))) (qA (vu64 (UInt64.ofNat (q + 1))) rfl rfl ?_))
  refine WL.nil (thn_n (WP.seq (WP.reg ?_)))
  refine qA (.bool true) rfl rfl ?_
  refine WL.nil (thn_n (WP.seq (WP.seq (WP.reg ?_))))
  refine qA (vu64 2) rfl rfl ?_
  refine WL.nil (thn_n (WP.block ?_))
  have hq4 := hq3 (by omega)
  refine WP.loopG (G := Nat) [4, 5, 10, 11, 12, 13, 14, 15, 16, 17, 18, 19, 20, 21, 22, 23] (fun k => [(4, (.bool (isK (q + 1) k))), (5, (vu64 (UInt64.ofNat k)))]) (fun k m w1 => HP w w1 [] ∧ (2 ≤ k) ∧ (k ≤ 18) ∧ (k = 2 ∨ (k - 1) * (k - 1) ≤ q + 1) ∧ m = 20 - k) ⟨2, _, ⟨congrArg Value.bool (isK_2 _).symm, rfl, trivial⟩, h_2, (Nat.le_refl 2), (by decide), (.inl rfl), rfl⟩ ?_
  rintro k m_9 J_10 w_7 ⟨h_8, hk2, hk, hk3, rfl⟩
  refine WP.seq (WP.seq (WP.reg ?_))
  refine qM (vu64 (UInt64.ofNat k)) rfl rfl (qM (vu64 (UInt64.ofNat k)) rfl rfl (qV rfl (R.bin rfl rfl (b64_mul (UInt64.ofNat k) (UInt64.ofNat k))) (qM (vu64 (UInt64.ofNat (q + 1))) rfl rfl (qV rfl (R.bin (v := (.bool (decide (((UInt64.ofNat k) * (UInt64.ofNat k) : UInt64) ≤ (UInt64.ofNat (q + 1)))))) rfl rfl (b64_leq ((UInt64.ofNat k) * (UInt64.ofNat k)) (UInt64.ofNat (q + 1)) (r := decide (((UInt64.ofNat k) * (UInt64.ofNat k) : UInt64) ≤ (UInt64.ofNat (q + 1)))) rfl)) ?_))))
  refine WL.nil (thn_n ?_)
  refine WP.cond (b := decide (((UInt64.ofNat k) * (UInt64.ofNat k) : UInt64) ≤ (UInt64.ofNat (q + 1)))) rfl (fun c_11 => ?_) (fun c_11 => ?_)
  ·have p_12 := of_decide_eq_true c_11
   refine WP.skip (thn_n (WP.seq (WP.block (WP.reg ?_))))
   refine qM (.bool (isK (q + 1) k)) rfl rfl (qM (.bool (isK (q + 1) k)) rfl rfl ?_)
   rcases Bool.eq_false_or_eq_true (isK (q + 1) k) with c_13 | c_13
   ·refine WL.want rfl (congrArg Value.bool c_13) ?_
    refine qM (vu64 (UInt64.ofNat (q + 1))) rfl rfl ?_
    refine WL.want rfl (congrArg Value.bool c_13) ?_
    refine qM (vu64 (UInt64.ofNat k)) rfl rfl ?_
    refine WL.want rfl (congrArg Value.bool c_13) ?_
    refine qV rfl (R.bin (v := (vu64 ((UInt64.ofNat (q + 1)) % (UInt64.ofNat k)))) rfl rfl (b64_rem (UInt64.ofNat (q + 1)) (UInt64.ofNat k) (nz64 hk2 (by omega)))) ?_
    refine WL.want rfl (congrArg Value.bool c_13) ?_
    refine qV rfl (R.bin (v := (.bool (decide (((UInt64.ofNat (q + 1)) % (UInt64.ofNat k) : UInt64) ≠ 0)))) rfl rfl (b64_neq ((UInt64.ofNat (q + 1)) % (UInt64.ofNat k)) 0 (r := decide (((UInt64.ofNat (q + 1)) % (UInt64.ofNat k) : UInt64) ≠ 0)) rfl)) (qV rfl (R.pickT (v := (.bool (decide (((UInt64.ofNat (q + 1)) % (UInt64.ofNat k) : UInt64) ≠ 0)))) (congrArg Value.bool c_13) rfl) (qA (.bool (decide (((UInt64.ofNat (q + 1)) % (UInt64.ofNat k) : UInt64) ≠ 0))) rfl rfl ?_))
    refine WL.nil (inb_n (thn_n (WP.reg ?_)))
    refine qM (vu64 (UInt64.ofNat k)) rfl rfl (qV rfl (R.bin (v := (vu64 (UInt64.ofNat (k + 1)))) rfl rfl ((b64_add (UInt64.ofNat k) 1).trans (congrArg (fun x : UInt64 => some (vu64 x)) (u64_succ k)))) (qA (vu64 (UInt64.ofNat (k + 1))) rfl rfl ?_))
    refine WL.nil (thn_n ?_)
    have hk5 := (sq_le (by omega) (by omega)).1 p_12
    have hk6 := sq_bd hk5 (by omega)
    exact ⟨k + 1, _, (by omega), (U4 rfl rfl rfl rfl (U4 rfl rfl rfl rfl (U4 rfl rfl rfl rfl (U4 rfl rfl rfl rfl (Ag.updL rfl (Ag.mix _ _ _)))))), ⟨congrArg Value.bool (isK_t (by omega) (by omega) hk2 c_13), rfl, trivial⟩, h_8, (by omega), (by omega), (.inr (by rw [Nat.add_sub_cancel]; exact hk5)), rfl⟩
   ·refine WL.skip rfl (congrArg Value.bool c_13) rfl ?_
    refine WL.skip rfl (congrArg Value.bool c_13) rfl ?_
    refine WL.skip rfl (congrArg Value.bool c_13) rfl ?_
    refine WL.skip rfl (congrArg Value.bool c_13) rfl ?_
    refine qV rfl (R.pickF (v := (.bool false)) (congrArg Value.bool c_13) rfl) (qA (.bool false) rfl rfl ?_)
    refine WL.nil (inb_n (thn_n (WP.reg ?_)))
    refine qM (vu64 (UInt64.ofNat k)) rfl rfl (qV rfl (R.bin (v := (vu64 (UInt64.ofNat (k + 1)))) rfl rfl ((b64_add (UInt64.ofNat k) 1).trans (congrArg (fun x : UInt64 => some (vu64 x)) (u64_succ k)))) (qA (vu64 (UInt64.ofNat (k + 1))) rfl rfl ?_))
    refine WL.nil (thn_n ?_)
    have hk5 := (sq_le (by omega) (by omega)).1 p_12
    have hk6 := sq_bd hk5 (by omega)
    exact ⟨k + 1, _, (by omega), (U4 rfl rfl rfl rfl (U4 rfl rfl rfl rfl (U4 rfl rfl rfl rfl (U4 rfl rfl rfl rfl (Ag.updL rfl (Ag.mix _ _ _)))))), ⟨congrArg Value.bool (isK_f hk2 c_13), rfl, trivial⟩, h_8, (by omega), (by omega), (.inr (by rw [Nat.add_sub_cancel]; exact hk5)), rfl⟩
  ·have p_14 := of_decide_eq_false c_11
   refine WP.exit (thn_x (thn_x (inb_hit (thn_n (WP.seq (WP.reg ?_))))))
   refine qM (.bool (isK (q + 1) k)) rfl rfl ?_
   refine WL.nil (thn_n ?_)
   refine WP.cond (b := isK (q + 1) k) rfl (fun c_15 => ?_) (fun c_15 => ?_)
   ·refine WP.reg ?_
    refine qM (vi ((i : Int) - (cnt q : Int))) rfl rfl (qV rfl (R.bin rfl rfl (bi_sub (c := ((i : Int) - (cnt q : Int)) - 1) (by omega) (by omega))) (qA (vi (((i : Int) - (cnt q : Int)) - 1)) rfl rfl ?_))
    refine WL.nil (inb_n (thn_n ?_))
    have hq4 := hq3 (by omega)
    have hk5 := fun h => p_14 ((sq_le (by omega) (by omega)).2 h)
    have he := isK_end (n := q + 1) (by omega) (by omega) hk2 (by omega) hk3 hk5
    rw [he] at c_15
    have hc := cnt_yes hq1 hq4 c_15
    have hin2 : cnt (q + 1) ≤ i ∨ (cnt (q + 1) = i + 1 ∧ primeL.getD i 0 = UInt64.ofNat (q + 1)) := by
     by_cases hci : cnt q < i
     ·exact .inl (by omega)
     ·exact .inr ⟨by omega, by rw [← hc.2, show cnt q = i by omega]⟩
    exact ⟨q + 1, _, (by omega), (Ag.upd rfl (U4 rfl rfl rfl rfl (U4 rfl rfl rfl rfl (Ag.updL rfl (Ag.trans (Ag.sub rfl (Ag.mix _ _ _)) (Ag.upd rfl (Ag.upd rfl (Ag.upd rfl (Ag.upd rfl (Ag.upd rfl (Ag.upd rfl (Ag.upd rfl (Ag.updL rfl (Ag.mix _ _ _)))))))))))))), ⟨congrArg vi (by omega), rfl, trivial⟩, h_8, (by omega), (by omega), (by omega), hin2, rfl⟩
   ·refine WP.skip (inb_n (thn_n ?_))
    have hq4 := hq3 (by omega)
    have hk5 := fun h => p_14 ((sq_le (by omega) (by omega)).2 h)
    have he := isK_end (n := q + 1) (by omega) (by omega) hk2 (by omega) hk3 hk5
    rw [he] at c_15
    have hc := cnt_no hq1 hq4 c_15
    exact ⟨q + 1, _, (by omega), (U2 rfl rfl (U4 rfl rfl rfl rfl (Ag.updL rfl (Ag.trans (Ag.sub rfl (Ag.mix _ _ _)) (Ag.upd rfl (Ag.upd rfl (Ag.upd rfl (Ag.upd rfl (Ag.upd rfl (Ag.upd rfl (Ag.upd rfl (Ag.updL rfl (Ag.mix _ _ _))))))))))))), ⟨congrArg vi (by omega), rfl, trivial⟩, h_8, (by omega), (by omega), (by omega), (.inl (by omega)), rfl⟩
 ·have p_16 := of_decide_eq_false c_5
  refine WP.exit (thn_x (thn_x (inb_hit (thn_n (WP.seq (WP.reg ?_))))))
  refine qM (vu64 (UInt64.ofNat q)) rfl rfl (qA (vu64 (UInt64.ofNat q)) rfl rfl ?_)
  refine WL.nil (thn_n (WP.ret ?_))
  refine ret_of results144 (RV.tmp (v := (vu64 (UInt64.ofNat q))) rfl RV.nil) ?_
  have hx : cnt q = i + 1 := by omega
  have hy : primeL.getD i 0 = UInt64.ofNat q := hin.elim (fun h => by omega) (fun h => h.2)
  exact ⟨by rw [hy]; rfl, h_2.chgS⟩

theorem c_power2 (x p : UInt64) (w : World) :
  Cs Tryz.prog 163 [(vu64 x), (vi 2), (vu64 p)].toArray w (fun v w1 => v = (.bool (pow2 x p)) ∧ Chg w w1 []) := by
 refine Cs.of (n := 79) (args := [(vu64 x), (vi 2), (vu64 p)]) Tryz.func163 rfl rfl rfl ?_
 have h_0 := HP.init w
 refine WP.seq (WP.reg ?_)
 refine qA (.bool false) rfl rfl ?_
 refine WL.nil (thn_n (WP.seq (WP.reg ?_)))
 refine qM (vu64 x) rfl rfl (qM (vu64 x) rfl rfl ?_)
 refine WL.call Tryz.call175 rfl rfl (c_Mul64 x x _ ) rfl ?_
 rintro _ w_2 ⟨rfl, hc_1⟩
 have h_3 := h_0.same hc_1
 refine qM (.tuple [(vu64 (mulHi x x)), (vu64 (x * x))].toArray) rfl rfl (qV rfl (R.extract rfl rfl) (qV rfl (R.extract rfl rfl) (qA (vu64 (mulHi x x)) rfl rfl (qA (vu64 (x * x)) rfl rfl ?_))))
 refine WL.nil (thn_n (WP.seq (WP.seq (WP.reg ?_))))
 refine qM (vi 2) rfl rfl (qV rfl (R.bin rfl rfl (bi_eql (r := true) (by decide))) ?_)
 refine WL.nil (thn_n ?_)
 refine WP.condT rfl ?_
 refine WP.seq (WP.reg ?_)
 refine qM (vu64 (mulHi x x)) rfl rfl (qM (vu64 p) rfl rfl (qV rfl (R.bin (v := (.bool (decide ((mulHi x x : UInt64) < p)))) rfl rfl (b64_lss (mulHi x x) p (r := decide ((mulHi x x : UInt64) < p)) rfl)) (qM (.bool (decide ((mulHi x x : UInt64) < p))) rfl rfl ?_)))
 rcases Bool.eq_false_or_eq_true (decide ((mulHi x x : UInt64) < p)) with c_4 | c_4
 ·have p_5 := of_decide_eq_true c_4
  refine WL.skip rfl (congrArg Value.bool c_4) rfl ?_
  refine WL.skip rfl (congrArg Value.bool c_4) rfl ?_
  refine WL.skip rfl (congrArg Value.bool c_4) rfl ?_
  refine WL.skip rfl (congrArg Value.bool c_4) rfl ?_
  refine WL.skipU rfl rfl rfl ?_
  refine WL.skipU rfl rfl rfl ?_
  refine WL.skip rfl (congrArg Value.bool c_4) rfl ?_
  refine qV rfl (R.pickT (v := (.bool true)) (congrArg Value.bool c_4) rfl) (qA (.bool true) rfl rfl ?_)
  refine WL.nil (thn_n (WP.ret (thn_r ?_)))
  refine ret_of results163 (RV.tmp (v := (.bool true)) rfl RV.nil) ?_
  exact ⟨congrArg Value.bool (by simp only [pow2, c_4]; rfl), h_3.chgS⟩
 ·have p_6 := of_decide_eq_false c_4
  refine WL.want rfl (congrArg Value.bool c_4) ?_
  refine qM (vu64 (mulHi x x)) rfl rfl ?_
  refine WL.want rfl (congrArg Value.bool c_4) ?_
  refine qM (vu64 p) rfl rfl ?_
  refine WL.want rfl (congrArg Value.bool c_4) ?_
  refine qV rfl (R.bin (v := (.bool (decide ((mulHi x x : UInt64) = p)))) rfl rfl (b64_eql (mulHi x x) p (r := decide ((mulHi x x : UInt64) = p)) rfl)) ?_
  refine WL.want rfl (congrArg Value.bool c_4) ?_
  refine qM (.bool (decide ((mulHi x x : UInt64) = p))) rfl rfl ?_
  rcases Bool.eq_false_or_eq_true (decide ((mulHi x x : UInt64) = p)) with c_7 | c_7
  ·have p_8 := of_decide_eq_true c_7
   refine WL.want rfl (congrArg Value.bool c_7) ?_
   refine qM (vu64 (x * x)) rfl rfl ?_
   refine WL.want rfl (congrArg Value.bool c_7) ?_
   refine qV rfl (R.bin (v := (.bool (decide ((x * x : UInt64) = 0)))) rfl rfl (b64_eql (x * x) 0 (r := decide ((x * x : UInt64) = 0)) rfl)) ?_
   refine WL.want rfl (congrArg Value.bool c_4) ?_
   refine qV rfl (R.pickT (v := (.bool (decide ((x * x : UInt64) = 0)))) (congrArg Value.bool c_7) rfl) (qV rfl (R.pickF (v := (.bool (decide ((x * x : UInt64) = 0)))) (congrArg Value.bool c_4) rfl) (qA (.bool (decide ((x * x : UInt64) = 0))) rfl rfl ?_))
   refine WL.nil (thn_n (WP.ret (thn_r ?_)))
   refine ret_of results163 (RV.tmp (v := (.bool (decide ((x * x : UInt64) = 0)))) rfl RV.nil) ?_
   exact ⟨congrArg Value.bool (by simp only [pow2, c_4, c_7]; rfl), h_3.chgS⟩
  ·have p_9 := of_decide_eq_false c_7
   refine WL.skip rfl (congrArg Value.bool c_7) rfl ?_
   refine WL.skip rfl (congrArg Value.bool c_7) rfl ?_
   refine WL.want rfl (congrArg Value.bool c_4) ?_
   refine qV rfl (R.pickF (v := (.bool false)) (congrArg Value.bool c_7) rfl) (qV rfl (R.pickF (v := (.bool false)) (congrArg Value.bool c_4) rfl) (qA (.bool false) rfl rfl ?_))
   refine WL.nil (thn_n (WP.ret (thn_r ?_)))
   refine ret_of results163 (RV.tmp (v := (.bool false)) rfl RV.nil) ?_
   exact ⟨congrArg Value.bool (by simp only [pow2, c_4, c_7]; rfl), h_3.chgS⟩

theorem c_power3 (x p : UInt64) (w : World) :
  Cs Tryz.prog 163 [(vu64 x), (vi 3), (vu64 p)].toArray w (fun v w1 => v = (.bool (pow3 x p)) ∧ Chg w w1 []) := by
 refine Cs.of (n := 79) (args := [(vu64 x), (vi 3), (vu64 p)]) Tryz.func163 rfl rfl rfl ?_
 have h_0 := HP.init w
 refine WP.seq (WP.reg ?_)
 refine qA (.bool false) rfl rfl ?_
 refine WL.nil (thn_n (WP.seq (WP.reg ?_)))
 refine qM (vu64 x) rfl rfl (qM (vu64 x) rfl rfl ?_)
 refine WL.call Tryz.call175 rfl rfl (c_Mul64 x x _ ) rfl ?_
 rintro _ w_2 ⟨rfl, hc_1⟩
 have h_3 := h_0.same hc_1
 refine qM (.tuple [(vu64 (mulHi x x)), (vu64 (x * x))].toArray) rfl rfl (qV rfl (R.extract rfl rfl) (qV rfl (R.extract rfl rfl) (qA (vu64 (mulHi x x)) rfl rfl (qA (vu64 (x * x)) rfl rfl ?_))))
 refine WL.nil (thn_n (WP.seq (WP.seq (WP.reg ?_))))
 refine qM (vi 3) rfl rfl (qV rfl (R.bin rfl rfl (bi_eql (r := false) (by decide))) ?_)
 refine WL.nil (thn_n ?_)
 refine WP.condF rfl ?_
 refine WP.skip (thn_n (WP.seq (WP.reg ?_)))
 refine qM (vu64 (x * x)) rfl rfl (qM (vu64 x) rfl rfl ?_)
 refine WL.call Tryz.call175 rfl rfl (c_Mul64 (x * x) x _ ) rfl ?_
 rintro _ w_5 ⟨rfl, hc_4⟩
 have h_6 := h_3.same hc_4
 refine qM (.tuple [(vu64 (mulHi (x * x) x)), (vu64 ((x * x) * x))].toArray) rfl rfl (qV rfl (R.extract rfl rfl) (qV rfl (R.extract rfl rfl) (qA (vu64 (mulHi (x * x) x)) rfl rfl (qA (vu64 ((x * x) * x)) rfl rfl ?_))))
 refine WL.nil (thn_n (WP.seq (WP.reg ?_)))
 refine qM (vu64 (mulHi x x)) rfl rfl (qM (vu64 x) rfl rfl ?_)
 refine WL.call Tryz.call175 rfl rfl (c_Mul64 (mulHi x x) x _ ) rfl ?_
 rintro _ w_8 ⟨rfl, hc_7⟩
 have h_9 := h_6.same hc_7
 refine qM (.tuple [(vu64 (mulHi (mulHi x x) x)), (vu64 ((mulHi x x) * x))].toArray) rfl rfl (qV rfl (R.extract rfl rfl) (qV rfl (R.extract rfl rfl) (qA (vu64 (mulHi (mulHi x x) x)) rfl rfl (qA (vu64 ((mulHi x x) * x)) rfl rfl ?_))))
 refine WL.nil (thn_n (WP.seq (WP.reg ?_)))
 refine qM (vu64 (mulHi (x * x) x)) rfl rfl (qM (vu64 ((mulHi x x) * x)) rfl rfl (qV rfl (R.native (al := [(vu64 (mulHi (x * x) x)), (vu64 ((mulHi x x) * x)), (vu64 0)]) (v := (.tuple [(vu64 ((mulHi (x * x) x) + ((mulHi x x) * x))), (vu64 (cry (mulHi (x * x) x) ((mulHi x x) * x)))].toArray)) rfl rfl (nat_add64 Tryz.func176 (by kernel_rfl) (by kernel_rfl) (by kernel_rfl) (by kernel_rfl) (mulHi (x * x) x) ((mulHi x x) * x))) (qM (.tuple [(vu64 ((mulHi (x * x) x) + ((mulHi x x) * x))), (vu64 (cry (mulHi (x * x) x) ((mulHi x x) * x)))].toArray) rfl rfl (qV rfl (R.extract rfl rfl) (qV rfl (R.extract rfl rfl) (qA (vu64 ((mulHi (x * x) x) + ((mulHi x x) * x))) rfl rfl (qA (vu64 (cry (mulHi (x * x) x) ((mulHi x x) * x))) rfl rfl ?_)))))))
 refine WL.nil (thn_n (WP.seq (WP.reg ?_)))
 refine qM (vu64 (mulHi (mulHi x x) x)) rfl rfl (qM (vu64 (cry (mulHi (x * x) x) ((mulHi x x) * x))) rfl rfl (qV rfl (R.bin rfl rfl (b64_add (mulHi (mulHi x x) x) (cry (mulHi (x * x) x) ((mulHi x x) * x)))) (qA (vu64 ((mulHi (mulHi x x) x) + (cry (mulHi (x * x) x) ((mulHi x x) * x)))) rfl rfl ?_)))
 refine WL.nil (thn_n (WP.seq (WP.seq (WP.reg ?_))))
 refine qM (vu64 ((mulHi (mulHi x x) x) + (cry (mulHi (x * x) x) ((mulHi x x) * x)))) rfl rfl (qM (vu64 p) rfl rfl (qV rfl (R.binR (v := vu64 (shr64 p 32)) rfl rfl (run_shr64 _ _ _ p _ 32)) (qV rfl (R.bin (v := (.bool (decide (((mulHi (mulHi x x) x) + (cry (mulHi (x * x) x) ((mulHi x x) * x)) : UInt64) ≠ (shr64 p 32))))) rfl rfl (b64_neq ((mulHi (mulHi x x) x) + (cry (mulHi (x * x) x) ((mulHi x x) * x))) (shr64 p 32) (r := decide (((mulHi (mulHi x x) x) + (cry (mulHi (x * x) x) ((mulHi x x) * x)) : UInt64) ≠ (shr64 p 32))) rfl)) ?_)))
 refine WL.nil (thn_n ?_)
 refine WP.cond (b := decide (((mulHi (mulHi x x) x) + (cry (mulHi (x * x) x) ((mulHi x x) * x)) : UInt64) ≠ (shr64 p 32))) rfl (fun c_10 => ?_) (fun c_10 => ?_)
 ·have p_11 := of_decide_eq_true c_10
  refine WP.seq (WP.reg ?_)
  refine qM (vu64 ((mulHi (mulHi x x) x) + (cry (mulHi (x * x) x) ((mulHi x x) * x)))) rfl rfl (qM (vu64 p) rfl rfl (qV rfl (R.binR (v := vu64 (shr64 p 32)) rfl rfl (run_shr64 _ _ _ p _ 32)) (qV rfl (R.bin (v := (.bool (decide (((mulHi (mulHi x x) x) + (cry (mulHi (x * x) x) ((mulHi x x) * x)) : UInt64) < (shr64 p 32))))) rfl rfl (b64_lss ((mulHi (mulHi x x) x) + (cry (mulHi (x * x) x) ((mulHi x x) * x))) (shr64 p 32) (r := decide (((mulHi (mulHi x x) x) + (cry (mulHi (x * x) x) ((mulHi x x) * x)) : UInt64) < (shr64 p 32))) rfl)) (qA (.bool (decide (((mulHi (mulHi x x) x) + (cry (mulHi (x * x) x) ((mulHi x x) * x)) : UInt64) < (shr64 p 32)))) rfl rfl ?_))))
  refine WL.nil (thn_n (WP.ret (thn_r ?_)))
  refine ret_of results163 (RV.tmp (v := (.bool (decide (((mulHi (mulHi x x) x) + (cry (mulHi (x * x) x) ((mulHi x x) * x)) : UInt64) < (shr64 p 32))))) rfl RV.nil) ?_
  exact ⟨congrArg Value.bool (by unfold pow3 cubM cubN; rw [if_pos p_11]), h_9.chgS⟩
 ·have p_12 := of_decide_eq_false c_10
  refine WP.skip (thn_n (WP.seq (WP.reg ?_)))
  refine qM (vu64 ((mulHi (x * x) x) + ((mulHi x x) * x))) rfl rfl (qM (vu64 p) rfl rfl (qV rfl (R.binR (v := vu64 (shl64 p 32)) rfl rfl (run_shl64 _ _ _ p _ 32)) (qV rfl (R.bin (v := (.bool (decide (((mulHi (x * x) x) + ((mulHi x x) * x) : UInt64) < (shl64 p 32))))) rfl rfl (b64_lss ((mulHi (x * x) x) + ((mulHi x x) * x)) (shl64 p 32) (r := decide (((mulHi (x * x) x) + ((mulHi x x) * x) : UInt64) < (shl64 p 32))) rfl)) (qM (.bool (decide (((mulHi (x * x) x) + ((mulHi x x) * x) : UInt64) < (shl64 p 32)))) rfl rfl ?_))))
  rcases Bool.eq_false_or_eq_true (decide (((mulHi (x * x) x) + ((mulHi x x) * x) : UInt64) < (shl64 p 32))) with c_13 | c_13
  ·have p_14 := of_decide_eq_true c_13
   refine WL.skip rfl (congrArg Value.bool c_13) rfl ?_
   refine WL.skip rfl (congrArg Value.bool c_13) rfl ?_
   refine WL.skip rfl (congrArg Value.bool c_13) rfl ?_
   refine WL.skip rfl (congrArg Value.bool c_13) rfl ?_
   refine WL.skip rfl (congrArg Value.bool c_13) rfl ?_
   refine WL.skipU rfl rfl rfl ?_
   refine WL.skipU rfl rfl rfl ?_
   refine WL.skip rfl (congrArg Value.bool c_13) rfl ?_
   refine qV rfl (R.pickT (v := (.bool true)) (congrArg Value.bool c_13) rfl) (qA (.bool true) rfl rfl ?_)
   refine WL.nil (thn_n (WP.ret ?_))
   refine ret_of results163 (RV.tmp (v := (.bool true)) rfl RV.nil) ?_
   exact ⟨congrArg Value.bool (by unfold pow3 cubM cubN; rw [if_neg p_12]; simp only [c_13]; rfl), h_9.chgS⟩
  ·have p_15 := of_decide_eq_false c_13
   refine WL.want rfl (congrArg Value.bool c_13) ?_
   refine qM (vu64 ((mulHi (x * x) x) + ((mulHi x x) * x))) rfl rfl ?_
   refine WL.want rfl (congrArg Value.bool c_13) ?_
   refine qM (vu64 p) rfl rfl ?_
   refine WL.want rfl (congrArg Value.bool c_13) ?_
   refine qV rfl (R.binR (v := vu64 (shl64 p 32)) rfl rfl (run_shl64 _ _ _ p _ 32)) ?_
   refine WL.want rfl (congrArg Value.bool c_13) ?_
   refine qV rfl (R.bin (v := (.bool (decide (((mulHi (x * x) x) + ((mulHi x x) * x) : UInt64) = (shl64 p 32))))) rfl rfl (b64_eql ((mulHi (x * x) x) + ((mulHi x x) * x)) (shl64 p 32) (r := decide (((mulHi (x * x) x) + ((mulHi x x) * x) : UInt64) = (shl64 p 32))) rfl)) ?_
   refine WL.want rfl (congrArg Value.bool c_13) ?_
   refine qM (.bool (decide (((mulHi (x * x) x) + ((mulHi x x) * x) : UInt64) = (shl64 p 32)))) rfl rfl ?_
   rcases Bool.eq_false_or_eq_true (decide (((mulHi (x * x) x) + ((mulHi x x) * x) : UInt64) = (shl64 p 32))) with c_16 | c_16
   ·have p_17 := of_decide_eq_true c_16
    refine WL.want rfl (congrArg Value.bool c_16) ?_
    refine qM (vu64 ((x * x) * x)) rfl rfl ?_
    refine WL.want rfl (congrArg Value.bool c_16) ?_
    refine qV rfl (R.bin (v := (.bool (decide (((x * x) * x : UInt64) = 0)))) rfl rfl (b64_eql ((x * x) * x) 0 (r := decide (((x * x) * x : UInt64) = 0)) rfl)) ?_
    refine WL.want rfl (congrArg Value.bool c_13) ?_
    refine qV rfl (R.pickT (v := (.bool (decide (((x * x) * x : UInt64) = 0)))) (congrArg Value.bool c_16) rfl) (qV rfl (R.pickF (v := (.bool (decide (((x * x) * x : UInt64) = 0)))) (congrArg Value.bool c_13) rfl) (qA (.bool (decide (((x * x) * x : UInt64) = 0))) rfl rfl ?_))
    refine WL.nil (thn_n (WP.ret ?_))
    refine ret_of results163 (RV.tmp (v := (.bool (decide (((x * x) * x : UInt64) = 0)))) rfl RV.nil) ?_
    exact ⟨congrArg Value.bool (by unfold pow3 cubM cubN; rw [if_neg p_12]; simp only [c_13, c_16]; rfl), h_9.chgS⟩
   ·have p_18 := of_decide_eq_false c_16
    refine WL.skip rfl (congrArg Value.bool c_16) rfl ?_
    refine WL.skip rfl (congrArg Value.bool c_16) rfl ?_
    refine WL.want rfl (congrArg Value.bool c_13) ?_
    refine qV rfl (R.pickF (v := (.bool false)) (congrArg Value.bool c_16) rfl) (qV rfl (R.pickF (v := (.bool false)) (congrArg Value.bool c_13) rfl) (qA (.bool false) rfl rfl ?_))
    refine WL.nil (thn_n (WP.ret ?_))
    refine ret_of results163 (RV.tmp (v := (.bool false)) rfl RV.nil) ?_
    exact ⟨congrArg Value.bool (by unfold pow3 cubM cubN; rw [if_neg p_12]; simp only [c_13, c_16]; rfl), h_9.chgS⟩

theorem c_rootR2 (p : UInt64) (w : World) :
  Cs Tryz.prog 143 [(vu64 p), (vi 2)].toArray w (fun v w1 => v = (vu32 (rootR (fun x => pow2 x p))) ∧ Chg w w1 []) := by
 refine Cs.of (n := 24) (args := [(vu64 p), (vi 2)]) Tryz.func143 rfl rfl rfl ?_
 have h_0 := HP.init w
 refine WP.seq (WP.reg ?_)
 refine qA (vu32 0) rfl rfl ?_
 refine WL.nil (thn_n (WP.seq (WP.reg ?_)))
 refine qA (vu64 0) rfl rfl ?_
 refine WL.nil (thn_n (WP.seq (WP.seq (WP.reg ?_))))
 refine qA (vi 37) rfl rfl ?_
 refine WL.nil (thn_n (WP.block ?_))
 refine WP.loopG (G := Nat) [5, 6, 7, 8, 9, 10, 11, 12, 13, 14, 15, 16, 17, 18, 19, 20, 21] (fun j => [(5, (vu64 (rgF (fun x => pow2 x p) j))), (6, (vi (37 - (j : Int))))]) (fun j m w1 => HP w w1 [] ∧ (j ≤ 38) ∧ m = 38 - j) ⟨0, _, ⟨rfl, rfl, trivial⟩, h_0, (by omega), rfl⟩ ?_
 rintro j m_3 J_4 w_1 ⟨h_2, hj, rfl⟩
 have ek : j < 38 → (UInt64.ofNat (37 - j)).toNat = 37 - j := fun _ => nat64 (by omega)
 refine WP.seq (WP.seq (WP.reg ?_))
 refine qM (vi (37 - (j : Int))) rfl rfl (qV rfl (R.bin rfl rfl (bi_geq (r := decide ((37 - (j : Int) : Int) ≥ 0)) rfl)) ?_)
 refine WL.nil (thn_n ?_)
 refine WP.cond (b := decide ((37 - (j : Int) : Int) ≥ 0)) rfl (fun c_5 => ?_) (fun c_5 => ?_)
 ·have p_6 := of_decide_eq_true c_5
  refine WP.skip (thn_n (WP.seq (WP.block (WP.seq (WP.reg ?_)))))
  refine qM (vu64 (rgF (fun x => pow2 x p) j)) rfl rfl (qV rfl (R.move (v := (vn (37 - j))) (congrArg vi (show (37 : Int) - (j : Int) = ((37 - j : Nat) : Int) by omega))) (qV rfl (R.conv (b := ((UInt64.ofNat (37 - j)) : UInt64).toNat) rfl underlying3 underlying168 (w64_nat (37 - j))) (qV rfl (R.binR (v := vu64 (shl64 1 ((UInt64.ofNat (37 - j)).toNat))) rfl rfl (run_shl64 _ _ _ 1 _ ((UInt64.ofNat (37 - j)).toNat))) (qV rfl (R.bin rfl rfl (b64_add (rgF (fun x => pow2 x p) j) (shl64 1 ((UInt64.ofNat (37 - j)).toNat)))) (qA (vu64 ((rgF (fun x => pow2 x p) j) + (shl64 1 ((UInt64.ofNat (37 - j)).toNat)))) rfl rfl ?_)))))
  refine WL.nil (thn_n (WP.seq (WP.reg ?_)))
  refine qM (vu64 ((rgF (fun x => pow2 x p) j) + (shl64 1 ((UInt64.ofNat (37 - j)).toNat)))) rfl rfl (qM (vi 2) rfl rfl (qM (vu64 p) rfl rfl ?_))
  refine WL.call Tryz.call163 rfl rfl (c_power2 ((rgF (fun x => pow2 x p) j) + (shl64 1 ((UInt64.ofNat (37 - j)).toNat))) p _ ) rfl ?_
  rintro _ w_8 ⟨rfl, hc_7⟩
  have h_9 := h_2.same hc_7
  refine WL.nil (thn_n ?_)
  refine WP.cond (b := pow2 ((rgF (fun x => pow2 x p) j) + (shl64 1 ((UInt64.ofNat (37 - j)).toNat))) p) rfl (fun c_10 => ?_) (fun c_10 => ?_)
  ·refine WP.reg ?_
   refine qM (vu64 ((rgF (fun x => pow2 x p) j) + (shl64 1 ((UInt64.ofNat (37 - j)).toNat)))) rfl rfl (qA (vu64 ((rgF (fun x => pow2 x p) j) + (shl64 1 ((UInt64.ofNat (37 - j)).toNat)))) rfl rfl ?_)
   refine WL.nil (inb_n (thn_n (WP.reg ?_)))
   refine qM (vi (37 - (j : Int))) rfl rfl (qV rfl (R.bin rfl rfl (bi_sub (c := (37 - (j : Int)) - 1) (by omega) (by omega))) (qA (vi ((37 - (j : Int)) - 1)) rfl rfl ?_))
   refine WL.nil (thn_n ?_)
   rw [ek (by omega)] at c_10
   exact ⟨j + 1, _, (by omega), (Ag.upd rfl (U4 rfl rfl rfl rfl (U4 rfl rfl rfl rfl (U4 rfl rfl rfl rfl (U4 rfl rfl rfl rfl (Ag.updL rfl (Ag.mix _ _ _))))))), ⟨congrArg (fun x : UInt64 => vu64 x) (by rw [ek (by omega)]; exact rg_yes (f := (fun x => pow2 x p)) c_10), congrArg vi (by omega), trivial⟩, h_9, (by omega), rfl⟩
  ·refine WP.skip (inb_n (thn_n (WP.reg ?_)))
   refine qM (vi (37 - (j : Int))) rfl rfl (qV rfl (R.bin rfl rfl (bi_sub (c := (37 - (j : Int)) - 1) (by omega) (by omega))) (qA (vi ((37 - (j : Int)) - 1)) rfl rfl ?_))
   refine WL.nil (thn_n ?_)
   rw [ek (by omega)] at c_10
   exact ⟨j + 1, _, (by omega), (Ag.upd rfl (U2 rfl rfl (U4 rfl rfl rfl rfl (U4 rfl rfl rfl rfl (U4 rfl rfl rfl rfl (Ag.updL rfl (Ag.mix _ _ _))))))), ⟨congrArg (fun x : UInt64 => vu64 x) (rg_no (f := (fun x => pow2 x p)) c_10), congrArg vi (by omega), trivial⟩, h_9, (by omega), rfl⟩
 ·have p_11 := of_decide_eq_false c_5
  refine WP.exit (thn_x (thn_x (inb_hit (thn_n (WP.seq (WP.reg ?_))))))
  refine qM (vu64 (rgF (fun x => pow2 x p) j)) rfl rfl (qV rfl (R.conv (b := ((UInt32.ofNat ((rgF (fun x => pow2 x p) j).toNat)) : UInt32).toNat) rfl underlying27 underlying169 (w32_nat ((rgF (fun x => pow2 x p) j).toNat))) (qA (vu32 (UInt32.ofNat ((rgF (fun x => pow2 x p) j).toNat))) rfl rfl ?_))
  refine WL.nil (thn_n (WP.ret ?_))
  refine ret_of results143 (RV.tmp (v := (vu32 (UInt32.ofNat ((rgF (fun x => pow2 x p) j).toNat)))) rfl RV.nil) ?_
  have hj38 : j = 38 := by omega
  subst hj38
  exact ⟨rfl, h_2.chgS⟩

theorem c_rootR3 (p : UInt64) (w : World) :
  Cs Tryz.prog 143 [(vu64 p), (vi 3)].toArray w (fun v w1 => v = (vu32 (rootR (fun x => pow3 x p))) ∧ Chg w w1 []) := by
 refine Cs.of (n := 24) (args := [(vu64 p), (vi 3)]) Tryz.func143 rfl rfl rfl ?_
 have h_0 := HP.init w
 refine WP.seq (WP.reg ?_)
 refine qA (vu32 0) rfl rfl ?_
 refine WL.nil (thn_n (WP.seq (WP.reg ?_)))
 refine qA (vu64 0) rfl rfl ?_
 refine WL.nil (thn_n (WP.seq (WP.seq (WP.reg ?_))))
 refine qA (vi 37) rfl rfl ?_
 refine WL.nil (thn_n (WP.block ?_))
 refine WP.loopG (G := Nat) [5, 6, 7, 8, 9, 10, 11, 12, 13, 14, 15, 16, 17, 18, 19, 20, 21] (fun j => [(5, (vu64 (rgF (fun x => pow3 x p) j))), (6, (vi (37 - (j : Int))))]) (fun j m w1 => HP w w1 [] ∧ (j ≤ 38) ∧ m = 38 - j) ⟨0, _, ⟨rfl, rfl, trivial⟩, h_0, (by omega), rfl⟩ ?_
 rintro j m_3 J_4 w_1 ⟨h_2, hj, rfl⟩
 have ek : j < 38 → (UInt64.ofNat (37 - j)).toNat = 37 - j := fun _ => nat64 (by omega)
 refine WP.seq (WP.seq (WP.reg ?_))
 refine qM (vi (37 - (j : Int))) rfl rfl (qV rfl (R.bin rfl rfl (bi_geq (r := decide ((37 - (j : Int) : Int) ≥ 0)) rfl)) ?_)
 refine WL.nil (thn_n ?_)
 refine WP.cond (b := decide ((37 - (j : Int) : Int) ≥ 0)) rfl (fun c_5 => ?_) (fun c_5 => ?_)
 ·have p_6 := of_decide_eq_true c_5
  refine WP.skip (thn_n (WP.seq (WP.block (WP.seq (WP.reg ?_)))))
  refine qM (vu64 (rgF (fun x => pow3 x p) j)) rfl rfl (qV rfl (R.move (v := (vn (37 - j))) (congrArg vi (show (37 : Int) - (j : Int) = ((37 - j : Nat) : Int) by omega))) (qV rfl (R.conv (b := ((UInt64.ofNat (37 - j)) : UInt64).toNat) rfl underlying3 underlying168 (w64_nat (37 - j))) (qV rfl (R.binR (v := vu64 (shl64 1 ((UInt64.ofNat (37 - j)).toNat))) rfl rfl (run_shl64 _ _ _ 1 _ ((UInt64.ofNat (37 - j)).toNat))) (qV rfl (R.bin rfl rfl (b64_add (rgF (fun x => pow3 x p) j) (shl64 1 ((UInt64.ofNat (37 - j)).toNat)))) (qA (vu64 ((rgF (fun x => pow3 x p) j) + (shl64 1 ((UInt64.ofNat (37 - j)).toNat)))) rfl rfl ?_)))))
  refine WL.nil (thn_n (WP.seq (WP.reg ?_)))
  refine qM (vu64 ((rgF (fun x => pow3 x p) j) + (shl64 1 ((UInt64.ofNat (37 - j)).toNat)))) rfl rfl (qM (vi 3) rfl rfl (qM (vu64 p) rfl rfl ?_))
  refine WL.call Tryz.call163 rfl rfl (c_power3 ((rgF (fun x => pow3 x p) j) + (shl64 1 ((UInt64.ofNat (37 - j)).toNat))) p _ ) rfl ?_
  rintro _ w_8 ⟨rfl, hc_7⟩
  have h_9 := h_2.same hc_7
  refine WL.nil (thn_n ?_)
  refine WP.cond (b := pow3 ((rgF (fun x => pow3 x p) j) + (shl64 1 ((UInt64.ofNat (37 - j)).toNat))) p) rfl (fun c_10 => ?_) (fun c_10 => ?_)
  ·refine WP.reg ?_
   refine qM (vu64 ((rgF (fun x => pow3 x p) j) + (shl64 1 ((UInt64.ofNat (37 - j)).toNat)))) rfl rfl (qA (vu64 ((rgF (fun x => pow3 x p) j) + (shl64 1 ((UInt64.ofNat (37 - j)).toNat)))) rfl rfl ?_)
   refine WL.nil (inb_n (thn_n (WP.reg ?_)))
   refine qM (vi (37 - (j : Int))) rfl rfl (qV rfl (R.bin rfl rfl (bi_sub (c := (37 - (j : Int)) - 1) (by omega) (by omega))) (qA (vi ((37 - (j : Int)) - 1)) rfl rfl ?_))
   refine WL.nil (thn_n ?_)
   rw [ek (by omega)] at c_10
   exact ⟨j + 1, _, (by omega), (Ag.upd rfl (U4 rfl rfl rfl rfl (U4 rfl rfl rfl rfl (U4 rfl rfl rfl rfl (U4 rfl rfl rfl rfl (Ag.updL rfl (Ag.mix _ _ _))))))), ⟨congrArg (fun x : UInt64 => vu64 x) (by rw [ek (by omega)]; exact rg_yes (f := (fun x => pow3 x p)) c_10), congrArg vi (by omega), trivial⟩, h_9, (by omega), rfl⟩
  ·refine WP.skip (inb_n (thn_n (WP.reg ?_)))
   refine qM (vi (37 - (j : Int))) rfl rfl (qV rfl (R.bin rfl rfl (bi_sub (c := (37 - (j : Int)) - 1) (by omega) (by omega))) (qA (vi ((37 - (j : Int)) - 1)) rfl rfl ?_))
   refine WL.nil (thn_n ?_)
   rw [ek (by omega)] at c_10
   exact ⟨j + 1, _, (by omega), (Ag.upd rfl (U2 rfl rfl (U4 rfl rfl rfl rfl (U4 rfl rfl rfl rfl (U4 rfl rfl rfl rfl (Ag.updL rfl (Ag.mix _ _ _))))))), ⟨congrArg (fun x : UInt64 => vu64 x) (rg_no (f := (fun x => pow3 x p)) c_10), congrArg vi (by omega), trivial⟩, h_9, (by omega), rfl⟩
 ·have p_11 := of_decide_eq_false c_5
  refine WP.exit (thn_x (thn_x (inb_hit (thn_n (WP.seq (WP.reg ?_))))))
  refine qM (vu64 (rgF (fun x => pow3 x p) j)) rfl rfl (qV rfl (R.conv (b := ((UInt32.ofNat ((rgF (fun x => pow3 x p) j).toNat)) : UInt32).toNat) rfl underlying27 underlying169 (w32_nat ((rgF (fun x => pow3 x p) j).toNat))) (qA (vu32 (UInt32.ofNat ((rgF (fun x => pow3 x p) j).toNat))) rfl rfl ?_))
  refine WL.nil (thn_n (WP.ret ?_))
  refine ret_of results143 (RV.tmp (v := (vu32 (UInt32.ofNat ((rgF (fun x => pow3 x p) j).toNat)))) rfl RV.nil) ?_
  have hj38 : j = 38 := by omega
  subst hj38
  exact ⟨rfl, h_2.chgS⟩

theorem c_ConstantR_lo (i : Int) (h : i < 0) (w : World) :
  Cs Tryz.prog 145 [(vi i)].toArray w (fun v w1 => v = (vu32 0) ∧ Chg w w1 []) := by
 refine Cs.of (n := 12) (args := [(vi i)]) Tryz.func145 rfl rfl rfl ?_
 have h_0 := HP.init w
 refine WP.seq (WP.reg ?_)
 refine qA (vu32 0) rfl rfl ?_
 refine WL.nil (thn_n (WP.seq (WP.seq (WP.reg ?_))))
 refine qM (vi i) rfl rfl (qV rfl (R.bin rfl rfl (bi_lss (r := decide ((i : Int) < 0)) rfl)) (qM (.bool (decide ((i : Int) < 0))) rfl rfl ?_))
 refine WL.skip rfl (congrArg Value.bool (decide_eq_true h)) rfl ?_
 refine WL.skip rfl (congrArg Value.bool (decide_eq_true h)) rfl ?_
 refine qV rfl (R.pickT (v := (.bool true)) (congrArg Value.bool (decide_eq_true h)) rfl) ?_
 refine WL.nil (thn_n ?_)
 refine WP.condT rfl ?_
 refine WP.seq (WP.reg ?_)
 refine qA (vu32 0) rfl rfl ?_
 refine WL.nil (thn_n (WP.ret (thn_r ?_)))
 refine ret_of results145 (RV.tmp (v := (vu32 0)) rfl RV.nil) ?_
 exact ⟨rfl, h_0.chgS⟩

theorem c_ConstantR_hi (i : Int) (h : ¬ i < 0) (h2 : 63 < i) (w : World) :
  Cs Tryz.prog 145 [(vi i)].toArray w (fun v w1 => v = (vu32 0) ∧ Chg w w1 []) := by
 refine Cs.of (n := 12) (args := [(vi i)]) Tryz.func145 rfl rfl rfl ?_
 have h_0 := HP.init w
 refine WP.seq (WP.reg ?_)
 refine qA (vu32 0) rfl rfl ?_
 refine WL.nil (thn_n (WP.seq (WP.seq (WP.reg ?_))))
 refine qM (vi i) rfl rfl (qV rfl (R.bin rfl rfl (bi_lss (r := decide ((i : Int) < 0)) rfl)) (qM (.bool (decide ((i : Int) < 0))) rfl rfl ?_))
 refine WL.want rfl (congrArg Value.bool (decide_eq_false h)) ?_
 refine qM (vi i) rfl rfl ?_
 refine WL.want rfl (congrArg Value.bool (decide_eq_false h)) ?_
 refine qV rfl (R.bin rfl rfl (bi_gtr (r := decide ((i : Int) > 63)) rfl)) (qV rfl (R.pickF (v := (.bool (decide ((i : Int) > 63)))) (congrArg Value.bool (decide_eq_false h)) rfl) ?_)
 refine WL.nil (thn_n ?_)
 refine WP.condT (congrArg Value.bool (decide_eq_true h2)) ?_
 refine WP.seq (WP.reg ?_)
 refine qA (vu32 0) rfl rfl ?_
 refine WL.nil (thn_n (WP.ret (thn_r ?_)))
 refine ret_of results145 (RV.tmp (v := (vu32 0)) rfl RV.nil) ?_
 exact ⟨rfl, h_0.chgS⟩

theorem c_ConstantR_n (i : Nat) (h : i < 64) (w : World) :
  Cs Tryz.prog 145 [(vi ((i : Nat) : Int))].toArray w (fun v w1 => v = (vu32 (kL.getD i 0)) ∧ Chg w w1 []) := by
 refine Cs.of (n := 12) (args := [(vn i)]) Tryz.func145 rfl rfl rfl ?_
 have h_0 := HP.init w
 refine WP.seq (WP.reg ?_)
 refine qA (vu32 0) rfl rfl ?_
 refine WL.nil (thn_n (WP.seq (WP.seq (WP.reg ?_))))
 refine qM (vn i) rfl rfl (qV rfl (R.bin rfl rfl (bi_lss (r := decide ((((i : Nat) : Int) : Int) < 0)) rfl)) (qM (.bool (decide ((((i : Nat) : Int) : Int) < 0))) rfl rfl ?_))
 refine WL.want rfl (congrArg Value.bool (decide_eq_false (by omega))) ?_
 refine qM (vn i) rfl rfl ?_
 refine WL.want rfl (congrArg Value.bool (decide_eq_false (by omega))) ?_
 refine qV rfl (R.bin rfl rfl (bi_gtr (r := decide ((((i : Nat) : Int) : Int) > 63)) rfl)) (qV rfl (R.pickF (v := (.bool (decide ((((i : Nat) : Int) : Int) > 63)))) (congrArg Value.bool (decide_eq_false (by omega))) rfl) ?_)
 refine WL.nil (thn_n ?_)
 refine WP.condF (congrArg Value.bool (decide_eq_false (by omega))) ?_
 refine WP.skip (thn_n (WP.seq (WP.reg ?_)))
 refine qM (vn i) rfl rfl ?_
 refine WL.call Tryz.call144 rfl rfl (c_prime i (by omega) _ ) rfl ?_
 rintro _ w_2 ⟨rfl, hc_1⟩
 have h_3 := h_0.same hc_1
 refine WL.call Tryz.call143 rfl rfl (c_rootR3 (primeL.getD i 0) _ ) rfl ?_
 rintro _ w_5 ⟨rfl, hc_4⟩
 have h_6 := h_3.same hc_4
 refine qA (vu32 (rootR (fun x => pow3 x (primeL.getD i 0)))) rfl rfl ?_
 refine WL.nil (thn_n (WP.ret ?_))
 refine ret_of results145 (RV.tmp (v := (vu32 (rootR (fun x => pow3 x (primeL.getD i 0))))) rfl RV.nil) ?_
 exact ⟨congrArg (fun x : UInt32 => vu32 x) (tabKR i h), h_6.chgS⟩

theorem c_ConstantR (i : Int) (w : World) : Cs Tryz.prog 145 [vi i].toArray w (fun v w1 => v = vu32 (kAt i) ∧ Chg w w1 []) := by
 by_cases h : i < 0
 ·rw [kAt_no (.inl h)]; exact c_ConstantR_lo i h w
 by_cases h2 : 63 < i
 ·rw [kAt_no (.inr h2)]; exact c_ConstantR_hi i h h2 w
 obtain ⟨q, rfl⟩ : ∃ q : Nat, i = (q : Int) := ⟨i.toNat, by omega⟩
 rw [kAt_nat (by omega)]; exact c_ConstantR_n q (by omega) w

theorem c_StartR_lo (i : Int) (h : i < 0) (w : World) :
  Cs Tryz.prog 122 [(vi i)].toArray w (fun v w1 => v = (vu32 0) ∧ Chg w w1 []) := by
 refine Cs.of (n := 12) (args := [(vi i)]) Tryz.func122 rfl rfl rfl ?_
 have h_0 := HP.init w
 refine WP.seq (WP.reg ?_)
 refine qA (vu32 0) rfl rfl ?_
 refine WL.nil (thn_n (WP.seq (WP.seq (WP.reg ?_))))
 refine qM (vi i) rfl rfl (qV rfl (R.bin rfl rfl (bi_lss (r := decide ((i : Int) < 0)) rfl)) (qM (.bool (decide ((i : Int) < 0))) rfl rfl ?_))
 refine WL.skip rfl (congrArg Value.bool (decide_eq_true h)) rfl ?_
 refine WL.skip rfl (congrArg Value.bool (decide_eq_true h)) rfl ?_
 refine qV rfl (R.pickT (v := (.bool true)) (congrArg Value.bool (decide_eq_true h)) rfl) ?_
 refine WL.nil (thn_n ?_)
 refine WP.condT rfl ?_
 refine WP.seq (WP.reg ?_)
 refine qA (vu32 0) rfl rfl ?_
 refine WL.nil (thn_n (WP.ret (thn_r ?_)))
 refine ret_of results122 (RV.tmp (v := (vu32 0)) rfl RV.nil) ?_
 exact ⟨rfl, h_0.chgS⟩

theorem c_StartR_hi (i : Int) (h : ¬ i < 0) (h2 : 7 < i) (w : World) :
  Cs Tryz.prog 122 [(vi i)].toArray w (fun v w1 => v = (vu32 0) ∧ Chg w w1 []) := by
 refine Cs.of (n := 12) (args := [(vi i)]) Tryz.func122 rfl rfl rfl ?_
 have h_0 := HP.init w
 refine WP.seq (WP.reg ?_)
 refine qA (vu32 0) rfl rfl ?_
 refine WL.nil (thn_n (WP.seq (WP.seq (WP.reg ?_))))
 refine qM (vi i) rfl rfl (qV rfl (R.bin rfl rfl (bi_lss (r := decide ((i : Int) < 0)) rfl)) (qM (.bool (decide ((i : Int) < 0))) rfl rfl ?_))
 refine WL.want rfl (congrArg Value.bool (decide_eq_false h)) ?_
 refine qM (vi i) rfl rfl ?_
 refine WL.want rfl (congrArg Value.bool (decide_eq_false h)) ?_
 refine qV rfl (R.bin rfl rfl (bi_gtr (r := decide ((i : Int) > 7)) rfl)) (qV rfl (R.pickF (v := (.bool (decide ((i : Int) > 7)))) (congrArg Value.bool (decide_eq_false h)) rfl) ?_)
 refine WL.nil (thn_n ?_)
 refine WP.condT (congrArg Value.bool (decide_eq_true h2)) ?_
 refine WP.seq (WP.reg ?_)
 refine qA (vu32 0) rfl rfl ?_
 refine WL.nil (thn_n (WP.ret (thn_r ?_)))
 refine ret_of results122 (RV.tmp (v := (vu32 0)) rfl RV.nil) ?_
 exact ⟨rfl, h_0.chgS⟩

theorem c_StartR_n (i : Nat) (h : i < 8) (w : World) :
  Cs Tryz.prog 122 [(vi ((i : Nat) : Int))].toArray w (fun v w1 => v = (vu32 (hL.getD i 0)) ∧ Chg w w1 []) := by
 refine Cs.of (n := 12) (args := [(vn i)]) Tryz.func122 rfl rfl rfl ?_
 have h_0 := HP.init w
 refine WP.seq (WP.reg ?_)
 refine qA (vu32 0) rfl rfl ?_
 refine WL.nil (thn_n (WP.seq (WP.seq (WP.reg ?_))))
 refine qM (vn i) rfl rfl (qV rfl (R.bin rfl rfl (bi_lss (r := decide ((((i : Nat) : Int) : Int) < 0)) rfl)) (qM (.bool (decide ((((i : Nat) : Int) : Int) < 0))) rfl rfl ?_))
 refine WL.want rfl (congrArg Value.bool (decide_eq_false (by omega))) ?_
 refine qM (vn i) rfl rfl ?_
 refine WL.want rfl (congrArg Value.bool (decide_eq_false (by omega))) ?_
 refine qV rfl (R.bin rfl rfl (bi_gtr (r := decide ((((i : Nat) : Int) : Int) > 7)) rfl)) (qV rfl (R.pickF (v := (.bool (decide ((((i : Nat) : Int) : Int) > 7)))) (congrArg Value.bool (decide_eq_false (by omega))) rfl) ?_)
 refine WL.nil (thn_n ?_)
 refine WP.condF (congrArg Value.bool (decide_eq_false (by omega))) ?_
 refine WP.skip (thn_n (WP.seq (WP.reg ?_)))
 refine qM (vn i) rfl rfl ?_
 refine WL.call Tryz.call144 rfl rfl (c_prime i (by omega) _ ) rfl ?_
 rintro _ w_2 ⟨rfl, hc_1⟩
 have h_3 := h_0.same hc_1
 refine WL.call Tryz.call143 rfl rfl (c_rootR2 (primeL.getD i 0) _ ) rfl ?_
 rintro _ w_5 ⟨rfl, hc_4⟩
 have h_6 := h_3.same hc_4
 refine qA (vu32 (rootR (fun x => pow2 x (primeL.getD i 0)))) rfl rfl ?_
 refine WL.nil (thn_n (WP.ret ?_))
 refine ret_of results122 (RV.tmp (v := (vu32 (rootR (fun x => pow2 x (primeL.getD i 0))))) rfl RV.nil) ?_
 exact ⟨congrArg (fun x : UInt32 => vu32 x) (tabHR i h), h_6.chgS⟩

theorem c_StartR (i : Int) (w : World) : Cs Tryz.prog 122 [vi i].toArray w (fun v w1 => v = vu32 (hAt i) ∧ Chg w w1 []) := by
 by_cases h : i < 0
 ·rw [hAt_no (.inl h)]; exact c_StartR_lo i h w
 by_cases h2 : 7 < i
 ·rw [hAt_no (.inr h2)]; exact c_StartR_hi i h h2 w
 obtain ⟨q, rfl⟩ : ∃ q : Nat, i = (q : Int) := ⟨i.toNat, by omega⟩
 rw [hAt_nat (by omega)]; exact c_StartR_n q (by omega) w

theorem c_ConstantsR  (w : World) :
  Cs Tryz.prog 123 [].toArray w (fun v w1 => ∃ a cap, v = .slice a 64 cap ∧ Chg w w1 [] ∧ Own w.heap.size w1 169 1 a 64 cap ((kL).map vu32)) := by
 refine Cs.of (n := 13) (args := []) Tryz.func123 rfl rfl rfl ?_
 have h_0 := HP.init w
 refine WP.seq (WP.reg ?_)
 refine qA (.slice none 0 0) rfl rfl ?_
 refine WL.nil (thn_n (WP.seq (WP.reg ?_)))
 refine qA (.slice none 0 0) rfl rfl ?_
 refine WL.nil (thn_n (WP.seq (WP.seq (WP.reg ?_))))
 refine qA (vi 0) rfl rfl ?_
 refine WL.nil (thn_n (WP.block ?_))
 have h_1 := h_0.rowNil 169 1
 refine WP.loopG (G := Nat × Option Addr × Nat) [1, 2, 3, 4, 5, 6, 7, 8, 9, 10, 11] (fun (k, ra, rc) => [(1, (.slice ra k rc)), (2, (vn k))]) (fun (k, ra, rc) m w1 => HP w w1 [.row ra k rc 169 1 ((kL.take k).map vu32)] ∧ (k ≤ 64) ∧ m = 64 - k) ⟨(0, none, 0), _, ⟨rfl, rfl, trivial⟩, h_1, Nat.zero_le _, rfl⟩ ?_
 rintro ⟨k, ra, rc⟩ m_4 J_5 w_2 ⟨h_3, hk, rfl⟩
 refine WP.seq (WP.seq (WP.reg ?_))
 refine qM (vn k) rfl rfl (qV rfl (R.bin rfl rfl (bi_lss (r := decide ((((k : Nat) : Int) : Int) < 64)) rfl)) ?_)
 refine WL.nil (thn_n ?_)
 refine WP.cond (b := decide ((((k : Nat) : Int) : Int) < 64)) rfl (fun c_6 => ?_) (fun c_6 => ?_)
 ·have p_7 := of_decide_eq_true c_6
  refine WP.skip (thn_n (WP.seq (WP.block (WP.reg ?_))))
  refine qM (.slice ra k rc) rfl rfl (qM (vn k) rfl rfl ?_)
  refine WL.call Tryz.call145 rfl rfl (c_ConstantR ((k : Nat) : Int) _ ) rfl ?_
  rintro _ w_9 ⟨rfl, hc_8⟩
  have h_10 := h_3.same hc_8
  refine WL.buildSl (vs := [(0, (vu32 (kAt ((k : Nat) : Int))))]) (cs := ([kAt ((k : Nat) : Int)] : List UInt32).map vu32) h_10 underlying172 sizeOf169 (zv typeInfo169 rfl) rfl rfl (by kernel_rfl) rfl (one_u32 _) rfl rfl (fun b_11 w_12 h_13 => ?_)
  refine WL.append (km := k + 1) (xs := (kL.take k).map vu32) (ys := ([kAt ((k : Nat) : Int)] : List UInt32).map vu32) (zs := ((kL.take k) ++ ([kAt ((k : Nat) : Int)] : List UInt32)).map vu32) h_13 rfl rfl el172 (viewB (h_13.ok _ M0) Sg.h) ((len_map (rfl : List.length ([kAt ((k : Nat) : Int)] : List UInt32) = 1)).trans (Nat.mul_one _).symm) (one_u32 _) (by simp only [List.map_append, List.map_nil]) (by omega) (by omega) (by omega) (fun _ _ => Y1) rfl (fun a_14 c_15 w_16 h_17 => ?_)
  refine qA (.slice a_14 (k + 1) c_15) rfl rfl ?_
  refine WL.nil (inb_n (thn_n (WP.reg ?_)))
  refine qM (vn k) rfl rfl (qV rfl (R.bin rfl rfl (bi_add (c := ((k + 1 : Nat) : Int)) (by omega) (by omega))) (qA (vn (k + 1)) rfl rfl ?_))
  refine WL.nil (thn_n ?_)
  have h_18 := h_17.drop rfl
  rw [k_snoc (by omega)] at h_18
  exact ⟨(k + 1, a_14, c_15), _, (by omega), (Ag.upd rfl (U2 rfl rfl (U4 rfl rfl rfl rfl (U4 rfl rfl rfl rfl (Ag.updL rfl (Ag.mix _ _ _)))))), ⟨rfl, rfl, trivial⟩, h_18, (by omega), rfl⟩
 ·have p_19 := of_decide_eq_false c_6
  refine WP.exit (thn_x (thn_x (inb_hit (thn_n (WP.seq (WP.reg ?_))))))
  refine qM (.slice ra k rc) rfl rfl (qA (.slice ra k rc) rfl rfl ?_)
  refine WL.nil (thn_n (WP.ret ?_))
  refine ret_of results123 (RV.tmp (v := (.slice ra k rc)) rfl RV.nil) ?_
  have hk64 : k = 64 := by omega
  subst hk64
  exact ⟨_, _, rfl, h_3.chgS, h_3.own M0⟩
end Go.Proofs.YteclkcpdclimnaaGreat

namespace Go.Proofs.YteclkcpdclimnaaGreat
open Go.Proofs.Tryz
open Go.Vc Go.Sh Go.RowKit
set_option maxRecDepth 20000

theorem c_PressR (hh ks : List UInt32) (hhl : hh.length = 8) (hkl : ks.length = 64) (bs : List UInt8) (hl : bs.length = 64) (ak : Option Addr) (kc : Nat) (w : World) (hv : View w ak (ks.map vu32)) :
  Cs Tryz.prog 125 [(.agg ⟨hh.map vu32⟩), (.agg ⟨bs.map vu8⟩), (.slice ak 64 kc)].toArray w (fun v w1 => v = (.agg ⟨(pressL ks hh bs).map vu32⟩) ∧ Chg w w1 []) := by
 refine Cs.of (n := 204) (args := [(.agg ⟨hh.map vu32⟩), (.agg ⟨bs.map vu8⟩), (.slice ak 64 kc)]) Tryz.func125 rfl rfl rfl ?_
 have h_0 := HP.init w
 have h_00 := h_0.old (View.arg hv) (fun f hf => by cases hf)
 refine WP.seq (WP.reg ?_)
 refine WL.box (segs := [(8, hh.map vu32)]) h_00 rfl rfl (sC (SOk.u32 hhl) sN) rfl (fun b_1 w_2 h_3 => ?_)
 refine WL.box (segs := [(64, bs.map vu8)]) h_3 rfl rfl (sC (s8 hl) sN) rfl (fun b_4 w_5 h_6 => ?_)
 refine WL.alloc (segs := [(8, (zV 8).map vu32)]) h_6 (zv typeInfo170 rfl) rfl (sC (SOk.u32 lr) sN) rfl (fun b_7 w_8 h_9 => ?_)
 refine WL.nil (thn_n (WP.seq (WP.reg ?_)))
 refine qA (.slice none 0 0) rfl rfl ?_
 refine WL.nil (thn_n (WP.seq (WP.seq (WP.reg ?_))))
 refine qA (vi 0) rfl rfl ?_
 refine WL.nil (thn_n (WP.block ?_))
 have h_10 := h_9.rowNil 169 1
 refine WP.loopG (G := Nat × Option Addr × Nat) [7, 8, 25, 26, 27, 28, 29, 30, 31, 32, 33, 34, 35, 36, 37, 38, 39, 40, 41, 42, 43, 44, 45, 46, 47, 48, 49, 50, 51, 52, 53, 54, 55, 56, 57, 58, 59, 60] (fun (i, ra, rc) => [(7, (.slice ra i rc)), (8, (vn i))]) (fun (i, ra, rc) m w1 => HP w w1 [.row ra i rc 169 1 ((wL bs i).map vu32), .blk b_7 .nw 170 [(8, (zV 8).map vu32)], .blk b_4 .nw 163 [(64, bs.map vu8)], .blk b_1 .nw 170 [(8, hh.map vu32)], .view ak (ks.map vu32)] ∧ (i ≤ 16) ∧ m = 16 - i) ⟨(0, none, 0), _, ⟨rfl, rfl, trivial⟩, h_10, Nat.zero_le _, rfl⟩ ?_
 rintro ⟨i, ra, rc⟩ m_13 J_14 w_11 ⟨h_12, hi, rfl⟩
 refine WP.seq (WP.seq (WP.reg ?_))
 refine qM (vn i) rfl rfl (qV rfl (R.bin rfl rfl (bi_lss (r := decide ((((i : Nat) : Int) : Int) < 16)) rfl)) ?_)
 refine WL.nil (thn_n ?_)
 refine WP.cond (b := decide ((((i : Nat) : Int) : Int) < 16)) rfl (fun c_15 => ?_) (fun c_15 => ?_)
 ·have p_16 := of_decide_eq_true c_15
  refine WP.skip (thn_n (WP.seq (WP.block ?_)))
  refine WP.drawT (SL w.heap.size [.blk b_7 .nw 170 [(8, (zV 8).map vu32)], .blk b_4 .nw 163 [(64, bs.map vu8)], .blk b_1 .nw 170 [(8, hh.map vu32)], .view ak (ks.map vu32)]) (.q 0 (.q 1 (.q 2 (.q 3 (.q 4 (.q 5 (.q 6 (.q 7 (.q 8 (.q 9 (.q 10 (.q 11 (.q 12 (.q 13 (.q 14 (.q 15 (.q 16 (.q 17 (.q 18 (.q 19 (.q 20 (.q 21 (.q 22 (.q 23 (.q 24 (.q 25 (.q 26 (.q 27 (.q 28 (.q 29 (.s 30 (.s 31 (.q 32 .nil))))))))))))))))))))))))))))))))) (by kernel_rfl) (by kernel_rfl) rfl (by kernel_rfl) (fun w_17 hc_19 => (SL.cons ((h_12.same hc_19).ok _ M1) (SL.cons ((h_12.same hc_19).ok _ M2) (SL.cons ((h_12.same hc_19).ok _ M3) (SL.cons ((h_12.same hc_19).ok _ M4) (SL.nil _ _)))))) (fun w_17 hc_19 => ?_)
  have h_18 := h_12.same hc_19
  refine qT rfl rfl (fun wq hS => R.move (v := (.slice ra i rc)) rfl) ?_
  refine qT rfl rfl (fun wq hS => R.move (v := (vn i)) rfl) ?_
  refine qT rfl rfl (fun wq hS => R.bin rfl rfl (bi_mul (c := ((4 * i : Nat) : Int)) (by omega) (by omega))) ?_
  refine qT rfl rfl (fun wq hS => R.indexA (b := b_4) (off := 0) (off' := (0 + (4 * i))) (i := 4 * i) rfl rfl rfl (by omega) underlying163 sizeOf5 (by rw [Nat.mul_one])) ?_
  refine qT rfl rfl (fun wq hS => R.loadE (b := b_4) (off := (0 + (4 * i))) (i := 4 * i) (v := (vu8 (bs.getD (4 * i) 0))) rfl isAgg5 (hS _ M1) Sg.h rfl (get_u8 (lt_len (K := 64) hl (by omega)))) ?_
  refine qT rfl rfl (fun wq hS => R.conv (b := ((UInt32.ofNat ((bs.getD (4 * i) 0).toNat)) : UInt32).toNat) rfl underlying5 underlying169 (w32_nat ((bs.getD (4 * i) 0).toNat))) ?_
  refine qT rfl rfl (fun wq hS => R.binR (v := vu32 (shl32 (UInt32.ofNat ((bs.getD (4 * i) 0).toNat)) 24)) rfl rfl (run_shl32 _ _ _ (UInt32.ofNat ((bs.getD (4 * i) 0).toNat)) _ 24)) ?_
  refine qT rfl rfl (fun wq hS => R.move (v := (vn i)) rfl) ?_
  refine qT rfl rfl (fun wq hS => R.bin rfl rfl (bi_mul (c := ((4 * i : Nat) : Int)) (by omega) (by omega))) ?_
  refine qT rfl rfl (fun wq hS => R.bin rfl rfl (bi_add (c := ((4 * i + 1 : Nat) : Int)) (by omega) (by omega))) ?_
  refine qT rfl rfl (fun wq hS => R.indexA (b := b_4) (off := 0) (off' := (0 + (4 * i + 1))) (i := 4 * i + 1) rfl rfl rfl (by omega) underlying163 sizeOf5 (by rw [Nat.mul_one])) ?_
  refine qT rfl rfl (fun wq hS => R.loadE (b := b_4) (off := (0 + (4 * i + 1))) (i := 4 * i + 1) (v := (vu8 (bs.getD (4 * i + 1) 0))) rfl isAgg5 (hS _ M1) Sg.h rfl (get_u8 (lt_len (K := 64) hl (by omega)))) ?_
  refine qT rfl rfl (fun wq hS => R.conv (b := ((UInt32.ofNat ((bs.getD (4 * i + 1) 0).toNat)) : UInt32).toNat) rfl underlying5 underlying169 (w32_nat ((bs.getD (4 * i + 1) 0).toNat))) ?_
  refine qT rfl rfl (fun wq hS => R.binR (v := vu32 (shl32 (UInt32.ofNat ((bs.getD (4 * i + 1) 0).toNat)) 16)) rfl rfl (run_shl32 _ _ _ (UInt32.ofNat ((bs.getD (4 * i + 1) 0).toNat)) _ 16)) ?_
  refine qT rfl rfl (fun wq hS => R.bin rfl rfl (b32_add (shl32 (UInt32.ofNat ((bs.getD (4 * i) 0).toNat)) 24) (shl32 (UInt32.ofNat ((bs.getD (4 * i + 1) 0).toNat)) 16))) ?_
  refine qT rfl rfl (fun wq hS => R.move (v := (vn i)) rfl) ?_
  refine qT rfl rfl (fun wq hS => R.bin rfl rfl (bi_mul (c := ((4 * i : Nat) : Int)) (by omega) (by omega))) ?_
  refine qT rfl rfl (fun wq hS => R.bin rfl rfl (bi_add (c := ((4 * i + 2 : Nat) : Int)) (by omega) (by omega))) ?_
  refine qT rfl rfl (fun wq hS => R.indexA (b := b_4) (off := 0) (off' := (0 + (4 * i + 2))) (i := 4 * i + 2) rfl rfl rfl (by omega) underlying163 sizeOf5 (by rw [Nat.mul_one])) ?_
  refine qT rfl rfl (fun wq hS => R.loadE (b := b_4) (off := (0 + (4 * i + 2))) (i := 4 * i + 2) (v := (vu8 (bs.getD (4 * i + 2) 0))) rfl isAgg5 (hS _ M1) Sg.h rfl (get_u8 (lt_len (K := 64) hl (by omega)))) ?_
  refine qT rfl rfl (fun wq hS => R.conv (b := ((UInt32.ofNat ((bs.getD (4 * i + 2) 0).toNat)) : UInt32).toNat) rfl underlying5 underlying169 (w32_nat ((bs.getD (4 * i + 2) 0).toNat))) ?_
  refine qT rfl rfl (fun wq hS => R.binR (v := vu32 (shl32 (UInt32.ofNat ((bs.getD (4 * i + 2) 0).toNat)) 8)) rfl rfl (run_shl32 _ _ _ (UInt32.ofNat ((bs.getD (4 * i + 2) 0).toNat)) _ 8)) ?_
  refine qT rfl rfl (fun wq hS => R.bin rfl rfl (b32_add ((shl32 (UInt32.ofNat ((bs.getD (4 * i) 0).toNat)) 24) + (shl32 (UInt32.ofNat ((bs.getD (4 * i + 1) 0).toNat)) 16)) (shl32 (UInt32.ofNat ((bs.getD (4 * i + 2) 0).toNat)) 8))) ?_
  refine qT rfl rfl (fun wq hS => R.move (v := (vn i)) rfl) ?_
  refine qT rfl rfl (fun wq hS => R.bin rfl rfl (bi_mul (c := ((4 * i : Nat) : Int)) (by omega) (by omega))) ?_
  refine qT rfl rfl (fun wq hS => R.bin rfl rfl (bi_add (c := ((4 * i + 3 : Nat) : Int)) (by omega) (by omega))) ?_
  refine qT rfl rfl (fun wq hS => R.indexA (b := b_4) (off := 0) (off' := (0 + (4 * i + 3))) (i := 4 * i + 3) rfl rfl rfl (by omega) underlying163 sizeOf5 (by rw [Nat.mul_one])) ?_
  refine qT rfl rfl (fun wq hS => R.loadE (b := b_4) (off := (0 + (4 * i + 3))) (i := 4 * i + 3) (v := (vu8 (bs.getD (4 * i + 3) 0))) rfl isAgg5 (hS _ M1) Sg.h rfl (get_u8 (lt_len (K := 64) hl (by omega)))) ?_
  refine qT rfl rfl (fun wq hS => R.conv (b := ((UInt32.ofNat ((bs.getD (4 * i + 3) 0).toNat)) : UInt32).toNat) rfl underlying5 underlying169 (w32_nat ((bs.getD (4 * i + 3) 0).toNat))) ?_
  refine qT rfl rfl (fun wq hS => R.bin rfl rfl (b32_add (((shl32 (UInt32.ofNat ((bs.getD (4 * i) 0).toNat)) 24) + (shl32 (UInt32.ofNat ((bs.getD (4 * i + 1) 0).toNat)) 16)) + (shl32 (UInt32.ofNat ((bs.getD (4 * i + 2) 0).toNat)) 8)) (UInt32.ofNat ((bs.getD (4 * i + 3) 0).toNat)))) ?_
  refine WT.s (oN rfl ?_)
  refine WL.buildSl (vs := [(0, (vu32 ((((shl32 (UInt32.ofNat ((bs.getD (4 * i) 0).toNat)) 24) + (shl32 (UInt32.ofNat ((bs.getD (4 * i + 1) 0).toNat)) 16)) + (shl32 (UInt32.ofNat ((bs.getD (4 * i + 2) 0).toNat)) 8)) + (UInt32.ofNat ((bs.getD (4 * i + 3) 0).toNat)))))]) (cs := ([(((shl32 (UInt32.ofNat ((bs.getD (4 * i) 0).toNat)) 24) + (shl32 (UInt32.ofNat ((bs.getD (4 * i + 1) 0).toNat)) 16)) + (shl32 (UInt32.ofNat ((bs.getD (4 * i + 2) 0).toNat)) 8)) + (UInt32.ofNat ((bs.getD (4 * i + 3) 0).toNat))] : List UInt32).map vu32) h_18 underlying172 sizeOf169 (zv typeInfo169 rfl) rfl rfl (by kernel_rfl) rfl (one_u32 _) rfl rfl (fun b_20 w_21 h_22 => ?_)
  refine WL.nil ?_
  refine ⟨(N2_3_4_5 h_22.ok), ?_⟩
  refine WT.s (oN rfl ?_)
  refine WL.append (km := i + 1) (xs := (wL bs i).map vu32) (ys := ([(((shl32 (UInt32.ofNat ((bs.getD (4 * i) 0).toNat)) 24) + (shl32 (UInt32.ofNat ((bs.getD (4 * i + 1) 0).toNat)) 16)) + (shl32 (UInt32.ofNat ((bs.getD (4 * i + 2) 0).toNat)) 8)) + (UInt32.ofNat ((bs.getD (4 * i + 3) 0).toNat))] : List UInt32).map vu32) (zs := ((wL bs i) ++ ([(((shl32 (UInt32.ofNat ((bs.getD (4 * i) 0).toNat)) 24) + (shl32 (UInt32.ofNat ((bs.getD (4 * i + 1) 0).toNat)) 16)) + (shl32 (UInt32.ofNat ((bs.getD (4 * i + 2) 0).toNat)) 8)) + (UInt32.ofNat ((bs.getD (4 * i + 3) 0).toNat))] : List UInt32)).map vu32) h_22 rfl rfl el172 (viewB (h_22.ok _ M0) Sg.h) ((len_map (rfl : List.length ([(((shl32 (UInt32.ofNat ((bs.getD (4 * i) 0).toNat)) 24) + (shl32 (UInt32.ofNat ((bs.getD (4 * i + 1) 0).toNat)) 16)) + (shl32 (UInt32.ofNat ((bs.getD (4 * i + 2) 0).toNat)) 8)) + (UInt32.ofNat ((bs.getD (4 * i + 3) 0).toNat))] : List UInt32) = 1)).trans (Nat.mul_one _).symm) (one_u32 _) (by simp only [List.map_append, List.map_nil]) (by omega) (by omega) (by omega) (fun _ _ => Y1) rfl (fun a_23 c_24 w_25 h_26 => ?_)
  refine WL.nil ?_
  refine ⟨(N2_3_4_5 h_26.ok), ?_⟩
  refine qT rfl rfl (fun wq hS => R.assign (v := (.slice a_23 (i + 1) c_24)) rfl) ?_
  refine WT.nil (inb_n (thn_n (WP.reg ?_)))
  refine qM (vn i) rfl rfl (qV rfl (R.bin rfl rfl (bi_add (c := ((i + 1 : Nat) : Int)) (by omega) (by omega))) (qA (vn (i + 1)) rfl rfl ?_))
  refine WL.nil (thn_n ?_)
  have h_32 := (((((h_26.drop rfl).up J4).up J4).up J4).up J4).up J4
  rw [wL_lo4 (i := i) hl (by omega)] at h_32
  exact ⟨(i + 1, a_23, c_24), _, (by omega), (U2 rfl rfl (U4 rfl rfl rfl rfl (U4 rfl rfl rfl rfl (U4 rfl rfl rfl rfl (U4 rfl rfl rfl rfl (U4 rfl rfl rfl rfl (U4 rfl rfl rfl rfl (U4 rfl rfl rfl rfl (U4 rfl rfl rfl rfl (U4 rfl rfl rfl rfl (Ag.updL rfl (Ag.mix _ _ _)))))))))))), ⟨rfl, rfl, trivial⟩, h_32, (by omega), rfl⟩
 ·have p_33 := of_decide_eq_false c_15
  refine WP.exit (thn_x (thn_x (inb_hit (thn_n (WP.seq (WP.seq (WP.reg ?_)))))))
  refine qA (vi 16) rfl rfl ?_
  refine WL.nil (thn_n (WP.block ?_))
  have hi16 : i = 16 := by omega
  subst hi16
  refine WP.loopG (G := Nat × Option Addr × Nat) [7, 9, 10, 11, 12, 13, 61, 62, 63, 64, 65, 66, 67, 68, 69, 70, 71, 72, 73, 74, 75, 76, 77, 78, 79, 80, 81, 82, 83, 84, 85, 86, 87, 88, 89, 90, 91, 92, 93, 94, 95, 96, 97, 98, 99, 100, 101, 102, 103, 104, 105, 106, 107, 108] (fun (j, ra2, rc2) => [(7, (.slice ra2 j rc2)), (9, (vn j))]) (fun (j, ra2, rc2) m w1 => HP w w1 [.row ra2 j rc2 169 1 ((wL bs j).map vu32), .blk b_7 .nw 170 [(8, (zV 8).map vu32)], .blk b_4 .nw 163 [(64, bs.map vu8)], .blk b_1 .nw 170 [(8, hh.map vu32)], .view ak (ks.map vu32)] ∧ (16 ≤ j) ∧ (j ≤ 64) ∧ m = 64 - j) ⟨(16, ra, rc), _, ⟨rfl, rfl, trivial⟩, h_12, (by omega), (by omega), rfl⟩ ?_
  rintro ⟨j, ra2, rc2⟩ m_36 J_37 w_34 ⟨h_35, hj, hj2, rfl⟩
  refine WP.seq (WP.seq (WP.reg ?_))
  refine qM (vn j) rfl rfl (qV rfl (R.bin rfl rfl (bi_lss (r := decide ((((j : Nat) : Int) : Int) < 64)) rfl)) ?_)
  refine WL.nil (thn_n ?_)
  refine WP.cond (b := decide ((((j : Nat) : Int) : Int) < 64)) rfl (fun c_38 => ?_) (fun c_38 => ?_)
  ·have p_39 := of_decide_eq_true c_38
   refine WP.skip (thn_n (WP.seq (WP.block (WP.seq ?_))))
   refine WP.drawT (SL w.heap.size [.row ra2 j rc2 169 1 ((wL bs j).map vu32), .blk b_7 .nw 170 [(8, (zV 8).map vu32)], .blk b_4 .nw 163 [(64, bs.map vu8)], .blk b_1 .nw 170 [(8, hh.map vu32)], .view ak (ks.map vu32)]) (.q 0 (.q 1 (.q 2 (.q 3 (.q 4 (.q 5 (.q 6 (.q 7 (.q 8 (.q 9 (.q 10 (.q 11 .nil)))))))))))) (by kernel_rfl) (by kernel_rfl) rfl (by kernel_rfl) (fun w_40 hc_42 => (SL.cons ((h_35.same hc_42).ok _ M0) (SL.cons ((h_35.same hc_42).ok _ M1) (SL.cons ((h_35.same hc_42).ok _ M2) (SL.cons ((h_35.same hc_42).ok _ M3) (SL.cons ((h_35.same hc_42).ok _ M4) (SL.nil _ _))))))) (fun w_40 hc_42 => ?_)
   have h_41 := h_35.same hc_42
   refine qT rfl rfl (fun wq hS => R.move (v := (.slice ra2 j rc2)) rfl) ?_
   refine qT rfl rfl (fun wq hS => R.move (v := (vn j)) rfl) ?_
   refine qT rfl rfl (fun wq hS => R.bin rfl rfl (bi_sub (c := ((j - 15 : Nat) : Int)) (by omega) (by omega))) ?_
   refine qT rfl rfl (fun wq hS => R.indexS (a := ra2) (i := j - 15) (off := j - 15) (xs := (wL bs j).map vu32) rfl rfl rfl (by omega) (ownView (hS _ M0)) (lt_len (K := j) (len_map (wL_len bs j)) (by omega)) underlying172 sizeOf169 (Nat.mul_one _).symm) ?_
   refine qT rfl rfl (fun wq hS => R.loadG rfl (ownView (hS _ M0)) isAgg169 (get_u32 (lt_len (K := j) (wL_len bs j) (by omega)))) ?_
   refine qT rfl rfl (fun wq hS => R.move (v := (.slice ra2 j rc2)) rfl) ?_
   refine qT rfl rfl (fun wq hS => R.move (v := (vn j)) rfl) ?_
   refine qT rfl rfl (fun wq hS => R.bin rfl rfl (bi_sub (c := ((j - 2 : Nat) : Int)) (by omega) (by omega))) ?_
   refine qT rfl rfl (fun wq hS => R.indexS (a := ra2) (i := j - 2) (off := j - 2) (xs := (wL bs j).map vu32) rfl rfl rfl (by omega) (ownView (hS _ M0)) (lt_len (K := j) (len_map (wL_len bs j)) (by omega)) underlying172 sizeOf169 (Nat.mul_one _).symm) ?_
   refine qT rfl rfl (fun wq hS => R.loadG rfl (ownView (hS _ M0)) isAgg169 (get_u32 (lt_len (K := j) (wL_len bs j) (by omega)))) ?_
   refine qT rfl rfl (fun wq hS => R.assign (v := (vu32 ((wL bs j).getD (j - 15) 0))) rfl) ?_
   refine qT rfl rfl (fun wq hS => R.assign (v := (vu32 ((wL bs j).getD (j - 2) 0))) rfl) ?_
   refine WT.nil (thn_n (WP.seq (WP.reg ?_)))
   refine qM (vu32 ((wL bs j).getD (j - 15) 0)) rfl rfl ?_
   refine WL.call Tryz.call146 rfl rfl (c_ror7 ((wL bs j).getD (j - 15) 0) _ ) rfl ?_
   rintro _ w_44 ⟨rfl, hc_43⟩
   have h_45 := h_41.same hc_43
   refine qM (vu32 ((wL bs j).getD (j - 15) 0)) rfl rfl ?_
   refine WL.call Tryz.call146 rfl rfl (c_ror18 ((wL bs j).getD (j - 15) 0) _ ) rfl ?_
   rintro _ w_47 ⟨rfl, hc_46⟩
   have h_48 := h_45.same hc_46
   refine qV rfl (R.bin rfl rfl (b32_xor (rot ((wL bs j).getD (j - 15) 0) 7) (rot ((wL bs j).getD (j - 15) 0) 18))) (qM (vu32 ((wL bs j).getD (j - 15) 0)) rfl rfl (qV rfl (R.binR (v := vu32 (shr32 ((wL bs j).getD (j - 15) 0) 3)) rfl rfl (run_shr32 _ _ _ ((wL bs j).getD (j - 15) 0) _ 3)) (qV rfl (R.bin rfl rfl (b32_xor ((rot ((wL bs j).getD (j - 15) 0) 7) ^^^ (rot ((wL bs j).getD (j - 15) 0) 18)) (shr32 ((wL bs j).getD (j - 15) 0) 3))) (qA (vu32 (((rot ((wL bs j).getD (j - 15) 0) 7) ^^^ (rot ((wL bs j).getD (j - 15) 0) 18)) ^^^ (shr32 ((wL bs j).getD (j - 15) 0) 3))) rfl rfl ?_))))
   refine WL.nil (thn_n (WP.seq (WP.reg ?_)))
   refine qM (vu32 ((wL bs j).getD (j - 2) 0)) rfl rfl ?_
   refine WL.call Tryz.call146 rfl rfl (c_ror17 ((wL bs j).getD (j - 2) 0) _ ) rfl ?_
   rintro _ w_50 ⟨rfl, hc_49⟩
   have h_51 := h_48.same hc_49
   refine qM (vu32 ((wL bs j).getD (j - 2) 0)) rfl rfl ?_
   refine WL.call Tryz.call146 rfl rfl (c_ror19 ((wL bs j).getD (j - 2) 0) _ ) rfl ?_
   rintro _ w_53 ⟨rfl, hc_52⟩
   have h_54 := h_51.same hc_52
   refine qV rfl (R.bin rfl rfl (b32_xor (rot ((wL bs j).getD (j - 2) 0) 17) (rot ((wL bs j).getD (j - 2) 0) 19))) (qM (vu32 ((wL bs j).getD (j - 2) 0)) rfl rfl (qV rfl (R.binR (v := vu32 (shr32 ((wL bs j).getD (j - 2) 0) 10)) rfl rfl (run_shr32 _ _ _ ((wL bs j).getD (j - 2) 0) _ 10)) (qV rfl (R.bin rfl rfl (b32_xor ((rot ((wL bs j).getD (j - 2) 0) 17) ^^^ (rot ((wL bs j).getD (j - 2) 0) 19)) (shr32 ((wL bs j).getD (j - 2) 0) 10))) (qA (vu32 (((rot ((wL bs j).getD (j - 2) 0) 17) ^^^ (rot ((wL bs j).getD (j - 2) 0) 19)) ^^^ (shr32 ((wL bs j).getD (j - 2) 0) 10))) rfl rfl ?_))))
   refine WL.nil (thn_n ?_)
   refine WP.cutG (G := Option Addr × Nat × Nat) [7, 91, 92, 93, 94, 95, 96, 97, 98, 99, 100, 101, 102, 103, 104, 105, 106, 107, 108] (fun (aY12Y17Y0Y0, cY12Y17Y0Y0, bY12Y16Y0Y0) => [(7, (.slice aY12Y17Y0Y0 (j + 1) cY12Y17Y0Y0)), (91, (.slice ra2 j rc2)), (92, (.slice ra2 j rc2)), (93, (vn j)), (94, (vn (j - 16))), (97, (vu32 (((rot ((wL bs j).getD (j - 15) 0) 7) ^^^ (rot ((wL bs j).getD (j - 15) 0) 18)) ^^^ (shr32 ((wL bs j).getD (j - 15) 0) 3)))), (99, (.slice ra2 j rc2)), (100, (vn j)), (101, (vn (j - 7))), (105, (vu32 (((rot ((wL bs j).getD (j - 2) 0) 17) ^^^ (rot ((wL bs j).getD (j - 2) 0) 19)) ^^^ (shr32 ((wL bs j).getD (j - 2) 0) 10)))), (95, (.pointer (some (gA ra2 (j - 16))))), (96, (vu32 ((wL bs j).getD (j - 16) 0))), (98, (vu32 (((wL bs j).getD (j - 16) 0) + (((rot ((wL bs j).getD (j - 15) 0) 7) ^^^ (rot ((wL bs j).getD (j - 15) 0) 18)) ^^^ (shr32 ((wL bs j).getD (j - 15) 0) 3))))), (102, (.pointer (some (gA ra2 (j - 7))))), (103, (vu32 ((wL bs j).getD (j - 7) 0))), (104, (vu32 ((((wL bs j).getD (j - 16) 0) + (((rot ((wL bs j).getD (j - 15) 0) 7) ^^^ (rot ((wL bs j).getD (j - 15) 0) 18)) ^^^ (shr32 ((wL bs j).getD (j - 15) 0) 3))) + ((wL bs j).getD (j - 7) 0)))), (106, (vu32 (((((wL bs j).getD (j - 16) 0) + (((rot ((wL bs j).getD (j - 15) 0) 7) ^^^ (rot ((wL bs j).getD (j - 15) 0) 18)) ^^^ (shr32 ((wL bs j).getD (j - 15) 0) 3))) + ((wL bs j).getD (j - 7) 0)) + (((rot ((wL bs j).getD (j - 2) 0) 17) ^^^ (rot ((wL bs j).getD (j - 2) 0) 19)) ^^^ (shr32 ((wL bs j).getD (j - 2) 0) 10))))), (107, (.slice (some ⟨bY12Y16Y0Y0, 0, none⟩) 1 1)), (108, (.slice aY12Y17Y0Y0 (j + 1) cY12Y17Y0Y0))]) (fun (aY12Y17Y0Y0, cY12Y17Y0Y0, bY12Y16Y0Y0) w1 => HP w w1 [.blk bY12Y16Y0Y0 .nw 169 [(1, ([((((wL bs j).getD (j - 16) 0) + (((rot ((wL bs j).getD (j - 15) 0) 7) ^^^ (rot ((wL bs j).getD (j - 15) 0) 18)) ^^^ (shr32 ((wL bs j).getD (j - 15) 0) 3))) + ((wL bs j).getD (j - 7) 0)) + (((rot ((wL bs j).getD (j - 2) 0) 17) ^^^ (rot ((wL bs j).getD (j - 2) 0) 19)) ^^^ (shr32 ((wL bs j).getD (j - 2) 0) 10))] : List UInt32).map vu32)], .row aY12Y17Y0Y0 (j + 1) cY12Y17Y0Y0 169 1 (((wL bs j) ++ ([((((wL bs j).getD (j - 16) 0) + (((rot ((wL bs j).getD (j - 15) 0) 7) ^^^ (rot ((wL bs j).getD (j - 15) 0) 18)) ^^^ (shr32 ((wL bs j).getD (j - 15) 0) 3))) + ((wL bs j).getD (j - 7) 0)) + (((rot ((wL bs j).getD (j - 2) 0) 17) ^^^ (rot ((wL bs j).getD (j - 2) 0) 19)) ^^^ (shr32 ((wL bs j).getD (j - 2) 0) 10))] : List UInt32)).map vu32), .blk b_7 .nw 170 [(8, (zV 8).map vu32)], .blk b_4 .nw 163 [(64, bs.map vu8)], .blk b_1 .nw 170 [(8, hh.map vu32)], .view ak (ks.map vu32)]) ?_ ?_
   ·refine WP.drawT (SL w.heap.size [.blk b_7 .nw 170 [(8, (zV 8).map vu32)], .blk b_4 .nw 163 [(64, bs.map vu8)], .blk b_1 .nw 170 [(8, hh.map vu32)], .view ak (ks.map vu32)]) (.q 0 (.q 1 (.q 2 (.q 3 (.q 6 (.q 8 (.q 9 (.q 10 (.q 14 (.s2 4 11 (.s2 5 11 (.q 7 (.s 11 (.s 12 (.q 13 (.q 15 (.s 16 (.s 17 (.q 18 .nil)))))))) (.s2 5 12 (.q 7 (.s 12 (.q 13 (.q 15 (.s 16 (.s 17 (.q 18 .nil))))))) (.s 5 (.q 7 (.q 13 (.q 15 (.s 16 (.s 17 (.q 18 .nil))))))))) (.s2 4 12 (.s2 5 12 (.q 7 (.s 12 (.q 13 (.q 15 (.s 16 (.s 17 (.q 18 .nil))))))) (.s 5 (.q 7 (.q 13 (.q 15 (.s 16 (.s 17 (.q 18 .nil)))))))) (.s 4 (.s 5 (.q 7 (.q 13 (.q 15 (.s 16 (.s 17 (.q 18 .nil))))))))))))))))))) (by kernel_rfl) (by kernel_rfl) rfl (by kernel_rfl) (fun w_55 hc_57 => (SL.cons ((h_54.same hc_57).ok _ M1) (SL.cons ((h_54.same hc_57).ok _ M2) (SL.cons ((h_54.same hc_57).ok _ M3) (SL.cons ((h_54.same hc_57).ok _ M4) (SL.nil _ _)))))) (fun w_55 hc_57 => ?_)
    have h_56 := h_54.same hc_57
    refine qT rfl rfl (fun wq hS => R.move (v := (.slice ra2 j rc2)) rfl) ?_
    refine qT rfl rfl (fun wq hS => R.move (v := (.slice ra2 j rc2)) rfl) ?_
    refine qT rfl rfl (fun wq hS => R.move (v := (vn j)) rfl) ?_
    refine qT rfl rfl (fun wq hS => R.bin rfl rfl (bi_sub (c := ((j - 16 : Nat) : Int)) (by omega) (by omega))) ?_
    refine qT rfl rfl (fun wq hS => R.move (v := (vu32 (((rot ((wL bs j).getD (j - 15) 0) 7) ^^^ (rot ((wL bs j).getD (j - 15) 0) 18)) ^^^ (shr32 ((wL bs j).getD (j - 15) 0) 3)))) rfl) ?_
    refine qT rfl rfl (fun wq hS => R.move (v := (.slice ra2 j rc2)) rfl) ?_
    refine qT rfl rfl (fun wq hS => R.move (v := (vn j)) rfl) ?_
    refine qT rfl rfl (fun wq hS => R.bin rfl rfl (bi_sub (c := ((j - 7 : Nat) : Int)) (by omega) (by omega))) ?_
    refine qT rfl rfl (fun wq hS => R.move (v := (vu32 (((rot ((wL bs j).getD (j - 2) 0) 17) ^^^ (rot ((wL bs j).getD (j - 2) 0) 19)) ^^^ (shr32 ((wL bs j).getD (j - 2) 0) 10)))) rfl) ?_
    refine WT.s2 ?_ ?_
    ·refine oN rfl ?_
     refine qV rfl (R.indexS (a := ra2) (i := j - 16) (off := j - 16) (xs := (wL bs j).map vu32) rfl rfl rfl (by omega) (ownView (h_56.ok _ M0)) (lt_len (K := j) (len_map (wL_len bs j)) (by omega)) underlying172 sizeOf169 (Nat.mul_one _).symm) ?_
     refine WL.nil ?_
     refine ⟨(N1_2_3_4 h_56.ok), ?_⟩
     refine WT.s2 ?_ ?_
     ·refine oN rfl ?_
      refine qV rfl (R.loadG rfl (ownView (h_56.ok _ M0)) isAgg169 (get_u32 (lt_len (K := j) (wL_len bs j) (by omega)))) ?_
      refine WL.nil ?_
      refine ⟨(N1_2_3_4 h_56.ok), ?_⟩
      refine qT rfl rfl (fun wq hS => R.bin rfl rfl (b32_add ((wL bs j).getD (j - 16) 0) (((rot ((wL bs j).getD (j - 15) 0) 7) ^^^ (rot ((wL bs j).getD (j - 15) 0) 18)) ^^^ (shr32 ((wL bs j).getD (j - 15) 0) 3)))) ?_
      refine WT.s (oN rfl ?_)
      refine qV rfl (R.indexS (a := ra2) (i := j - 7) (off := j - 7) (xs := (wL bs j).map vu32) rfl rfl rfl (by omega) (ownView (h_56.ok _ M0)) (lt_len (K := j) (len_map (wL_len bs j)) (by omega)) underlying172 sizeOf169 (Nat.mul_one _).symm) ?_
      refine WL.nil ?_
      refine ⟨(N1_2_3_4 h_56.ok), ?_⟩
      refine WT.s (oN rfl ?_)
      refine qV rfl (R.loadG rfl (ownView (h_56.ok _ M0)) isAgg169 (get_u32 (lt_len (K := j) (wL_len bs j) (by omega)))) ?_
      refine WL.nil ?_
      refine ⟨(N1_2_3_4 h_56.ok), ?_⟩
      refine qT rfl rfl (fun wq hS => R.bin rfl rfl (b32_add (((wL bs j).getD (j - 16) 0) + (((rot ((wL bs j).getD (j - 15) 0) 7) ^^^ (rot ((wL bs j).getD (j - 15) 0) 18)) ^^^ (shr32 ((wL bs j).getD (j - 15) 0) 3))) ((wL bs j).getD (j - 7) 0))) ?_
      refine qT rfl rfl (fun wq hS => R.bin rfl rfl (b32_add ((((wL bs j).getD (j - 16) 0) + (((rot ((wL bs j).getD (j - 15) 0) 7) ^^^ (rot ((wL bs j).getD (j - 15) 0) 18)) ^^^ (shr32 ((wL bs j).getD (j - 15) 0) 3))) + ((wL bs j).getD (j - 7) 0)) (((rot ((wL bs j).getD (j - 2) 0) 17) ^^^ (rot ((wL bs j).getD (j - 2) 0) 19)) ^^^ (shr32 ((wL bs j).getD (j - 2) 0) 10)))) ?_
      refine WT.s (oN rfl ?_)
      refine WL.buildSl (vs := [(0, (vu32 (((((wL bs j).getD (j - 16) 0) + (((rot ((wL bs j).getD (j - 15) 0) 7) ^^^ (rot ((wL bs j).getD (j - 15) 0) 18)) ^^^ (shr32 ((wL bs j).getD (j - 15) 0) 3))) + ((wL bs j).getD (j - 7) 0)) + (((rot ((wL bs j).getD (j - 2) 0) 17) ^^^ (rot ((wL bs j).getD (j - 2) 0) 19)) ^^^ (shr32 ((wL bs j).getD (j - 2) 0) 10)))))]) (cs := ([((((wL bs j).getD (j - 16) 0) + (((rot ((wL bs j).getD (j - 15) 0) 7) ^^^ (rot ((wL bs j).getD (j - 15) 0) 18)) ^^^ (shr32 ((wL bs j).getD (j - 15) 0) 3))) + ((wL bs j).getD (j - 7) 0)) + (((rot ((wL bs j).getD (j - 2) 0) 17) ^^^ (rot ((wL bs j).getD (j - 2) 0) 19)) ^^^ (shr32 ((wL bs j).getD (j - 2) 0) 10))] : List UInt32).map vu32) h_56 underlying172 sizeOf169 (zv typeInfo169 rfl) rfl rfl (by kernel_rfl) rfl (one_u32 _) rfl rfl (fun b_58 w_59 h_60 => ?_)
      refine WL.nil ?_
      refine ⟨(N2_3_4_5 h_60.ok), ?_⟩
      refine WT.s (oN rfl ?_)
      refine WL.append (km := j + 1) (xs := (wL bs j).map vu32) (ys := ([((((wL bs j).getD (j - 16) 0) + (((rot ((wL bs j).getD (j - 15) 0) 7) ^^^ (rot ((wL bs j).getD (j - 15) 0) 18)) ^^^ (shr32 ((wL bs j).getD (j - 15) 0) 3))) + ((wL bs j).getD (j - 7) 0)) + (((rot ((wL bs j).getD (j - 2) 0) 17) ^^^ (rot ((wL bs j).getD (j - 2) 0) 19)) ^^^ (shr32 ((wL bs j).getD (j - 2) 0) 10))] : List UInt32).map vu32) (zs := ((wL bs j) ++ ([((((wL bs j).getD (j - 16) 0) + (((rot ((wL bs j).getD (j - 15) 0) 7) ^^^ (rot ((wL bs j).getD (j - 15) 0) 18)) ^^^ (shr32 ((wL bs j).getD (j - 15) 0) 3))) + ((wL bs j).getD (j - 7) 0)) + (((rot ((wL bs j).getD (j - 2) 0) 17) ^^^ (rot ((wL bs j).getD (j - 2) 0) 19)) ^^^ (shr32 ((wL bs j).getD (j - 2) 0) 10))] : List UInt32)).map vu32) h_60 rfl rfl el172 (viewB (h_60.ok _ M0) Sg.h) ((len_map (rfl : List.length ([((((wL bs j).getD (j - 16) 0) + (((rot ((wL bs j).getD (j - 15) 0) 7) ^^^ (rot ((wL bs j).getD (j - 15) 0) 18)) ^^^ (shr32 ((wL bs j).getD (j - 15) 0) 3))) + ((wL bs j).getD (j - 7) 0)) + (((rot ((wL bs j).getD (j - 2) 0) 17) ^^^ (rot ((wL bs j).getD (j - 2) 0) 19)) ^^^ (shr32 ((wL bs j).getD (j - 2) 0) 10))] : List UInt32) = 1)).trans (Nat.mul_one _).symm) (one_u32 _) (by simp only [List.map_append, List.map_nil]) (by omega) (by omega) (by omega) (fun _ _ => Y1) rfl (fun a_61 c_62 w_63 h_64 => ?_)
      refine WL.nil ?_
      refine ⟨(N2_3_4_5 h_64.ok), ?_⟩
      refine qT rfl rfl (fun wq hS => R.assign (v := (.slice a_61 (j + 1) c_62)) rfl) ?_
      refine WT.nil (thn_n ?_)
      exact ⟨(a_61, c_62, b_58), (Ag.upd rfl (U2 rfl rfl (U4 rfl rfl rfl rfl (U4 rfl rfl rfl rfl (U4 rfl rfl rfl rfl (U4 rfl rfl rfl rfl (Ag.refl _ _))))))), ⟨rfl, rfl, rfl, rfl, rfl, rfl, rfl, rfl, rfl, rfl, rfl, rfl, rfl, rfl, rfl, rfl, rfl, rfl, rfl, trivial⟩, h_64⟩
     ·refine oN rfl ?_
      refine qV rfl (R.indexS (a := ra2) (i := j - 7) (off := j - 7) (xs := (wL bs j).map vu32) rfl rfl rfl (by omega) (ownView (h_56.ok _ M0)) (lt_len (K := j) (len_map (wL_len bs j)) (by omega)) underlying172 sizeOf169 (Nat.mul_one _).symm) ?_
      refine WL.nil ?_
      refine ⟨(N1_2_3_4 h_56.ok), ?_⟩
      refine WT.s2 ?_ ?_
      ·refine oN rfl ?_
       refine qV rfl (R.loadG rfl (ownView (h_56.ok _ M0)) isAgg169 (get_u32 (lt_len (K := j) (wL_len bs j) (by omega)))) ?_
       refine WL.nil ?_
       refine ⟨(N1_2_3_4 h_56.ok), ?_⟩
       refine qT rfl rfl (fun wq hS => R.bin rfl rfl (b32_add ((wL bs j).getD (j - 16) 0) (((rot ((wL bs j).getD (j - 15) 0) 7) ^^^ (rot ((wL bs j).getD (j - 15) 0) 18)) ^^^ (shr32 ((wL bs j).getD (j - 15) 0) 3)))) ?_
       refine WT.s (oN rfl ?_)
       refine qV rfl (R.loadG rfl (ownView (h_56.ok _ M0)) isAgg169 (get_u32 (lt_len (K := j) (wL_len bs j) (by omega)))) ?_
       refine WL.nil ?_
       refine ⟨(N1_2_3_4 h_56.ok), ?_⟩
       refine qT rfl rfl (fun wq hS => R.bin rfl rfl (b32_add (((wL bs j).getD (j - 16) 0) + (((rot ((wL bs j).getD (j - 15) 0) 7) ^^^ (rot ((wL bs j).getD (j - 15) 0) 18)) ^^^ (shr32 ((wL bs j).getD (j - 15) 0) 3))) ((wL bs j).getD (j - 7) 0))) ?_
       refine qT rfl rfl (fun wq hS => R.bin rfl rfl (b32_add ((((wL bs j).getD (j - 16) 0) + (((rot ((wL bs j).getD (j - 15) 0) 7) ^^^ (rot ((wL bs j).getD (j - 15) 0) 18)) ^^^ (shr32 ((wL bs j).getD (j - 15) 0) 3))) + ((wL bs j).getD (j - 7) 0)) (((rot ((wL bs j).getD (j - 2) 0) 17) ^^^ (rot ((wL bs j).getD (j - 2) 0) 19)) ^^^ (shr32 ((wL bs j).getD (j - 2) 0) 10)))) ?_
       refine WT.s (oN rfl ?_)
       refine WL.buildSl (vs := [(0, (vu32 (((((wL bs j).getD (j - 16) 0) + (((rot ((wL bs j).getD (j - 15) 0) 7) ^^^ (rot ((wL bs j).getD (j - 15) 0) 18)) ^^^ (shr32 ((wL bs j).getD (j - 15) 0) 3))) + ((wL bs j).getD (j - 7) 0)) + (((rot ((wL bs j).getD (j - 2) 0) 17) ^^^ (rot ((wL bs j).getD (j - 2) 0) 19)) ^^^ (shr32 ((wL bs j).getD (j - 2) 0) 10)))))]) (cs := ([((((wL bs j).getD (j - 16) 0) + (((rot ((wL bs j).getD (j - 15) 0) 7) ^^^ (rot ((wL bs j).getD (j - 15) 0) 18)) ^^^ (shr32 ((wL bs j).getD (j - 15) 0) 3))) + ((wL bs j).getD (j - 7) 0)) + (((rot ((wL bs j).getD (j - 2) 0) 17) ^^^ (rot ((wL bs j).getD (j - 2) 0) 19)) ^^^ (shr32 ((wL bs j).getD (j - 2) 0) 10))] : List UInt32).map vu32) h_56 underlying172 sizeOf169 (zv typeInfo169 rfl) rfl rfl (by kernel_rfl) rfl (one_u32 _) rfl rfl (fun b_65 w_66 h_67 => ?_)
       refine WL.nil ?_
       refine ⟨(N2_3_4_5 h_67.ok), ?_⟩
       refine WT.s (oN rfl ?_)
       refine WL.append (km := j + 1) (xs := (wL bs j).map vu32) (ys := ([((((wL bs j).getD (j - 16) 0) + (((rot ((wL bs j).getD (j - 15) 0) 7) ^^^ (rot ((wL bs j).getD (j - 15) 0) 18)) ^^^ (shr32 ((wL bs j).getD (j - 15) 0) 3))) + ((wL bs j).getD (j - 7) 0)) + (((rot ((wL bs j).getD (j - 2) 0) 17) ^^^ (rot ((wL bs j).getD (j - 2) 0) 19)) ^^^ (shr32 ((wL bs j).getD (j - 2) 0) 10))] : List UInt32).map vu32) (zs := ((wL bs j) ++ ([((((wL bs j).getD (j - 16) 0) + (((rot ((wL bs j).getD (j - 15) 0) 7) ^^^ (rot ((wL bs j).getD (j - 15) 0) 18)) ^^^ (shr32 ((wL bs j).getD (j - 15) 0) 3))) + ((wL bs j).getD (j - 7) 0)) + (((rot ((wL bs j).getD (j - 2) 0) 17) ^^^ (rot ((wL bs j).getD (j - 2) 0) 19)) ^^^ (shr32 ((wL bs j).getD (j - 2) 0) 10))] : List UInt32)).map vu32) h_67 rfl rfl el172 (viewB (h_67.ok _ M0) Sg.h) ((len_map (rfl : List.length ([((((wL bs j).getD (j - 16) 0) + (((rot ((wL bs j).getD (j - 15) 0) 7) ^^^ (rot ((wL bs j).getD (j - 15) 0) 18)) ^^^ (shr32 ((wL bs j).getD (j - 15) 0) 3))) + ((wL bs j).getD (j - 7) 0)) + (((rot ((wL bs j).getD (j - 2) 0) 17) ^^^ (rot ((wL bs j).getD (j - 2) 0) 19)) ^^^ (shr32 ((wL bs j).getD (j - 2) 0) 10))] : List UInt32) = 1)).trans (Nat.mul_one _).symm) (one_u32 _) (by simp only [List.map_append, List.map_nil]) (by omega) (by omega) (by omega) (fun _ _ => Y1) rfl (fun a_68 c_69 w_70 h_71 => ?_)
       refine WL.nil ?_
       refine ⟨(N2_3_4_5 h_71.ok), ?_⟩
       refine qT rfl rfl (fun wq hS => R.assign (v := (.slice a_68 (j + 1) c_69)) rfl) ?_
       refine WT.nil (thn_n ?_)
       exact ⟨(a_68, c_69, b_65), (Ag.upd rfl (U2 rfl rfl (U4 rfl rfl rfl rfl (U4 rfl rfl rfl rfl (U4 rfl rfl rfl rfl (U4 rfl rfl rfl rfl (Ag.refl _ _))))))), ⟨rfl, rfl, rfl, rfl, rfl, rfl, rfl, rfl, rfl, rfl, rfl, rfl, rfl, rfl, rfl, rfl, rfl, rfl, rfl, trivial⟩, h_71⟩
      ·refine oN rfl ?_
       refine qV rfl (R.loadG rfl (ownView (h_56.ok _ M0)) isAgg169 (get_u32 (lt_len (K := j) (wL_len bs j) (by omega)))) ?_
       refine WL.nil ?_
       refine ⟨(N1_2_3_4 h_56.ok), ?_⟩
       refine WT.s (oN rfl ?_)
       refine qV rfl (R.loadG rfl (ownView (h_56.ok _ M0)) isAgg169 (get_u32 (lt_len (K := j) (wL_len bs j) (by omega)))) ?_
       refine WL.nil ?_
       refine ⟨(N1_2_3_4 h_56.ok), ?_⟩
       refine qT rfl rfl (fun wq hS => R.bin rfl rfl (b32_add ((wL bs j).getD (j - 16) 0) (((rot ((wL bs j).getD (j - 15) 0) 7) ^^^ (rot ((wL bs j).getD (j - 15) 0) 18)) ^^^ (shr32 ((wL bs j).getD (j - 15) 0) 3)))) ?_
       refine qT rfl rfl (fun wq hS => R.bin rfl rfl (b32_add (((wL bs j).getD (j - 16) 0) + (((rot ((wL bs j).getD (j - 15) 0) 7) ^^^ (rot ((wL bs j).getD (j - 15) 0) 18)) ^^^ (shr32 ((wL bs j).getD (j - 15) 0) 3))) ((wL bs j).getD (j - 7) 0))) ?_
       refine qT rfl rfl (fun wq hS => R.bin rfl rfl (b32_add ((((wL bs j).getD (j - 16) 0) + (((rot ((wL bs j).getD (j - 15) 0) 7) ^^^ (rot ((wL bs j).getD (j - 15) 0) 18)) ^^^ (shr32 ((wL bs j).getD (j - 15) 0) 3))) + ((wL bs j).getD (j - 7) 0)) (((rot ((wL bs j).getD (j - 2) 0) 17) ^^^ (rot ((wL bs j).getD (j - 2) 0) 19)) ^^^ (shr32 ((wL bs j).getD (j - 2) 0) 10)))) ?_
       refine WT.s (oN rfl ?_)
       refine WL.buildSl (vs := [(0, (vu32 (((((wL bs j).getD (j - 16) 0) + (((rot ((wL bs j).getD (j - 15) 0) 7) ^^^ (rot ((wL bs j).getD (j - 15) 0) 18)) ^^^ (shr32 ((wL bs j).getD (j - 15) 0) 3))) + ((wL bs j).getD (j - 7) 0)) + (((rot ((wL bs j).getD (j - 2) 0) 17) ^^^ (rot ((wL bs j).getD (j - 2) 0) 19)) ^^^ (shr32 ((wL bs j).getD (j - 2) 0) 10)))))]) (cs := ([((((wL bs j).getD (j - 16) 0) + (((rot ((wL bs j).getD (j - 15) 0) 7) ^^^ (rot ((wL bs j).getD (j - 15) 0) 18)) ^^^ (shr32 ((wL bs j).getD (j - 15) 0) 3))) + ((wL bs j).getD (j - 7) 0)) + (((rot ((wL bs j).getD (j - 2) 0) 17) ^^^ (rot ((wL bs j).getD (j - 2) 0) 19)) ^^^ (shr32 ((wL bs j).getD (j - 2) 0) 10))] : List UInt32).map vu32) h_56 underlying172 sizeOf169 (zv typeInfo169 rfl) rfl rfl (by kernel_rfl) rfl (one_u32 _) rfl rfl (fun b_72 w_73 h_74 => ?_)
       refine WL.nil ?_
       refine ⟨(N2_3_4_5 h_74.ok), ?_⟩
       refine WT.s (oN rfl ?_)
       refine WL.append (km := j + 1) (xs := (wL bs j).map vu32) (ys := ([((((wL bs j).getD (j - 16) 0) + (((rot ((wL bs j).getD (j - 15) 0) 7) ^^^ (rot ((wL bs j).getD (j - 15) 0) 18)) ^^^ (shr32 ((wL bs j).getD (j - 15) 0) 3))) + ((wL bs j).getD (j - 7) 0)) + (((rot ((wL bs j).getD (j - 2) 0) 17) ^^^ (rot ((wL bs j).getD (j - 2) 0) 19)) ^^^ (shr32 ((wL bs j).getD (j - 2) 0) 10))] : List UInt32).map vu32) (zs := ((wL bs j) ++ ([((((wL bs j).getD (j - 16) 0) + (((rot ((wL bs j).getD (j - 15) 0) 7) ^^^ (rot ((wL bs j).getD (j - 15) 0) 18)) ^^^ (shr32 ((wL bs j).getD (j - 15) 0) 3))) + ((wL bs j).getD (j - 7) 0)) + (((rot ((wL bs j).getD (j - 2) 0) 17) ^^^ (rot ((wL bs j).getD (j - 2) 0) 19)) ^^^ (shr32 ((wL bs j).getD (j - 2) 0) 10))] : List UInt32)).map vu32) h_74 rfl rfl el172 (viewB (h_74.ok _ M0) Sg.h) ((len_map (rfl : List.length ([((((wL bs j).getD (j - 16) 0) + (((rot ((wL bs j).getD (j - 15) 0) 7) ^^^ (rot ((wL bs j).getD (j - 15) 0) 18)) ^^^ (shr32 ((wL bs j).getD (j - 15) 0) 3))) + ((wL bs j).getD (j - 7) 0)) + (((rot ((wL bs j).getD (j - 2) 0) 17) ^^^ (rot ((wL bs j).getD (j - 2) 0) 19)) ^^^ (shr32 ((wL bs j).getD (j - 2) 0) 10))] : List UInt32) = 1)).trans (Nat.mul_one _).symm) (one_u32 _) (by simp only [List.map_append, List.map_nil]) (by omega) (by omega) (by omega) (fun _ _ => Y1) rfl (fun a_75 c_76 w_77 h_78 => ?_)
       refine WL.nil ?_
       refine ⟨(N2_3_4_5 h_78.ok), ?_⟩
       refine qT rfl rfl (fun wq hS => R.assign (v := (.slice a_75 (j + 1) c_76)) rfl) ?_
       refine WT.nil (thn_n ?_)
       exact ⟨(a_75, c_76, b_72), (Ag.upd rfl (U2 rfl rfl (U4 rfl rfl rfl rfl (U4 rfl rfl rfl rfl (U4 rfl rfl rfl rfl (U4 rfl rfl rfl rfl (Ag.refl _ _))))))), ⟨rfl, rfl, rfl, rfl, rfl, rfl, rfl, rfl, rfl, rfl, rfl, rfl, rfl, rfl, rfl, rfl, rfl, rfl, rfl, trivial⟩, h_78⟩
    ·refine oN rfl ?_
     refine qV rfl (R.indexS (a := ra2) (i := j - 7) (off := j - 7) (xs := (wL bs j).map vu32) rfl rfl rfl (by omega) (ownView (h_56.ok _ M0)) (lt_len (K := j) (len_map (wL_len bs j)) (by omega)) underlying172 sizeOf169 (Nat.mul_one _).symm) ?_
     refine WL.nil ?_
     refine ⟨(N1_2_3_4 h_56.ok), ?_⟩
     refine WT.s2 ?_ ?_
     ·refine oN rfl ?_
      refine qV rfl (R.indexS (a := ra2) (i := j - 16) (off := j - 16) (xs := (wL bs j).map vu32) rfl rfl rfl (by omega) (ownView (h_56.ok _ M0)) (lt_len (K := j) (len_map (wL_len bs j)) (by omega)) underlying172 sizeOf169 (Nat.mul_one _).symm) ?_
      refine WL.nil ?_
      refine ⟨(N1_2_3_4 h_56.ok), ?_⟩
      refine WT.s2 ?_ ?_
      ·refine oN rfl ?_
       refine qV rfl (R.loadG rfl (ownView (h_56.ok _ M0)) isAgg169 (get_u32 (lt_len (K := j) (wL_len bs j) (by omega)))) ?_
       refine WL.nil ?_
       refine ⟨(N1_2_3_4 h_56.ok), ?_⟩
       refine qT rfl rfl (fun wq hS => R.bin rfl rfl (b32_add ((wL bs j).getD (j - 16) 0) (((rot ((wL bs j).getD (j - 15) 0) 7) ^^^ (rot ((wL bs j).getD (j - 15) 0) 18)) ^^^ (shr32 ((wL bs j).getD (j - 15) 0) 3)))) ?_
       refine WT.s (oN rfl ?_)
       refine qV rfl (R.loadG rfl (ownView (h_56.ok _ M0)) isAgg169 (get_u32 (lt_len (K := j) (wL_len bs j) (by omega)))) ?_
       refine WL.nil ?_
       refine ⟨(N1_2_3_4 h_56.ok), ?_⟩
       refine qT rfl rfl (fun wq hS => R.bin rfl rfl (b32_add (((wL bs j).getD (j - 16) 0) + (((rot ((wL bs j).getD (j - 15) 0) 7) ^^^ (rot ((wL bs j).getD (j - 15) 0) 18)) ^^^ (shr32 ((wL bs j).getD (j - 15) 0) 3))) ((wL bs j).getD (j - 7) 0))) ?_
       refine qT rfl rfl (fun wq hS => R.bin rfl rfl (b32_add ((((wL bs j).getD (j - 16) 0) + (((rot ((wL bs j).getD (j - 15) 0) 7) ^^^ (rot ((wL bs j).getD (j - 15) 0) 18)) ^^^ (shr32 ((wL bs j).getD (j - 15) 0) 3))) + ((wL bs j).getD (j - 7) 0)) (((rot ((wL bs j).getD (j - 2) 0) 17) ^^^ (rot ((wL bs j).getD (j - 2) 0) 19)) ^^^ (shr32 ((wL bs j).getD (j - 2) 0) 10)))) ?_
       refine WT.s (oN rfl ?_)
       refine WL.buildSl (vs := [(0, (vu32 (((((wL bs j).getD (j - 16) 0) + (((rot ((wL bs j).getD (j - 15) 0) 7) ^^^ (rot ((wL bs j).getD (j - 15) 0) 18)) ^^^ (shr32 ((wL bs j).getD (j - 15) 0) 3))) + ((wL bs j).getD (j - 7) 0)) + (((rot ((wL bs j).getD (j - 2) 0) 17) ^^^ (rot ((wL bs j).getD (j - 2) 0) 19)) ^^^ (shr32 ((wL bs j).getD (j - 2) 0) 10)))))]) (cs := ([((((wL bs j).getD (j - 16) 0) + (((rot ((wL bs j).getD (j - 15) 0) 7) ^^^ (rot ((wL bs j).getD (j - 15) 0) 18)) ^^^ (shr32 ((wL bs j).getD (j - 15) 0) 3))) + ((wL bs j).getD (j - 7) 0)) + (((rot ((wL bs j).getD (j - 2) 0) 17) ^^^ (rot ((wL bs j).getD (j - 2) 0) 19)) ^^^ (shr32 ((wL bs j).getD (j - 2) 0) 10))] : List UInt32).map vu32) h_56 underlying172 sizeOf169 (zv typeInfo169 rfl) rfl rfl (by kernel_rfl) rfl (one_u32 _) rfl rfl (fun b_79 w_80 h_81 => ?_)
       refine WL.nil ?_
       refine ⟨(N2_3_4_5 h_81.ok), ?_⟩
       refine WT.s (oN rfl ?_)
       refine WL.append (km := j + 1) (xs := (wL bs j).map vu32) (ys := ([((((wL bs j).getD (j - 16) 0) + (((rot ((wL bs j).getD (j - 15) 0) 7) ^^^ (rot ((wL bs j).getD (j - 15) 0) 18)) ^^^ (shr32 ((wL bs j).getD (j - 15) 0) 3))) + ((wL bs j).getD (j - 7) 0)) + (((rot ((wL bs j).getD (j - 2) 0) 17) ^^^ (rot ((wL bs j).getD (j - 2) 0) 19)) ^^^ (shr32 ((wL bs j).getD (j - 2) 0) 10))] : List UInt32).map vu32) (zs := ((wL bs j) ++ ([((((wL bs j).getD (j - 16) 0) + (((rot ((wL bs j).getD (j - 15) 0) 7) ^^^ (rot ((wL bs j).getD (j - 15) 0) 18)) ^^^ (shr32 ((wL bs j).getD (j - 15) 0) 3))) + ((wL bs j).getD (j - 7) 0)) + (((rot ((wL bs j).getD (j - 2) 0) 17) ^^^ (rot ((wL bs j).getD (j - 2) 0) 19)) ^^^ (shr32 ((wL bs j).getD (j - 2) 0) 10))] : List UInt32)).map vu32) h_81 rfl rfl el172 (viewB (h_81.ok _ M0) Sg.h) ((len_map (rfl : List.length ([((((wL bs j).getD (j - 16) 0) + (((rot ((wL bs j).getD (j - 15) 0) 7) ^^^ (rot ((wL bs j).getD (j - 15) 0) 18)) ^^^ (shr32 ((wL bs j).getD (j - 15) 0) 3))) + ((wL bs j).getD (j - 7) 0)) + (((rot ((wL bs j).getD (j - 2) 0) 17) ^^^ (rot ((wL bs j).getD (j - 2) 0) 19)) ^^^ (shr32 ((wL bs j).getD (j - 2) 0) 10))] : List UInt32) = 1)).trans (Nat.mul_one _).symm) (one_u32 _) (by simp only [List.map_append, List.map_nil]) (by omega) (by omega) (by omega) (fun _ _ => Y1) rfl (fun a_82 c_83 w_84 h_85 => ?_)
       refine WL.nil ?_
       refine ⟨(N2_3_4_5 h_85.ok), ?_⟩
       refine qT rfl rfl (fun wq hS => R.assign (v := (.slice a_82 (j + 1) c_83)) rfl) ?_
       refine WT.nil (thn_n ?_)
       exact ⟨(a_82, c_83, b_79), (Ag.upd rfl (U2 rfl rfl (U4 rfl rfl rfl rfl (U4 rfl rfl rfl rfl (U4 rfl rfl rfl rfl (U4 rfl rfl rfl rfl (Ag.refl _ _))))))), ⟨rfl, rfl, rfl, rfl, rfl, rfl, rfl, rfl, rfl, rfl, rfl, rfl, rfl, rfl, rfl, rfl, rfl, rfl, rfl, trivial⟩, h_85⟩
      ·refine oN rfl ?_
       refine qV rfl (R.loadG rfl (ownView (h_56.ok _ M0)) isAgg169 (get_u32 (lt_len (K := j) (wL_len bs j) (by omega)))) ?_
       refine WL.nil ?_
       refine ⟨(N1_2_3_4 h_56.ok), ?_⟩
       refine WT.s (oN rfl ?_)
       refine qV rfl (R.loadG rfl (ownView (h_56.ok _ M0)) isAgg169 (get_u32 (lt_len (K := j) (wL_len bs j) (by omega)))) ?_
       refine WL.nil ?_
       refine ⟨(N1_2_3_4 h_56.ok), ?_⟩
       refine qT rfl rfl (fun wq hS => R.bin rfl rfl (b32_add ((wL bs j).getD (j - 16) 0) (((rot ((wL bs j).getD (j - 15) 0) 7) ^^^ (rot ((wL bs j).getD (j - 15) 0) 18)) ^^^ (shr32 ((wL bs j).getD (j - 15) 0) 3)))) ?_
       refine qT rfl rfl (fun wq hS => R.bin rfl rfl (b32_add (((wL bs j).getD (j - 16) 0) + (((rot ((wL bs j).getD (j - 15) 0) 7) ^^^ (rot ((wL bs j).getD (j - 15) 0) 18)) ^^^ (shr32 ((wL bs j).getD (j - 15) 0) 3))) ((wL bs j).getD (j - 7) 0))) ?_
       refine qT rfl rfl (fun wq hS => R.bin rfl rfl (b32_add ((((wL bs j).getD (j - 16) 0) + (((rot ((wL bs j).getD (j - 15) 0) 7) ^^^ (rot ((wL bs j).getD (j - 15) 0) 18)) ^^^ (shr32 ((wL bs j).getD (j - 15) 0) 3))) + ((wL bs j).getD (j - 7) 0)) (((rot ((wL bs j).getD (j - 2) 0) 17) ^^^ (rot ((wL bs j).getD (j - 2) 0) 19)) ^^^ (shr32 ((wL bs j).getD (j - 2) 0) 10)))) ?_
       refine WT.s (oN rfl ?_)
       refine WL.buildSl (vs := [(0, (vu32 (((((wL bs j).getD (j - 16) 0) + (((rot ((wL bs j).getD (j - 15) 0) 7) ^^^ (rot ((wL bs j).getD (j - 15) 0) 18)) ^^^ (shr32 ((wL bs j).getD (j - 15) 0) 3))) + ((wL bs j).getD (j - 7) 0)) + (((rot ((wL bs j).getD (j - 2) 0) 17) ^^^ (rot ((wL bs j).getD (j - 2) 0) 19)) ^^^ (shr32 ((wL bs j).getD (j - 2) 0) 10)))))]) (cs := ([((((wL bs j).getD (j - 16) 0) + (((rot ((wL bs j).getD (j - 15) 0) 7) ^^^ (rot ((wL bs j).getD (j - 15) 0) 18)) ^^^ (shr32 ((wL bs j).getD (j - 15) 0) 3))) + ((wL bs j).getD (j - 7) 0)) + (((rot ((wL bs j).getD (j - 2) 0) 17) ^^^ (rot ((wL bs j).getD (j - 2) 0) 19)) ^^^ (shr32 ((wL bs j).getD (j - 2) 0) 10))] : List UInt32).map vu32) h_56 underlying172 sizeOf169 (zv typeInfo169 rfl) rfl rfl (by kernel_rfl) rfl (one_u32 _) rfl rfl (fun b_86 w_87 h_88 => ?_)
       refine WL.nil ?_
       refine ⟨(N2_3_4_5 h_88.ok), ?_⟩
       refine WT.s (oN rfl ?_)
       refine WL.append (km := j + 1) (xs := (wL bs j).map vu32) (ys := ([((((wL bs j).getD (j - 16) 0) + (((rot ((wL bs j).getD (j - 15) 0) 7) ^^^ (rot ((wL bs j).getD (j - 15) 0) 18)) ^^^ (shr32 ((wL bs j).getD (j - 15) 0) 3))) + ((wL bs j).getD (j - 7) 0)) + (((rot ((wL bs j).getD (j - 2) 0) 17) ^^^ (rot ((wL bs j).getD (j - 2) 0) 19)) ^^^ (shr32 ((wL bs j).getD (j - 2) 0) 10))] : List UInt32).map vu32) (zs := ((wL bs j) ++ ([((((wL bs j).getD (j - 16) 0) + (((rot ((wL bs j).getD (j - 15) 0) 7) ^^^ (rot ((wL bs j).getD (j - 15) 0) 18)) ^^^ (shr32 ((wL bs j).getD (j - 15) 0) 3))) + ((wL bs j).getD (j - 7) 0)) + (((rot ((wL bs j).getD (j - 2) 0) 17) ^^^ (rot ((wL bs j).getD (j - 2) 0) 19)) ^^^ (shr32 ((wL bs j).getD (j - 2) 0) 10))] : List UInt32)).map vu32) h_88 rfl rfl el172 (viewB (h_88.ok _ M0) Sg.h) ((len_map (rfl : List.length ([((((wL bs j).getD (j - 16) 0) + (((rot ((wL bs j).getD (j - 15) 0) 7) ^^^ (rot ((wL bs j).getD (j - 15) 0) 18)) ^^^ (shr32 ((wL bs j).getD (j - 15) 0) 3))) + ((wL bs j).getD (j - 7) 0)) + (((rot ((wL bs j).getD (j - 2) 0) 17) ^^^ (rot ((wL bs j).getD (j - 2) 0) 19)) ^^^ (shr32 ((wL bs j).getD (j - 2) 0) 10))] : List UInt32) = 1)).trans (Nat.mul_one _).symm) (one_u32 _) (by simp only [List.map_append, List.map_nil]) (by omega) (by omega) (by omega) (fun _ _ => Y1) rfl (fun a_89 c_90 w_91 h_92 => ?_)
       refine WL.nil ?_
       refine ⟨(N2_3_4_5 h_92.ok), ?_⟩
       refine qT rfl rfl (fun wq hS => R.assign (v := (.slice a_89 (j + 1) c_90)) rfl) ?_
       refine WT.nil (thn_n ?_)
       exact ⟨(a_89, c_90, b_86), (Ag.upd rfl (U2 rfl rfl (U4 rfl rfl rfl rfl (U4 rfl rfl rfl rfl (U4 rfl rfl rfl rfl (U4 rfl rfl rfl rfl (Ag.refl _ _))))))), ⟨rfl, rfl, rfl, rfl, rfl, rfl, rfl, rfl, rfl, rfl, rfl, rfl, rfl, rfl, rfl, rfl, rfl, rfl, rfl, trivial⟩, h_92⟩
     ·refine oN rfl ?_
      refine qV rfl (R.loadG rfl (ownView (h_56.ok _ M0)) isAgg169 (get_u32 (lt_len (K := j) (wL_len bs j) (by omega)))) ?_
      refine WL.nil ?_
      refine ⟨(N1_2_3_4 h_56.ok), ?_⟩
      refine WT.s (oN rfl ?_)
      refine qV rfl (R.indexS (a := ra2) (i := j - 16) (off := j - 16) (xs := (wL bs j).map vu32) rfl rfl rfl (by omega) (ownView (h_56.ok _ M0)) (lt_len (K := j) (len_map (wL_len bs j)) (by omega)) underlying172 sizeOf169 (Nat.mul_one _).symm) ?_
      refine WL.nil ?_
      refine ⟨(N1_2_3_4 h_56.ok), ?_⟩
      refine WT.s (oN rfl ?_)
      refine qV rfl (R.loadG rfl (ownView (h_56.ok _ M0)) isAgg169 (get_u32 (lt_len (K := j) (wL_len bs j) (by omega)))) ?_
      refine WL.nil ?_
      refine ⟨(N1_2_3_4 h_56.ok), ?_⟩
      refine qT rfl rfl (fun wq hS => R.bin rfl rfl (b32_add ((wL bs j).getD (j - 16) 0) (((rot ((wL bs j).getD (j - 15) 0) 7) ^^^ (rot ((wL bs j).getD (j - 15) 0) 18)) ^^^ (shr32 ((wL bs j).getD (j - 15) 0) 3)))) ?_
      refine qT rfl rfl (fun wq hS => R.bin rfl rfl (b32_add (((wL bs j).getD (j - 16) 0) + (((rot ((wL bs j).getD (j - 15) 0) 7) ^^^ (rot ((wL bs j).getD (j - 15) 0) 18)) ^^^ (shr32 ((wL bs j).getD (j - 15) 0) 3))) ((wL bs j).getD (j - 7) 0))) ?_
      refine qT rfl rfl (fun wq hS => R.bin rfl rfl (b32_add ((((wL bs j).getD (j - 16) 0) + (((rot ((wL bs j).getD (j - 15) 0) 7) ^^^ (rot ((wL bs j).getD (j - 15) 0) 18)) ^^^ (shr32 ((wL bs j).getD (j - 15) 0) 3))) + ((wL bs j).getD (j - 7) 0)) (((rot ((wL bs j).getD (j - 2) 0) 17) ^^^ (rot ((wL bs j).getD (j - 2) 0) 19)) ^^^ (shr32 ((wL bs j).getD (j - 2) 0) 10)))) ?_
      refine WT.s (oN rfl ?_)
      refine WL.buildSl (vs := [(0, (vu32 (((((wL bs j).getD (j - 16) 0) + (((rot ((wL bs j).getD (j - 15) 0) 7) ^^^ (rot ((wL bs j).getD (j - 15) 0) 18)) ^^^ (shr32 ((wL bs j).getD (j - 15) 0) 3))) + ((wL bs j).getD (j - 7) 0)) + (((rot ((wL bs j).getD (j - 2) 0) 17) ^^^ (rot ((wL bs j).getD (j - 2) 0) 19)) ^^^ (shr32 ((wL bs j).getD (j - 2) 0) 10)))))]) (cs := ([((((wL bs j).getD (j - 16) 0) + (((rot ((wL bs j).getD (j - 15) 0) 7) ^^^ (rot ((wL bs j).getD (j - 15) 0) 18)) ^^^ (shr32 ((wL bs j).getD (j - 15) 0) 3))) + ((wL bs j).getD (j - 7) 0)) + (((rot ((wL bs j).getD (j - 2) 0) 17) ^^^ (rot ((wL bs j).getD (j - 2) 0) 19)) ^^^ (shr32 ((wL bs j).getD (j - 2) 0) 10))] : List UInt32).map vu32) h_56 underlying172 sizeOf169 (zv typeInfo169 rfl) rfl rfl (by kernel_rfl) rfl (one_u32 _) rfl rfl (fun b_93 w_94 h_95 => ?_)
      refine WL.nil ?_
      refine ⟨(N2_3_4_5 h_95.ok), ?_⟩
      refine WT.s (oN rfl ?_)
      refine WL.append (km := j + 1) (xs := (wL bs j).map vu32) (ys := ([((((wL bs j).getD (j - 16) 0) + (((rot ((wL bs j).getD (j - 15) 0) 7) ^^^ (rot ((wL bs j).getD (j - 15) 0) 18)) ^^^ (shr32 ((wL bs j).getD (j - 15) 0) 3))) + ((wL bs j).getD (j - 7) 0)) + (((rot ((wL bs j).getD (j - 2) 0) 17) ^^^ (rot ((wL bs j).getD (j - 2) 0) 19)) ^^^ (shr32 ((wL bs j).getD (j - 2) 0) 10))] : List UInt32).map vu32) (zs := ((wL bs j) ++ ([((((wL bs j).getD (j - 16) 0) + (((rot ((wL bs j).getD (j - 15) 0) 7) ^^^ (rot ((wL bs j).getD (j - 15) 0) 18)) ^^^ (shr32 ((wL bs j).getD (j - 15) 0) 3))) + ((wL bs j).getD (j - 7) 0)) + (((rot ((wL bs j).getD (j - 2) 0) 17) ^^^ (rot ((wL bs j).getD (j - 2) 0) 19)) ^^^ (shr32 ((wL bs j).getD (j - 2) 0) 10))] : List UInt32)).map vu32) h_95 rfl rfl el172 (viewB (h_95.ok _ M0) Sg.h) ((len_map (rfl : List.length ([((((wL bs j).getD (j - 16) 0) + (((rot ((wL bs j).getD (j - 15) 0) 7) ^^^ (rot ((wL bs j).getD (j - 15) 0) 18)) ^^^ (shr32 ((wL bs j).getD (j - 15) 0) 3))) + ((wL bs j).getD (j - 7) 0)) + (((rot ((wL bs j).getD (j - 2) 0) 17) ^^^ (rot ((wL bs j).getD (j - 2) 0) 19)) ^^^ (shr32 ((wL bs j).getD (j - 2) 0) 10))] : List UInt32) = 1)).trans (Nat.mul_one _).symm) (one_u32 _) (by simp only [List.map_append, List.map_nil]) (by omega) (by omega) (by omega) (fun _ _ => Y1) rfl (fun a_96 c_97 w_98 h_99 => ?_)
      refine WL.nil ?_
      refine ⟨(N2_3_4_5 h_99.ok), ?_⟩
      refine qT rfl rfl (fun wq hS => R.assign (v := (.slice a_96 (j + 1) c_97)) rfl) ?_
      refine WT.nil (thn_n ?_)
      exact ⟨(a_96, c_97, b_93), (Ag.upd rfl (U2 rfl rfl (U4 rfl rfl rfl rfl (U4 rfl rfl rfl rfl (U4 rfl rfl rfl rfl (U4 rfl rfl rfl rfl (Ag.refl _ _))))))), ⟨rfl, rfl, rfl, rfl, rfl, rfl, rfl, rfl, rfl, rfl, rfl, rfl, rfl, rfl, rfl, rfl, rfl, rfl, rfl, trivial⟩, h_99⟩
   ·rintro ⟨a_103, c_104, b_105⟩ J_100 w_101 h_102
    refine inb_n (thn_n (WP.reg ?_))
    refine qM (vn j) rfl rfl (qV rfl (R.bin rfl rfl (bi_add (c := ((j + 1 : Nat) : Int)) (by omega) (by omega))) (qA (vn (j + 1)) rfl rfl ?_))
    refine WL.nil (thn_n ?_)
    have h_111 := (((((h_102.drop rfl).up J4).up J4).up J4).up J4).up J4
    have es : (wL bs j) ++ ([((((wL bs j).getD (j - 16) 0) + (((rot ((wL bs j).getD (j - 15) 0) 7) ^^^ (rot ((wL bs j).getD (j - 15) 0) 18)) ^^^ (shr32 ((wL bs j).getD (j - 15) 0) 3))) + ((wL bs j).getD (j - 7) 0)) + (((rot ((wL bs j).getD (j - 2) 0) 17) ^^^ (rot ((wL bs j).getD (j - 2) 0) 19)) ^^^ (shr32 ((wL bs j).getD (j - 2) 0) 10))] : List UInt32) = wL bs (j + 1) := wL_hi4 (by omega) rfl
    rw [es] at h_111
    exact ⟨(j + 1, a_103, c_104), _, (by omega), (Ag.upd rfl (U2 rfl rfl (Ag.updL rfl (Ag.trans (Ag.sub rfl (Ag.mix _ _ _)) (Ag.upd rfl (Ag.upd rfl (Ag.upd rfl (Ag.upd rfl (Ag.upd rfl (Ag.upd rfl (Ag.upd rfl (Ag.upd rfl (Ag.upd rfl (Ag.upd rfl (Ag.upd rfl (Ag.upd rfl (Ag.upd rfl (Ag.upd rfl (Ag.upd rfl (Ag.upd rfl (Ag.upd rfl (Ag.upd rfl (Ag.upd rfl (Ag.upd rfl (Ag.upd rfl (Ag.upd rfl (Ag.upd rfl (Ag.upd rfl (Ag.upd rfl (Ag.upd rfl (Ag.upd rfl (Ag.upd rfl (Ag.upd rfl (Ag.upd rfl (Ag.upd rfl (Ag.upd rfl (Ag.updL rfl (Ag.mix _ _ _)))))))))))))))))))))))))))))))))))))), ⟨rfl, rfl, trivial⟩, h_111, (by omega), (by omega), rfl⟩
  ·have p_112 := of_decide_eq_false c_38
   refine WP.exit (thn_x (thn_x (inb_hit (thn_n (WP.seq (WP.reg ?_))))))
   refine qV rfl (R.loadA [] [(8, hh.map vu32)] [] (cs := hh.map vu32) rfl isAgg170 sizeOf170 (h_35.ok _ M3) rfl rfl rfl rfl) ?_
   refine WL.alloc (segs := [(8, (zV 8).map vu32)]) h_35 (zv typeInfo170 rfl) rfl (sC (SOk.u32 lr) sN) rfl (fun b_113 w_114 h_115 => ?_)
   refine WL.storeA [] [(8, (zV 8).map vu32)] [(8, hh.map vu32)] [] h_115 rfl rfl sizeOf170 At.h (by decide) rfl rfl rfl rfl rfl rfl (sC (SOk.u32 hhl) sN) (fun w_116 h_117 => ?_)
   refine WL.nil (thn_n (WP.seq (WP.seq (WP.reg ?_))))
   refine qA (vi 0) rfl rfl ?_
   refine WL.nil (thn_n (WP.block ?_))
   have hj64 : j = 64 := by omega
   subst hj64
   have h_118 : HP w w_116 [.blk b_113 .nw 170 [(8, hh.map vu32)], .row ra2 64 rc2 169 1 ((W bs).map vu32), .blk b_7 .nw 170 [(8, (List.replicate 8 (0 : UInt32)).map vu32)], .blk b_4 .nw 163 [(64, bs.map vu8)], .blk b_1 .nw 170 [(8, hh.map vu32)], .view ak (ks.map vu32)] := h_117
   refine WP.loopG (G := Nat) [15, 16, 17, 18, 19, 20, 21, 22, 23, 110, 111, 112, 113, 114, 115, 116, 117, 118, 119, 120, 121, 122, 123, 124, 125, 126, 127, 128, 129, 130, 131, 132, 133, 134, 135, 136, 137, 138, 139, 140, 141, 142, 143, 144, 145, 146, 147, 148, 149, 150, 151, 152, 153, 154, 155, 156, 157, 158, 159, 160, 161, 162, 163, 164, 165, 166, 167, 168, 169, 170, 171, 172, 173, 174, 175, 176, 177, 178, 179, 180, 181, 182, 183, 184, 185, 186, 187, 188, 189] (fun r => [(15, (vn r))]) (fun r m w1 => HP w w1 [.blk b_113 .nw 170 [(8, (stN ks (W bs) hh r).map vu32)], .row ra2 64 rc2 169 1 ((W bs).map vu32), .blk b_7 .nw 170 [(8, (zV 8).map vu32)], .blk b_4 .nw 163 [(64, bs.map vu8)], .blk b_1 .nw 170 [(8, hh.map vu32)], .view ak (ks.map vu32)] ∧ (r ≤ 64) ∧ m = 64 - r) ⟨0, _, ⟨rfl, trivial⟩, h_118, (by omega), rfl⟩ ?_
   rintro r m_121 J_122 w_119 ⟨h_120, hr, rfl⟩
   refine WP.seq (WP.seq (WP.reg ?_))
   refine qM (vn r) rfl rfl (qV rfl (R.bin rfl rfl (bi_lss (r := decide ((((r : Nat) : Int) : Int) < 64)) rfl)) ?_)
   refine WL.nil (thn_n ?_)
   refine WP.cond (b := decide ((((r : Nat) : Int) : Int) < 64)) rfl (fun c_123 => ?_) (fun c_123 => ?_)
   ·have p_124 := of_decide_eq_true c_123
    refine WP.skip (thn_n (WP.seq (WP.block (WP.seq ?_))))
    refine WP.drawT (SL w.heap.size [.blk b_113 .nw 170 [(8, (stN ks (W bs) hh r).map vu32)], .row ra2 64 rc2 169 1 ((W bs).map vu32), .blk b_7 .nw 170 [(8, (zV 8).map vu32)], .blk b_4 .nw 163 [(64, bs.map vu8)], .blk b_1 .nw 170 [(8, hh.map vu32)], .view ak (ks.map vu32)]) (.q 0 (.q 1 (.q 2 (.q 3 (.q 4 (.q 5 (.q 6 (.q 7 (.q 8 (.q 9 (.q 10 (.q 11 (.q 12 (.q 13 (.q 14 (.q 15 (.q 16 (.q 17 .nil)))))))))))))))))) (by kernel_rfl) (by kernel_rfl) rfl (by kernel_rfl) (fun w_125 hc_127 => (SL.cons ((h_120.same hc_127).ok _ M0) (SL.cons ((h_120.same hc_127).ok _ M1) (SL.cons ((h_120.same hc_127).ok _ M2) (SL.cons ((h_120.same hc_127).ok _ M3) (SL.cons ((h_120.same hc_127).ok _ M4) (SL.cons ((h_120.same hc_127).ok _ M5) (SL.nil _ _)))))))) (fun w_125 hc_127 => ?_)
    have h_126 := h_120.same hc_127
    refine qT rfl rfl (fun wq hS => R.indexA (b := b_113) (off := 0) (off' := 0) (i := 0) rfl rfl rfl (by decide) underlying170 sizeOf169 rfl) ?_
    refine qT rfl rfl (fun wq hS => R.loadE (b := b_113) (off := 0) (i := 0) (v := (vu32 ((stN ks (W bs) hh r).getD 0 0))) rfl isAgg169 (hS _ M0) Sg.h rfl (get_u32 (lt_len (K := 8) (stN_len hhl r) (by decide)))) ?_
    refine qT rfl rfl (fun wq hS => R.indexA (b := b_113) (off := 0) (off' := 1) (i := 1) rfl rfl rfl (by decide) underlying170 sizeOf169 rfl) ?_
    refine qT rfl rfl (fun wq hS => R.loadE (b := b_113) (off := 1) (i := 1) (v := (vu32 ((stN ks (W bs) hh r).getD 1 0))) rfl isAgg169 (hS _ M0) Sg.h rfl (get_u32 (lt_len (K := 8) (stN_len hhl r) (by decide)))) ?_
    refine qT rfl rfl (fun wq hS => R.indexA (b := b_113) (off := 0) (off' := 2) (i := 2) rfl rfl rfl (by decide) underlying170 sizeOf169 rfl) ?_
    refine qT rfl rfl (fun wq hS => R.loadE (b := b_113) (off := 2) (i := 2) (v := (vu32 ((stN ks (W bs) hh r).getD 2 0))) rfl isAgg169 (hS _ M0) Sg.h rfl (get_u32 (lt_len (K := 8) (stN_len hhl r) (by decide)))) ?_
    refine qT rfl rfl (fun wq hS => R.indexA (b := b_113) (off := 0) (off' := 4) (i := 4) rfl rfl rfl (by decide) underlying170 sizeOf169 rfl) ?_
    refine qT rfl rfl (fun wq hS => R.loadE (b := b_113) (off := 4) (i := 4) (v := (vu32 ((stN ks (W bs) hh r).getD 4 0))) rfl isAgg169 (hS _ M0) Sg.h rfl (get_u32 (lt_len (K := 8) (stN_len hhl r) (by decide)))) ?_
    refine qT rfl rfl (fun wq hS => R.indexA (b := b_113) (off := 0) (off' := 5) (i := 5) rfl rfl rfl (by decide) underlying170 sizeOf169 rfl) ?_
    refine qT rfl rfl (fun wq hS => R.loadE (b := b_113) (off := 5) (i := 5) (v := (vu32 ((stN ks (W bs) hh r).getD 5 0))) rfl isAgg169 (hS _ M0) Sg.h rfl (get_u32 (lt_len (K := 8) (stN_len hhl r) (by decide)))) ?_
    refine qT rfl rfl (fun wq hS => R.indexA (b := b_113) (off := 0) (off' := 6) (i := 6) rfl rfl rfl (by decide) underlying170 sizeOf169 rfl) ?_
    refine qT rfl rfl (fun wq hS => R.loadE (b := b_113) (off := 6) (i := 6) (v := (vu32 ((stN ks (W bs) hh r).getD 6 0))) rfl isAgg169 (hS _ M0) Sg.h rfl (get_u32 (lt_len (K := 8) (stN_len hhl r) (by decide)))) ?_
    refine qT rfl rfl (fun wq hS => R.assign (v := (vu32 ((stN ks (W bs) hh r).getD 0 0))) rfl) ?_
    refine qT rfl rfl (fun wq hS => R.assign (v := (vu32 ((stN ks (W bs) hh r).getD 1 0))) rfl) ?_
    refine qT rfl rfl (fun wq hS => R.assign (v := (vu32 ((stN ks (W bs) hh r).getD 2 0))) rfl) ?_
    refine qT rfl rfl (fun wq hS => R.assign (v := (vu32 ((stN ks (W bs) hh r).getD 4 0))) rfl) ?_
    refine qT rfl rfl (fun wq hS => R.assign (v := (vu32 ((stN ks (W bs) hh r).getD 5 0))) rfl) ?_
    refine qT rfl rfl (fun wq hS => R.assign (v := (vu32 ((stN ks (W bs) hh r).getD 6 0))) rfl) ?_
    refine WT.nil (thn_n (WP.seq ?_))
    refine WP.drawT (SL w.heap.size [.blk b_113 .nw 170 [(8, (stN ks (W bs) hh r).map vu32)], .row ra2 64 rc2 169 1 ((W bs).map vu32), .blk b_7 .nw 170 [(8, (zV 8).map vu32)], .blk b_4 .nw 163 [(64, bs.map vu8)], .blk b_1 .nw 170 [(8, hh.map vu32)], .view ak (ks.map vu32)]) (.q 0 (.q 1 (.q 2 (.q 4 (.q 7 (.q 11 (.q 12 (.q 13 (.q 14 (.q 15 (.q 16 (.q 17 (.q 18 (.q 20 (.q 21 (.q 22 (.q 23 (.q 25 (.q 26 (.q 27 (.q 28 (.s 3 (.s 5 (.q 6 (.s 8 (.q 9 (.q 10 (.q 19 (.q 24 (.q 29 (.q 30 .nil))))))))))))))))))))))))))))))) (by kernel_rfl) (by kernel_rfl) rfl (by kernel_rfl) (fun w_128 hc_130 => (SL.cons ((h_126.same hc_130).ok _ M0) (SL.cons ((h_126.same hc_130).ok _ M1) (SL.cons ((h_126.same hc_130).ok _ M2) (SL.cons ((h_126.same hc_130).ok _ M3) (SL.cons ((h_126.same hc_130).ok _ M4) (SL.cons ((h_126.same hc_130).ok _ M5) (SL.nil _ _)))))))) (fun w_128 hc_130 => ?_)
    have h_129 := h_126.same hc_130
    refine qT rfl rfl (fun wq hS => R.indexA (b := b_113) (off := 0) (off' := 7) (i := 7) rfl rfl rfl (by decide) underlying170 sizeOf169 rfl) ?_
    refine qT rfl rfl (fun wq hS => R.loadE (b := b_113) (off := 7) (i := 7) (v := (vu32 ((stN ks (W bs) hh r).getD 7 0))) rfl isAgg169 (hS _ M0) Sg.h rfl (get_u32 (lt_len (K := 8) (stN_len hhl r) (by decide)))) ?_
    refine qT rfl rfl (fun wq hS => R.move (v := (vu32 ((stN ks (W bs) hh r).getD 4 0))) rfl) ?_
    refine qT rfl rfl (fun wq hS => R.move (v := (vu32 ((stN ks (W bs) hh r).getD 4 0))) rfl) ?_
    refine qT rfl rfl (fun wq hS => R.move (v := (vu32 ((stN ks (W bs) hh r).getD 4 0))) rfl) ?_
    refine qT rfl rfl (fun wq hS => R.move (v := (vu32 ((stN ks (W bs) hh r).getD 4 0))) rfl) ?_
    refine qT rfl rfl (fun wq hS => R.move (v := (vu32 ((stN ks (W bs) hh r).getD 5 0))) rfl) ?_
    refine qT rfl rfl (fun wq hS => R.bin rfl rfl (b32_and ((stN ks (W bs) hh r).getD 4 0) ((stN ks (W bs) hh r).getD 5 0))) ?_
    refine qT rfl rfl (fun wq hS => R.move (v := (vu32 ((stN ks (W bs) hh r).getD 4 0))) rfl) ?_
    refine qT rfl rfl (fun wq hS => R.un rfl (run_not32 ((stN ks (W bs) hh r).getD 4 0))) ?_
    refine qT rfl rfl (fun wq hS => R.move (v := (vu32 ((stN ks (W bs) hh r).getD 6 0))) rfl) ?_
    refine qT rfl rfl (fun wq hS => R.bin rfl rfl (b32_and (~~~((stN ks (W bs) hh r).getD 4 0)) ((stN ks (W bs) hh r).getD 6 0))) ?_
    refine qT rfl rfl (fun wq hS => R.bin rfl rfl (b32_xor (((stN ks (W bs) hh r).getD 4 0) &&& ((stN ks (W bs) hh r).getD 5 0)) ((~~~((stN ks (W bs) hh r).getD 4 0)) &&& ((stN ks (W bs) hh r).getD 6 0)))) ?_
    refine qT rfl rfl (fun wq hS => R.move (v := (.slice ak 64 kc)) rfl) ?_
    refine qT rfl rfl (fun wq hS => R.move (v := (vn r)) rfl) ?_
    refine qT rfl rfl (fun wq hS => R.indexS (a := ak) (i := r) (off := r) (xs := ks.map vu32) rfl rfl rfl (by omega) (viewV (hS _ M5)) (lt_len (K := 64) (len_map hkl) (by omega)) underlying172 sizeOf169 (Nat.mul_one _).symm) ?_
    refine qT rfl rfl (fun wq hS => R.loadG rfl (viewV (hS _ M5)) isAgg169 (get_u32 (lt_len (K := 64) hkl (by omega)))) ?_
    refine qT rfl rfl (fun wq hS => R.move (v := (.slice ra2 64 rc2)) rfl) ?_
    refine qT rfl rfl (fun wq hS => R.move (v := (vn r)) rfl) ?_
    refine qT rfl rfl (fun wq hS => R.indexS (a := ra2) (i := r) (off := r) (xs := (W bs).map vu32) rfl rfl rfl (by omega) (ownView (hS _ M1)) (lt_len (K := 64) (len_map (W_len bs)) (by omega)) underlying172 sizeOf169 (Nat.mul_one _).symm) ?_
    refine qT rfl rfl (fun wq hS => R.loadG rfl (ownView (hS _ M1)) isAgg169 (get_u32 (lt_len (K := 64) (W_len bs) (by omega)))) ?_
    refine WT.s (oN rfl ?_)
    refine WL.call Tryz.call146 rfl rfl (c_ror6 ((stN ks (W bs) hh r).getD 4 0) _ ) rfl ?_
    rintro _ w_132 ⟨rfl, hc_131⟩
    have h_133 := h_129.same hc_131
    refine WL.nil ?_
    refine ⟨(N0_1_2_3_4_5 h_133.ok), ?_⟩
    refine WT.s (oN rfl ?_)
    refine WL.call Tryz.call146 rfl rfl (c_ror11 ((stN ks (W bs) hh r).getD 4 0) _ ) rfl ?_
    rintro _ w_135 ⟨rfl, hc_134⟩
    have h_136 := h_133.same hc_134
    refine WL.nil ?_
    refine ⟨(N0_1_2_3_4_5 h_136.ok), ?_⟩
    refine qT rfl rfl (fun wq hS => R.bin rfl rfl (b32_xor (rot ((stN ks (W bs) hh r).getD 4 0) 6) (rot ((stN ks (W bs) hh r).getD 4 0) 11))) ?_
    refine WT.s (oN rfl ?_)
    refine WL.call Tryz.call146 rfl rfl (c_ror25 ((stN ks (W bs) hh r).getD 4 0) _ ) rfl ?_
    rintro _ w_138 ⟨rfl, hc_137⟩
    have h_139 := h_136.same hc_137
    refine WL.nil ?_
    refine ⟨(N0_1_2_3_4_5 h_139.ok), ?_⟩
    refine qT rfl rfl (fun wq hS => R.bin rfl rfl (b32_xor ((rot ((stN ks (W bs) hh r).getD 4 0) 6) ^^^ (rot ((stN ks (W bs) hh r).getD 4 0) 11)) (rot ((stN ks (W bs) hh r).getD 4 0) 25))) ?_
    refine qT rfl rfl (fun wq hS => R.bin rfl rfl (b32_add ((stN ks (W bs) hh r).getD 7 0) (((rot ((stN ks (W bs) hh r).getD 4 0) 6) ^^^ (rot ((stN ks (W bs) hh r).getD 4 0) 11)) ^^^ (rot ((stN ks (W bs) hh r).getD 4 0) 25)))) ?_
    refine qT rfl rfl (fun wq hS => R.bin rfl rfl (b32_add (((stN ks (W bs) hh r).getD 7 0) + (((rot ((stN ks (W bs) hh r).getD 4 0) 6) ^^^ (rot ((stN ks (W bs) hh r).getD 4 0) 11)) ^^^ (rot ((stN ks (W bs) hh r).getD 4 0) 25))) ((((stN ks (W bs) hh r).getD 4 0) &&& ((stN ks (W bs) hh r).getD 5 0)) ^^^ ((~~~((stN ks (W bs) hh r).getD 4 0)) &&& ((stN ks (W bs) hh r).getD 6 0))))) ?_
    refine qT rfl rfl (fun wq hS => R.bin rfl rfl (b32_add ((((stN ks (W bs) hh r).getD 7 0) + (((rot ((stN ks (W bs) hh r).getD 4 0) 6) ^^^ (rot ((stN ks (W bs) hh r).getD 4 0) 11)) ^^^ (rot ((stN ks (W bs) hh r).getD 4 0) 25))) + ((((stN ks (W bs) hh r).getD 4 0) &&& ((stN ks (W bs) hh r).getD 5 0)) ^^^ ((~~~((stN ks (W bs) hh r).getD 4 0)) &&& ((stN ks (W bs) hh r).getD 6 0)))) (ks.getD r 0))) ?_
    refine qT rfl rfl (fun wq hS => R.bin rfl rfl (b32_add (((((stN ks (W bs) hh r).getD 7 0) + (((rot ((stN ks (W bs) hh r).getD 4 0) 6) ^^^ (rot ((stN ks (W bs) hh r).getD 4 0) 11)) ^^^ (rot ((stN ks (W bs) hh r).getD 4 0) 25))) + ((((stN ks (W bs) hh r).getD 4 0) &&& ((stN ks (W bs) hh r).getD 5 0)) ^^^ ((~~~((stN ks (W bs) hh r).getD 4 0)) &&& ((stN ks (W bs) hh r).getD 6 0)))) + (ks.getD r 0)) ((W bs).getD r 0))) ?_
    refine qT rfl rfl (fun wq hS => R.assign (v := (vu32 ((((((stN ks (W bs) hh r).getD 7 0) + (((rot ((stN ks (W bs) hh r).getD 4 0) 6) ^^^ (rot ((stN ks (W bs) hh r).getD 4 0) 11)) ^^^ (rot ((stN ks (W bs) hh r).getD 4 0) 25))) + ((((stN ks (W bs) hh r).getD 4 0) &&& ((stN ks (W bs) hh r).getD 5 0)) ^^^ ((~~~((stN ks (W bs) hh r).getD 4 0)) &&& ((stN ks (W bs) hh r).getD 6 0)))) + (ks.getD r 0)) + ((W bs).getD r 0)))) rfl) ?_
    refine WT.nil (thn_n (WP.seq (WP.reg ?_)))
    refine qM (vu32 ((stN ks (W bs) hh r).getD 0 0)) rfl rfl ?_
    refine WL.call Tryz.call146 rfl rfl (c_ror2 ((stN ks (W bs) hh r).getD 0 0) _ ) rfl ?_
    rintro _ w_141 ⟨rfl, hc_140⟩
    have h_142 := h_139.same hc_140
    refine qM (vu32 ((stN ks (W bs) hh r).getD 0 0)) rfl rfl ?_
    refine WL.call Tryz.call146 rfl rfl (c_ror13 ((stN ks (W bs) hh r).getD 0 0) _ ) rfl ?_
    rintro _ w_144 ⟨rfl, hc_143⟩
    have h_145 := h_142.same hc_143
    refine qV rfl (R.bin rfl rfl (b32_xor (rot ((stN ks (W bs) hh r).getD 0 0) 2) (rot ((stN ks (W bs) hh r).getD 0 0) 13))) (qM (vu32 ((stN ks (W bs) hh r).getD 0 0)) rfl rfl ?_)
    refine WL.call Tryz.call146 rfl rfl (c_ror22 ((stN ks (W bs) hh r).getD 0 0) _ ) rfl ?_
    rintro _ w_147 ⟨rfl, hc_146⟩
    have h_148 := h_145.same hc_146
    refine qV rfl (R.bin rfl rfl (b32_xor ((rot ((stN ks (W bs) hh r).getD 0 0) 2) ^^^ (rot ((stN ks (W bs) hh r).getD 0 0) 13)) (rot ((stN ks (W bs) hh r).getD 0 0) 22))) (qM (vu32 ((stN ks (W bs) hh r).getD 0 0)) rfl rfl (qM (vu32 ((stN ks (W bs) hh r).getD 1 0)) rfl rfl (qV rfl (R.bin rfl rfl (b32_and ((stN ks (W bs) hh r).getD 0 0) ((stN ks (W bs) hh r).getD 1 0))) (qM (vu32 ((stN ks (W bs) hh r).getD 0 0)) rfl rfl (qM (vu32 ((stN ks (W bs) hh r).getD 2 0)) rfl rfl (qV rfl (R.bin rfl rfl (b32_and ((stN ks (W bs) hh r).getD 0 0) ((stN ks (W bs) hh r).getD 2 0))) (qV rfl (R.bin rfl rfl (b32_xor (((stN ks (W bs) hh r).getD 0 0) &&& ((stN ks (W bs) hh r).getD 1 0)) (((stN ks (W bs) hh r).getD 0 0) &&& ((stN ks (W bs) hh r).getD 2 0)))) (qM (vu32 ((stN ks (W bs) hh r).getD 1 0)) rfl rfl (qM (vu32 ((stN ks (W bs) hh r).getD 2 0)) rfl rfl (qV rfl (R.bin rfl rfl (b32_and ((stN ks (W bs) hh r).getD 1 0) ((stN ks (W bs) hh r).getD 2 0))) (qV rfl (R.bin rfl rfl (b32_xor ((((stN ks (W bs) hh r).getD 0 0) &&& ((stN ks (W bs) hh r).getD 1 0)) ^^^ (((stN ks (W bs) hh r).getD 0 0) &&& ((stN ks (W bs) hh r).getD 2 0))) (((stN ks (W bs) hh r).getD 1 0) &&& ((stN ks (W bs) hh r).getD 2 0)))) ?_)))))))))))
    refine qV rfl (R.bin rfl rfl (b32_add (((rot ((stN ks (W bs) hh r).getD 0 0) 2) ^^^ (rot ((stN ks (W bs) hh r).getD 0 0) 13)) ^^^ (rot ((stN ks (W bs) hh r).getD 0 0) 22)) (((((stN ks (W bs) hh r).getD 0 0) &&& ((stN ks (W bs) hh r).getD 1 0)) ^^^ (((stN ks (W bs) hh r).getD 0 0) &&& ((stN ks (W bs) hh r).getD 2 0))) ^^^ (((stN ks (W bs) hh r).getD 1 0) &&& ((stN ks (W bs) hh r).getD 2 0))))) (qA (vu32 ((((rot ((stN ks (W bs) hh r).getD 0 0) 2) ^^^ (rot ((stN ks (W bs) hh r).getD 0 0) 13)) ^^^ (rot ((stN ks (W bs) hh r).getD 0 0) 22)) + (((((stN ks (W bs) hh r).getD 0 0) &&& ((stN ks (W bs) hh r).getD 1 0)) ^^^ (((stN ks (W bs) hh r).getD 0 0) &&& ((stN ks (W bs) hh r).getD 2 0))) ^^^ (((stN ks (W bs) hh r).getD 1 0) &&& ((stN ks (W bs) hh r).getD 2 0))))) rfl rfl ?_)
    refine WL.nil (thn_n (WP.reg ?_))
    refine qM (vu32 ((((((stN ks (W bs) hh r).getD 7 0) + (((rot ((stN ks (W bs) hh r).getD 4 0) 6) ^^^ (rot ((stN ks (W bs) hh r).getD 4 0) 11)) ^^^ (rot ((stN ks (W bs) hh r).getD 4 0) 25))) + ((((stN ks (W bs) hh r).getD 4 0) &&& ((stN ks (W bs) hh r).getD 5 0)) ^^^ ((~~~((stN ks (W bs) hh r).getD 4 0)) &&& ((stN ks (W bs) hh r).getD 6 0)))) + (ks.getD r 0)) + ((W bs).getD r 0))) rfl rfl (qM (vu32 ((((rot ((stN ks (W bs) hh r).getD 0 0) 2) ^^^ (rot ((stN ks (W bs) hh r).getD 0 0) 13)) ^^^ (rot ((stN ks (W bs) hh r).getD 0 0) 22)) + (((((stN ks (W bs) hh r).getD 0 0) &&& ((stN ks (W bs) hh r).getD 1 0)) ^^^ (((stN ks (W bs) hh r).getD 0 0) &&& ((stN ks (W bs) hh r).getD 2 0))) ^^^ (((stN ks (W bs) hh r).getD 1 0) &&& ((stN ks (W bs) hh r).getD 2 0))))) rfl rfl (qV rfl (R.bin rfl rfl (b32_add ((((((stN ks (W bs) hh r).getD 7 0) + (((rot ((stN ks (W bs) hh r).getD 4 0) 6) ^^^ (rot ((stN ks (W bs) hh r).getD 4 0) 11)) ^^^ (rot ((stN ks (W bs) hh r).getD 4 0) 25))) + ((((stN ks (W bs) hh r).getD 4 0) &&& ((stN ks (W bs) hh r).getD 5 0)) ^^^ ((~~~((stN ks (W bs) hh r).getD 4 0)) &&& ((stN ks (W bs) hh r).getD 6 0)))) + (ks.getD r 0)) + ((W bs).getD r 0)) ((((rot ((stN ks (W bs) hh r).getD 0 0) 2) ^^^ (rot ((stN ks (W bs) hh r).getD 0 0) 13)) ^^^ (rot ((stN ks (W bs) hh r).getD 0 0) 22)) + (((((stN ks (W bs) hh r).getD 0 0) &&& ((stN ks (W bs) hh r).getD 1 0)) ^^^ (((stN ks (W bs) hh r).getD 0 0) &&& ((stN ks (W bs) hh r).getD 2 0))) ^^^ (((stN ks (W bs) hh r).getD 1 0) &&& ((stN ks (W bs) hh r).getD 2 0)))))) (qM (vu32 ((stN ks (W bs) hh r).getD 0 0)) rfl rfl (qM (vu32 ((stN ks (W bs) hh r).getD 1 0)) rfl rfl (qM (vu32 ((stN ks (W bs) hh r).getD 2 0)) rfl rfl (qV rfl (R.indexA (b := b_113) (off := 0) (off' := 3) (i := 3) rfl rfl rfl (by decide) underlying170 sizeOf169 rfl) (qV rfl (R.loadE (b := b_113) (off := 3) (i := 3) (v := (vu32 ((stN ks (W bs) hh r).getD 3 0))) rfl isAgg169 (h_148.ok _ M0) Sg.h rfl (get_u32 (lt_len (K := 8) (stN_len hhl r) (by decide)))) (qM (vu32 ((((((stN ks (W bs) hh r).getD 7 0) + (((rot ((stN ks (W bs) hh r).getD 4 0) 6) ^^^ (rot ((stN ks (W bs) hh r).getD 4 0) 11)) ^^^ (rot ((stN ks (W bs) hh r).getD 4 0) 25))) + ((((stN ks (W bs) hh r).getD 4 0) &&& ((stN ks (W bs) hh r).getD 5 0)) ^^^ ((~~~((stN ks (W bs) hh r).getD 4 0)) &&& ((stN ks (W bs) hh r).getD 6 0)))) + (ks.getD r 0)) + ((W bs).getD r 0))) rfl rfl (qV rfl (R.bin rfl rfl (b32_add ((stN ks (W bs) hh r).getD 3 0) ((((((stN ks (W bs) hh r).getD 7 0) + (((rot ((stN ks (W bs) hh r).getD 4 0) 6) ^^^ (rot ((stN ks (W bs) hh r).getD 4 0) 11)) ^^^ (rot ((stN ks (W bs) hh r).getD 4 0) 25))) + ((((stN ks (W bs) hh r).getD 4 0) &&& ((stN ks (W bs) hh r).getD 5 0)) ^^^ ((~~~((stN ks (W bs) hh r).getD 4 0)) &&& ((stN ks (W bs) hh r).getD 6 0)))) + (ks.getD r 0)) + ((W bs).getD r 0)))) (qM (vu32 ((stN ks (W bs) hh r).getD 4 0)) rfl rfl (qM (vu32 ((stN ks (W bs) hh r).getD 5 0)) rfl rfl ?_)))))))))))
    refine qM (vu32 ((stN ks (W bs) hh r).getD 6 0)) rfl rfl (qV rfl (R.buildA (vs := [(0, (vu32 (((((((stN ks (W bs) hh r).getD 7 0) + (((rot ((stN ks (W bs) hh r).getD 4 0) 6) ^^^ (rot ((stN ks (W bs) hh r).getD 4 0) 11)) ^^^ (rot ((stN ks (W bs) hh r).getD 4 0) 25))) + ((((stN ks (W bs) hh r).getD 4 0) &&& ((stN ks (W bs) hh r).getD 5 0)) ^^^ ((~~~((stN ks (W bs) hh r).getD 4 0)) &&& ((stN ks (W bs) hh r).getD 6 0)))) + (ks.getD r 0)) + ((W bs).getD r 0)) + ((((rot ((stN ks (W bs) hh r).getD 0 0) 2) ^^^ (rot ((stN ks (W bs) hh r).getD 0 0) 13)) ^^^ (rot ((stN ks (W bs) hh r).getD 0 0) 22)) + (((((stN ks (W bs) hh r).getD 0 0) &&& ((stN ks (W bs) hh r).getD 1 0)) ^^^ (((stN ks (W bs) hh r).getD 0 0) &&& ((stN ks (W bs) hh r).getD 2 0))) ^^^ (((stN ks (W bs) hh r).getD 1 0) &&& ((stN ks (W bs) hh r).getD 2 0))))))), (1, (vu32 ((stN ks (W bs) hh r).getD 0 0))), (2, (vu32 ((stN ks (W bs) hh r).getD 1 0))), (3, (vu32 ((stN ks (W bs) hh r).getD 2 0))), (4, (vu32 (((stN ks (W bs) hh r).getD 3 0) + ((((((stN ks (W bs) hh r).getD 7 0) + (((rot ((stN ks (W bs) hh r).getD 4 0) 6) ^^^ (rot ((stN ks (W bs) hh r).getD 4 0) 11)) ^^^ (rot ((stN ks (W bs) hh r).getD 4 0) 25))) + ((((stN ks (W bs) hh r).getD 4 0) &&& ((stN ks (W bs) hh r).getD 5 0)) ^^^ ((~~~((stN ks (W bs) hh r).getD 4 0)) &&& ((stN ks (W bs) hh r).getD 6 0)))) + (ks.getD r 0)) + ((W bs).getD r 0))))), (5, (vu32 ((stN ks (W bs) hh r).getD 4 0))), (6, (vu32 ((stN ks (W bs) hh r).getD 5 0))), (7, (vu32 ((stN ks (W bs) hh r).getD 6 0)))]) (cs := ([((((((stN ks (W bs) hh r).getD 7 0) + (((rot ((stN ks (W bs) hh r).getD 4 0) 6) ^^^ (rot ((stN ks (W bs) hh r).getD 4 0) 11)) ^^^ (rot ((stN ks (W bs) hh r).getD 4 0) 25))) + ((((stN ks (W bs) hh r).getD 4 0) &&& ((stN ks (W bs) hh r).getD 5 0)) ^^^ ((~~~((stN ks (W bs) hh r).getD 4 0)) &&& ((stN ks (W bs) hh r).getD 6 0)))) + (ks.getD r 0)) + ((W bs).getD r 0)) + ((((rot ((stN ks (W bs) hh r).getD 0 0) 2) ^^^ (rot ((stN ks (W bs) hh r).getD 0 0) 13)) ^^^ (rot ((stN ks (W bs) hh r).getD 0 0) 22)) + (((((stN ks (W bs) hh r).getD 0 0) &&& ((stN ks (W bs) hh r).getD 1 0)) ^^^ (((stN ks (W bs) hh r).getD 0 0) &&& ((stN ks (W bs) hh r).getD 2 0))) ^^^ (((stN ks (W bs) hh r).getD 1 0) &&& ((stN ks (W bs) hh r).getD 2 0)))), (stN ks (W bs) hh r).getD 0 0, (stN ks (W bs) hh r).getD 1 0, (stN ks (W bs) hh r).getD 2 0, ((stN ks (W bs) hh r).getD 3 0) + ((((((stN ks (W bs) hh r).getD 7 0) + (((rot ((stN ks (W bs) hh r).getD 4 0) 6) ^^^ (rot ((stN ks (W bs) hh r).getD 4 0) 11)) ^^^ (rot ((stN ks (W bs) hh r).getD 4 0) 25))) + ((((stN ks (W bs) hh r).getD 4 0) &&& ((stN ks (W bs) hh r).getD 5 0)) ^^^ ((~~~((stN ks (W bs) hh r).getD 4 0)) &&& ((stN ks (W bs) hh r).getD 6 0)))) + (ks.getD r 0)) + ((W bs).getD r 0)), (stN ks (W bs) hh r).getD 4 0, (stN ks (W bs) hh r).getD 5 0, (stN ks (W bs) hh r).getD 6 0] : List UInt32).map vu32) underlying170 sizeOf169 (zv typeInfo170 rfl) rfl (fill8 rfl _ _ _ _ _ _ _ _)) ?_)
    refine WL.storeA [] [(8, (stN ks (W bs) hh r).map vu32)] [(8, ([((((((stN ks (W bs) hh r).getD 7 0) + (((rot ((stN ks (W bs) hh r).getD 4 0) 6) ^^^ (rot ((stN ks (W bs) hh r).getD 4 0) 11)) ^^^ (rot ((stN ks (W bs) hh r).getD 4 0) 25))) + ((((stN ks (W bs) hh r).getD 4 0) &&& ((stN ks (W bs) hh r).getD 5 0)) ^^^ ((~~~((stN ks (W bs) hh r).getD 4 0)) &&& ((stN ks (W bs) hh r).getD 6 0)))) + (ks.getD r 0)) + ((W bs).getD r 0)) + ((((rot ((stN ks (W bs) hh r).getD 0 0) 2) ^^^ (rot ((stN ks (W bs) hh r).getD 0 0) 13)) ^^^ (rot ((stN ks (W bs) hh r).getD 0 0) 22)) + (((((stN ks (W bs) hh r).getD 0 0) &&& ((stN ks (W bs) hh r).getD 1 0)) ^^^ (((stN ks (W bs) hh r).getD 0 0) &&& ((stN ks (W bs) hh r).getD 2 0))) ^^^ (((stN ks (W bs) hh r).getD 1 0) &&& ((stN ks (W bs) hh r).getD 2 0)))), (stN ks (W bs) hh r).getD 0 0, (stN ks (W bs) hh r).getD 1 0, (stN ks (W bs) hh r).getD 2 0, ((stN ks (W bs) hh r).getD 3 0) + ((((((stN ks (W bs) hh r).getD 7 0) + (((rot ((stN ks (W bs) hh r).getD 4 0) 6) ^^^ (rot ((stN ks (W bs) hh r).getD 4 0) 11)) ^^^ (rot ((stN ks (W bs) hh r).getD 4 0) 25))) + ((((stN ks (W bs) hh r).getD 4 0) &&& ((stN ks (W bs) hh r).getD 5 0)) ^^^ ((~~~((stN ks (W bs) hh r).getD 4 0)) &&& ((stN ks (W bs) hh r).getD 6 0)))) + (ks.getD r 0)) + ((W bs).getD r 0)), (stN ks (W bs) hh r).getD 4 0, (stN ks (W bs) hh r).getD 5 0, (stN ks (W bs) hh r).getD 6 0] : List UInt32).map vu32)] [] h_148 rfl rfl sizeOf170 At.h (by decide) rfl rfl rfl rfl rfl rfl (sC (SOk.u32 (rfl : List.length ([((((((stN ks (W bs) hh r).getD 7 0) + (((rot ((stN ks (W bs) hh r).getD 4 0) 6) ^^^ (rot ((stN ks (W bs) hh r).getD 4 0) 11)) ^^^ (rot ((stN ks (W bs) hh r).getD 4 0) 25))) + ((((stN ks (W bs) hh r).getD 4 0) &&& ((stN ks (W bs) hh r).getD 5 0)) ^^^ ((~~~((stN ks (W bs) hh r).getD 4 0)) &&& ((stN ks (W bs) hh r).getD 6 0)))) + (ks.getD r 0)) + ((W bs).getD r 0)) + ((((rot ((stN ks (W bs) hh r).getD 0 0) 2) ^^^ (rot ((stN ks (W bs) hh r).getD 0 0) 13)) ^^^ (rot ((stN ks (W bs) hh r).getD 0 0) 22)) + (((((stN ks (W bs) hh r).getD 0 0) &&& ((stN ks (W bs) hh r).getD 1 0)) ^^^ (((stN ks (W bs) hh r).getD 0 0) &&& ((stN ks (W bs) hh r).getD 2 0))) ^^^ (((stN ks (W bs) hh r).getD 1 0) &&& ((stN ks (W bs) hh r).getD 2 0)))), (stN ks (W bs) hh r).getD 0 0, (stN ks (W bs) hh r).getD 1 0, (stN ks (W bs) hh r).getD 2 0, ((stN ks (W bs) hh r).getD 3 0) + ((((((stN ks (W bs) hh r).getD 7 0) + (((rot ((stN ks (W bs) hh r).getD 4 0) 6) ^^^ (rot ((stN ks (W bs) hh r).getD 4 0) 11)) ^^^ (rot ((stN ks (W bs) hh r).getD 4 0) 25))) + ((((stN ks (W bs) hh r).getD 4 0) &&& ((stN ks (W bs) hh r).getD 5 0)) ^^^ ((~~~((stN ks (W bs) hh r).getD 4 0)) &&& ((stN ks (W bs) hh r).getD 6 0)))) + (ks.getD r 0)) + ((W bs).getD r 0)), (stN ks (W bs) hh r).getD 4 0, (stN ks (W bs) hh r).getD 5 0, (stN ks (W bs) hh r).getD 6 0] : List UInt32) = 8)) sN) (fun w_149 h_150 => ?_)
    refine WL.nil (inb_n (thn_n (WP.reg ?_)))
    refine qM (vn r) rfl rfl (qV rfl (R.bin rfl rfl (bi_add (c := ((r + 1 : Nat) : Int)) (by omega) (by omega))) (qA (vn (r + 1)) rfl rfl ?_))
    refine WL.nil (thn_n ?_)
    have h_156 := (((((h_150.up J5).up J5).up J5).up J5).up J5).up J5
    have h_157 : HP w w_149 [.blk b_113 .nw 170 [(8, (stN ks (W bs) hh (r + 1)).map vu32)], .row ra2 64 rc2 169 1 ((W bs).map vu32), .blk b_7 .nw 170 [(8, (List.replicate 8 (0 : UInt32)).map vu32)], .blk b_4 .nw 163 [(64, bs.map vu8)], .blk b_1 .nw 170 [(8, hh.map vu32)], .view ak (ks.map vu32)] := h_156
    exact ⟨r + 1, _, (by omega), (Ag.upd rfl (U4 rfl rfl rfl rfl (U4 rfl rfl rfl rfl (U4 rfl rfl rfl rfl (U4 rfl rfl rfl rfl (U4 rfl rfl rfl rfl (U4 rfl rfl rfl rfl (U4 rfl rfl rfl rfl (U4 rfl rfl rfl rfl (U4 rfl rfl rfl rfl (U4 rfl rfl rfl rfl (U4 rfl rfl rfl rfl (U4 rfl rfl rfl rfl (U4 rfl rfl rfl rfl (U4 rfl rfl rfl rfl (U4 rfl rfl rfl rfl (U4 rfl rfl rfl rfl (U4 rfl rfl rfl rfl (U4 rfl rfl rfl rfl (U4 rfl rfl rfl rfl (U4 rfl rfl rfl rfl (U4 rfl rfl rfl rfl (U4 rfl rfl rfl rfl (Ag.updL rfl (Ag.mix _ _ _))))))))))))))))))))))))), ⟨rfl, trivial⟩, h_157, (by omega), rfl⟩
   ·have p_158 := of_decide_eq_false c_123
    refine WP.exit (thn_x (thn_x (inb_hit (thn_n (WP.seq (WP.seq (WP.reg ?_)))))))
    refine qA (vi 0) rfl rfl ?_
    refine WL.nil (thn_n (WP.block ?_))
    have hr64 : r = 64 := by omega
    subst hr64
    refine WP.loopG (G := Nat) [24, 190, 191, 192, 193, 194, 195, 196, 197, 198, 199, 200, 201, 202] (fun q => [(24, (vn q))]) (fun q m w1 => HP w w1 [.blk b_113 .nw 170 [(8, (mix (pressL ks hh bs) (stN ks (W bs) hh 64) q).map vu32)], .row ra2 64 rc2 169 1 ((W bs).map vu32), .blk b_7 .nw 170 [(8, (zV 8).map vu32)], .blk b_4 .nw 163 [(64, bs.map vu8)], .blk b_1 .nw 170 [(8, hh.map vu32)], .view ak (ks.map vu32)] ∧ (q ≤ 8) ∧ m = 8 - q) ⟨0, _, ⟨rfl, trivial⟩, (by rw [mix_0]; exact h_120), (by omega), rfl⟩ ?_
    rintro q m_161 J_162 w_159 ⟨h_160, hq, rfl⟩
    refine WP.seq (WP.seq (WP.reg ?_))
    refine qM (vn q) rfl rfl (qV rfl (R.bin rfl rfl (bi_lss (r := decide ((((q : Nat) : Int) : Int) < 8)) rfl)) ?_)
    refine WL.nil (thn_n ?_)
    refine WP.cond (b := decide ((((q : Nat) : Int) : Int) < 8)) rfl (fun c_163 => ?_) (fun c_163 => ?_)
    ·have p_164 := of_decide_eq_true c_163
     refine WP.skip (thn_n (WP.seq (WP.block ?_)))
     refine WP.drawZ 9 (SL w.heap.size [.blk b_113 .nw 170 [(8, (mix (pressL ks hh bs) (stN ks (W bs) hh 64) q).map vu32)], .row ra2 64 rc2 169 1 ((W bs).map vu32), .blk b_7 .nw 170 [(8, (zV 8).map vu32)], .blk b_4 .nw 163 [(64, bs.map vu8)], .blk b_1 .nw 170 [(8, hh.map vu32)], .view ak (ks.map vu32)]) (.q 0 (.q 1 (.q 2 (.q 3 (.q 4 (.q 5 (.q 6 (.q 7 (.q 8 (.s 9 .nil)))))))))) (by kernel_rfl) (by kernel_rfl) rfl (by kernel_rfl) (fun w_165 hc_167 => (SL.cons ((h_160.same hc_167).ok _ M0) (SL.cons ((h_160.same hc_167).ok _ M1) (SL.cons ((h_160.same hc_167).ok _ M2) (SL.cons ((h_160.same hc_167).ok _ M3) (SL.cons ((h_160.same hc_167).ok _ M4) (SL.cons ((h_160.same hc_167).ok _ M5) (SL.nil _ _)))))))) (fun w_165 hc_167 => ?_)
     have h_166 := h_160.same hc_167
     refine ZT.q rfl (Wn.no rfl) rfl rfl (fun wq hS => R.move (v := (vn q)) rfl) ?_
     refine ZT.q rfl (Wn.no rfl) rfl rfl (fun wq hS => R.move (v := (vn q)) rfl) ?_
     refine ZT.q rfl (Wn.no rfl) rfl rfl (fun wq hS => R.indexA (b := b_113) (off := 0) (off' := (0 + q)) (i := q) rfl rfl rfl (by omega) underlying170 sizeOf169 (by rw [Nat.mul_one])) ?_
     refine ZT.q rfl (Wn.no rfl) rfl rfl (fun wq hS => R.loadE (b := b_113) (off := (0 + q)) (i := q) (v := (vu32 ((mix (pressL ks hh bs) (stN ks (W bs) hh 64) q).getD q 0))) rfl isAgg169 (hS _ M0) Sg.h rfl (get_u32 (lt_len (K := 8) (mix_len (pressL_len ..) (stN_len hhl 64)) (by omega)))) ?_
     refine ZT.q rfl (Wn.no rfl) rfl rfl (fun wq hS => R.move (v := (vn q)) rfl) ?_
     refine ZT.q rfl (Wn.no rfl) rfl rfl (fun wq hS => R.indexA (b := b_1) (off := 0) (off' := (0 + q)) (i := q) rfl rfl rfl (by omega) underlying170 sizeOf169 (by rw [Nat.mul_one])) ?_
     refine ZT.q rfl (Wn.no rfl) rfl rfl (fun wq hS => R.loadE (b := b_1) (off := (0 + q)) (i := q) (v := (vu32 (hh.getD q 0))) rfl isAgg169 (hS _ M4) Sg.h rfl (get_u32 (lt_len (K := 8) hhl (by omega)))) ?_
     refine ZT.q rfl (Wn.no rfl) rfl rfl (fun wq hS => R.bin rfl rfl (b32_add ((mix (pressL ks hh bs) (stN ks (W bs) hh 64) q).getD q 0) (hh.getD q 0))) ?_
     refine ZT.q rfl (Wn.no rfl) rfl rfl (fun wq hS => R.indexA (b := b_113) (off := 0) (off' := (0 + q)) (i := q) rfl rfl rfl (by omega) underlying170 sizeOf169 (by rw [Nat.mul_one])) ?_
     refine ZT.s ?_
     refine OpZ.last rfl (Wn.no rfl) ?_
     refine WL.storeE (b := b_113) (off := (0 + q)) (i := q) (v := (vu32 (((mix (pressL ks hh bs) (stN ks (W bs) hh 64) q).getD q 0) + (hh.getD q 0)))) (cs' := ((mix (pressL ks hh bs) (stN ks (W bs) hh 64) q).set q (((mix (pressL ks hh bs) (stN ks (W bs) hh 64) q).getD q 0) + (hh.getD q 0))).map vu32) h_166 rfl rfl sizeOf169 rfl At.h (by decide) Sg.h rfl (lt_len (K := 8) (len_map (mix_len (pressL_len ..) (stN_len hhl 64))) (by omega)) (set_u32 _ _ _) (fun w_168 h_169 => ?_)
     refine WL.nil (ZT.nil (inb_n (thn_n (WP.reg ?_))))
     refine qM (vn q) rfl rfl (qV rfl (R.bin rfl rfl (bi_add (c := ((q + 1 : Nat) : Int)) (by omega) (by omega))) (qA (vn (q + 1)) rfl rfl ?_))
     refine WL.nil (thn_n ?_)
     have h_175 := (((((h_169.up J5).up J5).up J5).up J5).up J5).up J5
     rw [pr_stepR hhl (by omega)] at h_175
     exact ⟨q + 1, _, (by omega), (U2 rfl rfl (U4 rfl rfl rfl rfl (U4 rfl rfl rfl rfl (U4 rfl rfl rfl rfl (Ag.updL rfl (Ag.mix _ _ _)))))), ⟨rfl, trivial⟩, h_175, (by omega), rfl⟩
    ·have p_176 := of_decide_eq_false c_163
     refine WP.exit (thn_x (thn_x (inb_hit (thn_n (WP.seq (WP.reg ?_))))))
     refine qV rfl (R.loadA [] [(8, (mix (pressL ks hh bs) (stN ks (W bs) hh 64) q).map vu32)] [] (cs := (mix (pressL ks hh bs) (stN ks (W bs) hh 64) q).map vu32) rfl isAgg170 sizeOf170 (h_160.ok _ M0) rfl rfl rfl rfl) ?_
     refine WL.storeA [] [(8, (zV 8).map vu32)] [(8, (mix (pressL ks hh bs) (stN ks (W bs) hh 64) q).map vu32)] [] h_160 rfl rfl sizeOf170 Y2 (by decide) rfl rfl rfl rfl rfl rfl (sC (SOk.u32 (mix_len (pressL_len ..) (stN_len hhl 64))) sN) (fun w_177 h_178 => ?_)
     refine WL.nil (thn_n (WP.ret ?_))
     refine ret_of results125 (RV.cell rfl (h_178.loadA (cs := (mix (pressL ks hh bs) (stN ks (W bs) hh 64) q).map vu32) isAgg170 sizeOf170 M2 rfl rfl) RV.nil) ?_
     have hq8 : q = 8 := by omega
     subst hq8
     exact ⟨by rw [pr_all (stN_len hhl 64)]; rfl, h_178.chgS⟩
end Go.Proofs.YteclkcpdclimnaaGreat

namespace Go.Proofs.YteclkcpdclimnaaGreat
open Go.Proofs.Tryz
open Go.Vc Go.Sh Go.RowKit
set_option maxRecDepth 20000

theorem c_SumR (a : Option Addr) (n cap : Nat) (bs : List UInt8) (hl : bs.length = n) (hn : n ≤ 1000000000000) (w : World) (hv : View w a (bs.map vu8)) :
  Cs Tryz.prog 103 [(.slice a n cap)].toArray w (fun v w1 => v = (.agg ⟨(sumL bs).map vu8⟩) ∧ Chg w w1 []) := by
 refine Cs.of (n := 57) (args := [(.slice a n cap)]) Tryz.func103 rfl rfl rfl ?_
 have h_0 := HP.init w
 have h_00 := h_0.old (View.arg hv) (fun f hf => by cases hf)
 refine WP.seq (WP.reg ?_)
 refine WL.alloc (segs := [(32, (zB 32).map vu8)]) h_00 (zv typeInfo23 rfl) rfl (sC (s8 lr) sN) rfl (fun b_1 w_2 h_3 => ?_)
 refine WL.nil (thn_n (WP.seq (WP.reg ?_)))
 refine WL.alloc (segs := [(8, (zV 8).map vu32)]) h_3 (zv typeInfo170 rfl) rfl (sC (SOk.u32 lr) sN) rfl (fun b_4 w_5 h_6 => ?_)
 refine WL.nil (thn_n (WP.seq (WP.seq (WP.reg ?_))))
 refine qA (vi 0) rfl rfl ?_
 refine WL.nil (thn_n (WP.block ?_))
 refine WP.loopG (G := Nat) [4, 11, 12, 13, 14, 15, 16, 17, 18] (fun i => [(4, (vn i))]) (fun i m w1 => HP w w1 [.blk b_4 .nw 170 [(8, (mix hL (List.replicate 8 0) i).map vu32)], .blk b_1 .nw 23 [(32, (zB 32).map vu8)], .view a (bs.map vu8)] ∧ (i ≤ 8) ∧ m = 8 - i) ⟨0, _, ⟨rfl, trivial⟩, (by rw [mix_0]; exact h_6), (by omega), rfl⟩ ?_
 rintro i m_9 J_10 w_7 ⟨h_8, hi, rfl⟩
 refine WP.seq (WP.seq (WP.reg ?_))
 refine qM (vn i) rfl rfl (qV rfl (R.bin rfl rfl (bi_lss (r := decide ((((i : Nat) : Int) : Int) < 8)) rfl)) ?_)
 refine WL.nil (thn_n ?_)
 refine WP.cond (b := decide ((((i : Nat) : Int) : Int) < 8)) rfl (fun c_11 => ?_) (fun c_11 => ?_)
 ·have p_12 := of_decide_eq_true c_11
  refine WP.skip (thn_n (WP.seq (WP.block (WP.reg ?_))))
  refine qM (vn i) rfl rfl (qM (vn i) rfl rfl ?_)
  refine WL.call Tryz.call122 rfl rfl (c_StartR ((i : Nat) : Int) _ ) rfl ?_
  rintro _ w_14 ⟨rfl, hc_13⟩
  have h_15 := h_8.same hc_13
  refine qV rfl (R.indexA (b := b_4) (off := 0) (off' := (0 + i)) (i := i) rfl rfl rfl (by omega) underlying170 sizeOf169 (by rw [Nat.mul_one])) ?_
  refine WL.storeE (b := b_4) (off := (0 + i)) (i := i) (v := (vu32 (hAt ((i : Nat) : Int)))) (cs' := ((mix hL (List.replicate 8 0) i).set i (hAt ((i : Nat) : Int))).map vu32) h_15 rfl rfl sizeOf169 rfl At.h (by decide) Sg.h rfl (lt_len (K := 8) (len_map (mix_len hL_len lr)) (by omega)) (set_u32 _ _ _) (fun w_16 h_17 => ?_)
  refine WL.nil (inb_n (thn_n (WP.reg ?_)))
  refine qM (vn i) rfl rfl (qV rfl (R.bin rfl rfl (bi_add (c := ((i + 1 : Nat) : Int)) (by omega) (by omega))) (qA (vn (i + 1)) rfl rfl ?_))
  refine WL.nil (thn_n ?_)
  have h_20 := ((h_17.up J2).up J2).up J2
  rw [h_set (by omega)] at h_20
  exact ⟨i + 1, _, (by omega), (Ag.upd rfl (U4 rfl rfl rfl rfl (U4 rfl rfl rfl rfl (Ag.updL rfl (Ag.mix _ _ _))))), ⟨rfl, trivial⟩, h_20, (by omega), rfl⟩
 ·have p_21 := of_decide_eq_false c_11
  refine WP.exit (thn_x (thn_x (inb_hit (thn_n (WP.seq (WP.reg ?_))))))
  refine WL.call Tryz.call123 rfl rfl (c_ConstantsR _) rfl ?_
  rintro _ w_24 ⟨a_22, cap_23, rfl, hc_25, ho_26⟩
  have h_27 := h_8.gotRow hc_25 ho_26
  refine qA (.slice a_22 64 cap_23) rfl rfl ?_
  refine WL.nil (thn_n (WP.seq (WP.reg ?_)))
  refine qM (.slice a n cap) rfl rfl ?_
  refine WL.call Tryz.call124 rfl rfl (c_PadR a n cap bs hl (by omega) _ (viewV (h_27.ok _ M3))) rfl ?_
  rintro _ w_30 ⟨a_28, cap_29, rfl, hc_31, ho_32⟩
  have h_33 := h_27.gotRow hc_31 ho_32
  have hq_34 := ho_32.2.2.1
  refine qA (.slice a_28 ((padded bs).length) cap_29) rfl rfl ?_
  refine WL.nil (thn_n (WP.seq (WP.seq (WP.reg ?_))))
  refine qA (vi 0) rfl rfl ?_
  refine WL.nil (thn_n (WP.block ?_))
  have hi8 : i = 8 := by omega
  subst hi8
  have eh : mix hL (List.replicate 8 0) 8 = hL := mix_all hL_len lr (Nat.le_refl _)
  rw [eh] at h_33
  have hpl := padded_len bs
  have hp2 := padded_len2 bs
  rw [hl] at hp2
  refine WP.loopG (G := Nat) [7, 8, 22, 23, 24, 25, 26, 27, 28, 29, 30, 31, 32, 33, 34, 35, 36, 37, 38] (fun k => [(7, (vn (64 * k)))]) (fun k m w1 => HP w w1 [.row a_28 ((padded bs).length) cap_29 5 1 ((padded bs).map vu8), .row a_22 64 cap_23 169 1 (kL.map vu32), .blk b_4 .nw 170 [(8, (hs kL hL (padded bs) k).map vu32)], .blk b_1 .nw 23 [(32, (zB 32).map vu8)], .view a (bs.map vu8)] ∧ (64 * k ≤ (padded bs).length) ∧ m = (padded bs).length - 64 * k) ⟨0, _, ⟨rfl, trivial⟩, h_33, (by omega), rfl⟩ ?_
  rintro k m_37 J_38 w_35 ⟨h_36, hk, rfl⟩
  refine WP.seq (WP.seq (WP.reg ?_))
  refine qM (vn (64 * k)) rfl rfl (qM (.slice a_28 ((padded bs).length) cap_29) rfl rfl (qV rfl (R.lenS (a := a_28) (m := (padded bs).length) rfl rfl underlying88) (qV rfl (R.bin rfl rfl (bi_lss (r := decide ((((64 * k : Nat) : Int) : Int) < (((padded bs).length : Nat) : Int))) rfl)) ?_)))
  refine WL.nil (thn_n ?_)
  refine WP.cond (b := decide ((((64 * k : Nat) : Int) : Int) < (((padded bs).length : Nat) : Int))) rfl (fun c_39 => ?_) (fun c_39 => ?_)
  ·have p_40 := of_decide_eq_true c_39
   refine WP.skip (thn_n (WP.seq (WP.block (WP.seq (WP.reg ?_)))))
   refine WL.alloc (segs := [(64, (zB 64).map vu8)]) h_36 (zv typeInfo163 rfl) rfl (sC (s8 lr) sN) rfl (fun b_41 w_42 h_43 => ?_)
   refine WL.nil (thn_n (WP.seq ?_))
   refine WP.drawT (SL w.heap.size [.row a_28 ((padded bs).length) cap_29 5 1 ((padded bs).map vu8), .row a_22 64 cap_23 169 1 (kL.map vu32), .blk b_4 .nw 170 [(8, (hs kL hL (padded bs) k).map vu32)], .blk b_1 .nw 23 [(32, (zB 32).map vu8)], .view a (bs.map vu8)]) (.q 0 (.q 1 (.q 2 (.q 3 (.q 4 (.q 5 (.s 6 .nil))))))) (by kernel_rfl) (by kernel_rfl) rfl (by kernel_rfl) (fun w_44 hc_46 => (SL.cons ((h_43.same hc_46).ok _ M1) (SL.cons ((h_43.same hc_46).ok _ M2) (SL.cons ((h_43.same hc_46).ok _ M3) (SL.cons ((h_43.same hc_46).ok _ M4) (SL.cons ((h_43.same hc_46).ok _ M5) (SL.nil _ _))))))) (fun w_44 hc_46 => ?_)
   have h_45 := h_43.same hc_46
   refine qT rfl rfl (fun wq hS => R.sliceA (b := b_41) (off := 0) (off' := 0) (l := 0) (h := 64) rfl EvB.dflt EvB.dflt (by decide) (by decide) underlying163 sizeOf5 rfl) ?_
   refine qT rfl rfl (fun wq hS => R.move (v := (.slice a_28 ((padded bs).length) cap_29)) rfl) ?_
   refine qT rfl rfl (fun wq hS => R.move (v := (vn (64 * k))) rfl) ?_
   refine qT rfl rfl (fun wq hS => R.move (v := (vn (64 * k))) rfl) ?_
   refine qT rfl rfl (fun wq hS => R.bin rfl rfl (bi_add (c := ((64 * k + 64 : Nat) : Int)) (by omega) (by omega))) ?_
   refine qT rfl rfl (fun wq hS => R.sliceS (a := a_28) (len := (padded bs).length) (l := 64 * k) (h := 64 * k + 64) rfl (EvB.it (l := 64 * k) rfl rfl) (EvB.it (l := 64 * k + 64) rfl rfl) (by omega) (by omega) underlying88 sizeOf5) ?_
   refine WT.s (oN rfl ?_)
   refine WL.copy (q := 64) (i := 0) (ys := (((padded bs).drop (64 * k)).take 64).map vu8) (cs' := (((padded bs).drop (64 * k)).take 64).map vu8) h_45 rfl (congrArg (fun n => Value.slice (slA a_28 (64 * k) cap_29 1) n (cap_29 - (64 * k))) (show 64 * k + 64 - (64 * k) = 64 from (by omega))) underlying88 sizeOf5 (View.slM (l := 64 * k) (m := cap_29) (k := 64) (ownView (h_45.ok _ M1)) (by omega)) (len_map (subLen (K := (padded bs).length) (rfl : List.length (padded bs) = (padded bs).length) (by omega) : List.length (((padded bs).drop (64 * k)).take 64) = 64)) (one_u8 _) At.h (by decide) Sg.h rfl (by decide) (by rw [len_map lr]; decide) (cpAll (subLen (K := (padded bs).length) (rfl : List.length (padded bs) = (padded bs).length) (by omega) : List.length (((padded bs).drop (64 * k)).take 64) = 64) lr) rfl (fun w_47 h_48 => ?_)
   refine WL.nil ?_
   refine ⟨(N1_2_3_4_5 h_48.ok), ?_⟩
   refine WT.nil (thn_n (WP.reg ?_))
   refine qV rfl (R.loadA [] [(8, (hs kL hL (padded bs) k).map vu32)] [] (cs := (hs kL hL (padded bs) k).map vu32) rfl isAgg170 sizeOf170 (h_48.ok _ M3) rfl rfl rfl rfl) (qV rfl (R.loadA [] [(64, (((padded bs).drop (64 * k)).take 64).map vu8)] [] (cs := (((padded bs).drop (64 * k)).take 64).map vu8) rfl isAgg163 sizeOf163 (h_48.ok _ M0) rfl rfl rfl rfl) (qM (.slice a_22 64 cap_23) rfl rfl ?_))
   refine WL.call Tryz.call125 rfl rfl (c_PressR (hs kL hL (padded bs) k) kL (hs_len hL_len k) kL_len (((padded bs).drop (64 * k)).take 64) (subLen (K := (padded bs).length) (rfl : List.length (padded bs) = (padded bs).length) (by omega) : List.length (((padded bs).drop (64 * k)).take 64) = 64) a_22 cap_23 _ (ownView (h_48.ok _ M2))) rfl ?_
   rintro _ w_50 ⟨rfl, hc_49⟩
   have h_51 := h_48.same hc_49
   refine WL.storeA [] [(8, (hs kL hL (padded bs) k).map vu32)] [(8, (pressL kL (hs kL hL (padded bs) k) (((padded bs).drop (64 * k)).take 64)).map vu32)] [] h_51 rfl rfl sizeOf170 Y3 (by decide) rfl rfl rfl rfl rfl rfl (sC (SOk.u32 (pressL_len ..)) sN) (fun w_52 h_53 => ?_)
   refine WL.nil (inb_n (thn_n (WP.reg ?_)))
   refine qM (vn (64 * k)) rfl rfl (qV rfl (R.bin rfl rfl (bi_add (c := ((64 * k + 64 : Nat) : Int)) (by omega) (by omega))) (qA (vn (64 * k + 64)) rfl rfl ?_))
   refine WL.nil (thn_n ?_)
   have h_59 := (((((h_53.drop rfl).up J4).up J4).up J4).up J4).up J4
   have es : pressL kL (hs kL hL (padded bs) k) (((padded bs).drop (64 * k)).take 64) = hs kL hL (padded bs) (k + 1) := rfl
   rw [es] at h_59
   exact ⟨k + 1, _, (by omega), (Ag.upd rfl (U2 rfl rfl (U4 rfl rfl rfl rfl (U4 rfl rfl rfl rfl (U4 rfl rfl rfl rfl (U4 rfl rfl rfl rfl (Ag.updL rfl (Ag.mix _ _ _)))))))), ⟨congrArg vi (by omega), trivial⟩, h_59, (by omega), rfl⟩
  ·have p_60 := of_decide_eq_false c_39
   refine WP.exit (thn_x (thn_x (inb_hit (thn_n (WP.seq (WP.reg ?_))))))
   refine WL.alloc (segs := [(32, (zB 32).map vu8)]) h_36 (zv typeInfo23 rfl) rfl (sC (s8 lr) sN) rfl (fun b_61 w_62 h_63 => ?_)
   refine WL.nil (thn_n (WP.seq (WP.seq (WP.reg ?_))))
   refine qA (vi 0) rfl rfl ?_
   refine WL.nil (thn_n (WP.block ?_))
   have hk2 : k = (padded bs).length / 64 := by omega
   refine WP.loopG (G := Nat) [10, 39, 40, 41, 42, 43, 44, 45, 46, 47, 48, 49, 50, 51, 52, 53, 54, 55] (fun j => [(10, (vn j))]) (fun j m w1 => HP w w1 [.blk b_61 .nw 23 [(32, (mix (digL (hs kL hL (padded bs) k)) (List.replicate 32 0) j).map vu8)], .row a_28 ((padded bs).length) cap_29 5 1 ((padded bs).map vu8), .row a_22 64 cap_23 169 1 (kL.map vu32), .blk b_4 .nw 170 [(8, (hs kL hL (padded bs) k).map vu32)], .blk b_1 .nw 23 [(32, (zB 32).map vu8)], .view a (bs.map vu8)] ∧ (j ≤ 32) ∧ m = 32 - j) ⟨0, _, ⟨rfl, trivial⟩, (by rw [mix_0]; exact h_63), (by omega), rfl⟩ ?_
   rintro j m_66 J_67 w_64 ⟨h_65, hj, rfl⟩
   have ek : j < 32 → (UInt64.ofNat (24 - 8 * (j % 4))).toNat = 24 - 8 * (j % 4) := fun _ => nat64 (by omega)
   refine WP.seq (WP.seq (WP.reg ?_))
   refine qM (vn j) rfl rfl (qV rfl (R.bin rfl rfl (bi_lss (r := decide ((((j : Nat) : Int) : Int) < 32)) rfl)) ?_)
   refine WL.nil (thn_n ?_)
   refine WP.cond (b := decide ((((j : Nat) : Int) : Int) < 32)) rfl (fun c_68 => ?_) (fun c_68 => ?_)
   ·have p_69 := of_decide_eq_true c_68
    refine WP.skip (thn_n (WP.seq (WP.block (WP.reg ?_))))
    refine qM (vn j) rfl rfl (qM (vn j) rfl rfl (qV rfl (R.bin rfl rfl (bi_quo (c := ((j / 4 : Nat) : Int)) (by first | omega | exact ⟨Int.natCast_nonneg _, by omega⟩) (by omega) (by first | omega | rfl))) (qV rfl (R.indexA (b := b_4) (off := 0) (off' := (0 + (j / 4))) (i := j / 4) rfl rfl rfl (by omega) underlying170 sizeOf169 (by rw [Nat.mul_one])) (qV rfl (R.loadE (b := b_4) (off := (0 + (j / 4))) (i := j / 4) (v := (vu32 ((hs kL hL (padded bs) k).getD (j / 4) 0))) rfl isAgg169 (h_65.ok _ M3) Sg.h rfl (get_u32 (lt_len (K := 8) (hs_len hL_len k) (by omega)))) (qM (vn j) rfl rfl (qV rfl (R.bin rfl rfl (bi_rem (c := ((j % 4 : Nat) : Int)) (Int.natCast_nonneg _) (by omega) (by first | omega | rfl))) (qV rfl (R.bin rfl rfl (bi_mul (c := ((8 * (j % 4) : Nat) : Int)) (by omega) (by omega))) (qV rfl (R.bin rfl rfl (bi_sub (c := ((24 - (8 * (j % 4)) : Nat) : Int)) (by omega) (by omega))) (qV rfl (R.conv (b := ((UInt64.ofNat (24 - (8 * (j % 4)))) : UInt64).toNat) rfl underlying3 underlying168 (w64_nat (24 - (8 * (j % 4))))) (qV rfl (R.binR (v := vu32 (shr32 ((hs kL hL (padded bs) k).getD (j / 4) 0) ((UInt64.ofNat (24 - (8 * (j % 4)))).toNat))) rfl rfl (run_shr32 _ _ _ ((hs kL hL (padded bs) k).getD (j / 4) 0) _ ((UInt64.ofNat (24 - (8 * (j % 4)))).toNat))) (qV rfl (R.conv (b := ((UInt8.ofNat ((shr32 ((hs kL hL (padded bs) k).getD (j / 4) 0) ((UInt64.ofNat (24 - (8 * (j % 4)))).toNat)).toNat)) : UInt8).toNat) rfl underlying169 underlying5 (w8_nat ((shr32 ((hs kL hL (padded bs) k).getD (j / 4) 0) ((UInt64.ofNat (24 - (8 * (j % 4)))).toNat)).toNat))) ?_)))))))))))
    refine qV rfl (R.indexA (b := b_61) (off := 0) (off' := (0 + j)) (i := j) rfl rfl rfl (by omega) underlying23 sizeOf5 (by rw [Nat.mul_one])) ?_
    refine WL.storeE (b := b_61) (off := (0 + j)) (i := j) (v := (vu8 (UInt8.ofNat ((shr32 ((hs kL hL (padded bs) k).getD (j / 4) 0) ((UInt64.ofNat (24 - (8 * (j % 4)))).toNat)).toNat)))) (cs' := ((mix (digL (hs kL hL (padded bs) k)) (List.replicate 32 0) j).set j (UInt8.ofNat ((shr32 ((hs kL hL (padded bs) k).getD (j / 4) 0) ((UInt64.ofNat (24 - (8 * (j % 4)))).toNat)).toNat))).map vu8) h_65 rfl rfl sizeOf5 rfl At.h (by decide) Sg.h rfl (lt_len (K := 32) (len_map (mix_len (digL_len _) lr)) (by omega)) (set_u8 _ _ _) (fun w_70 h_71 => ?_)
    refine WL.nil (inb_n (thn_n (WP.reg ?_)))
    refine qM (vn j) rfl rfl (qV rfl (R.bin rfl rfl (bi_add (c := ((j + 1 : Nat) : Int)) (by omega) (by omega))) (qA (vn (j + 1)) rfl rfl ?_))
    refine WL.nil (thn_n ?_)
    have h_77 := (((((h_71.up J5).up J5).up J5).up J5).up J5).up J5
    rw [ek (by omega), dig_set (by omega)] at h_77
    exact ⟨j + 1, _, (by omega), (U2 rfl rfl (U4 rfl rfl rfl rfl (U4 rfl rfl rfl rfl (U4 rfl rfl rfl rfl (U4 rfl rfl rfl rfl (Ag.updL rfl (Ag.mix _ _ _))))))), ⟨rfl, trivial⟩, h_77, (by omega), rfl⟩
   ·have p_78 := of_decide_eq_false c_68
    refine WP.exit (thn_x (thn_x (inb_hit (thn_n (WP.seq (WP.reg ?_))))))
    refine qV rfl (R.loadA [] [(32, (mix (digL (hs kL hL (padded bs) k)) (List.replicate 32 0) j).map vu8)] [] (cs := (mix (digL (hs kL hL (padded bs) k)) (List.replicate 32 0) j).map vu8) rfl isAgg23 sizeOf23 (h_65.ok _ M0) rfl rfl rfl rfl) ?_
    refine WL.storeA [] [(32, (zB 32).map vu8)] [(32, (mix (digL (hs kL hL (padded bs) k)) (List.replicate 32 0) j).map vu8)] [] h_65 rfl rfl sizeOf23 Y4 (by decide) rfl rfl rfl rfl rfl rfl (sC (s8 (mix_len (digL_len _) lr)) sN) (fun w_79 h_80 => ?_)
    refine WL.nil (thn_n (WP.ret ?_))
    refine ret_of results103 (RV.cell rfl (h_80.loadA (cs := (mix (digL (hs kL hL (padded bs) k)) (List.replicate 32 0) j).map vu8) isAgg23 sizeOf23 M4 rfl rfl) RV.nil) ?_
    have hj32 : j = 32 := by omega
    subst hj32
    exact ⟨by rw [dig_all, hk2]; rfl, h_80.chgS⟩
end Go.Proofs.YteclkcpdclimnaaGreat

namespace Go.Proofs.YteclkcpdclimnaaGreat
open Go.Proofs.Tryz
open Go.Vc Go.Sh Go.RowKit
set_option maxRecDepth 20000

theorem c_TagR_s (a : Option Addr) (n cap : Nat) (key : List UInt8) (hl : key.length = n) (hcap : n ≤ cap) (hn : n ≤ 100000000000) (a2 : Option Addr) (n2 cap2 : Nat) (bs2 : List UInt8) (hl2 : bs2.length = n2) (hcap2 : n2 ≤ cap2) (hn2 : n2 ≤ 100000000000) (h : ¬ 64 < n) (w : World) (hv : View w a (key.map vu8)) (hv2 : View w a2 (bs2.map vu8)) :
  Cs Tryz.prog 112 [(.slice a n cap), (.slice a2 n2 cap2)].toArray w (fun v w1 => v = (.agg ⟨(tagL key bs2).map vu8⟩) ∧ Chg w w1 []) := by
 refine Cs.of (n := 54) (args := [(.slice a n cap), (.slice a2 n2 cap2)]) Tryz.func112 rfl rfl rfl ?_
 have h_0 := HP.init w
 have h_01 := h_0.oldV (View.arg hv) rfl (by simp [Ent.mut])
 have h_00 := h_01.oldV (View.arg hv2) rfl (by simp [Ent.mut])
 refine WP.seq (WP.reg ?_)
 refine WL.alloc (segs := [(32, (zB 32).map vu8)]) h_00 (zv typeInfo23 rfl) rfl (sC (s8 lr) sN) rfl (fun b_1 w_2 h_3 => ?_)
 refine WL.nil (thn_n (WP.seq (WP.reg ?_)))
 refine qM (.slice a n cap) rfl rfl ?_
 have h_4 := h_3.rowNil 5 1
 refine WL.append (km := n) (xs := []) (ys := key.map vu8) (zs := key.map vu8) h_4 rfl rfl el88 (viewV (h_4.ok _ M3)) ((len_map hl).trans (Nat.mul_one _).symm) (one_u8 _) rfl (by omega) (by omega) (by omega) (fun _ _ => At.h) rfl (fun a_5 c_6 w_7 h_8 => ?_)
 refine qA (.slice a_5 n c_6) rfl rfl ?_
 refine WL.nil (thn_n (WP.seq (WP.seq (WP.reg ?_))))
 refine qM (.slice a_5 n c_6) rfl rfl (qV rfl (R.lenS (a := a_5) (m := n) rfl rfl underlying88) (qV rfl (R.bin rfl rfl (bi_gtr (r := decide ((((n : Nat) : Int) : Int) > 64)) rfl)) ?_))
 refine WL.nil (thn_n ?_)
 refine WP.condF (congrArg Value.bool (decide_eq_false (by omega))) ?_
 refine WP.skip (thn_n (WP.seq (WP.block ?_)))
 have h_12 := (((h_8.up J3).up J3).up J3).up J3
 refine WP.loopG (G := Nat × Option Addr × Nat) [5, 20, 21, 22, 23, 24, 25] (fun (z, ra, rc) => [(5, (.slice ra (n + z) rc))]) (fun (z, ra, rc) m w1 => HP w w1 [.row ra (n + z) rc 5 1 ((key ++ List.replicate z (0 : UInt8)).map vu8), .blk b_1 .nw 23 [(32, (zB 32).map vu8)], .view a2 (bs2.map vu8), .view a (key.map vu8)] ∧ (n + z ≤ 64) ∧ m = 64 - z) ⟨(0, a_5, c_6), _, ⟨rfl, trivial⟩, (by rw [List.replicate_zero, List.append_nil]; exact h_12), (by omega), rfl⟩ ?_
 rintro ⟨z, ra, rc⟩ m_15 J_16 w_13 ⟨h_14, hz, rfl⟩
 refine WP.seq (WP.seq (WP.reg ?_))
 refine qM (.slice ra (n + z) rc) rfl rfl (qV rfl (R.lenS (a := ra) (m := n + z) rfl rfl underlying88) (qV rfl (R.bin rfl rfl (bi_lss (r := decide ((((n + z : Nat) : Int) : Int) < 64)) rfl)) ?_))
 refine WL.nil (thn_n ?_)
 refine WP.cond (b := decide ((((n + z : Nat) : Int) : Int) < 64)) rfl (fun c_17 => ?_) (fun c_17 => ?_)
 ·have p_18 := of_decide_eq_true c_17
  refine WP.skip (thn_n (WP.block (WP.reg ?_)))
  refine qM (.slice ra (n + z) rc) rfl rfl ?_
  refine WL.buildSl (vs := [(0, (vu8 0))]) (cs := ([0] : List UInt8).map vu8) h_14 underlying88 sizeOf5 (zv typeInfo5 rfl) rfl rfl (by kernel_rfl) rfl (one_u8 _) rfl rfl (fun b_19 w_20 h_21 => ?_)
  refine WL.append (km := n + z + 1) (xs := (key ++ List.replicate z (0 : UInt8)).map vu8) (ys := ([0] : List UInt8).map vu8) (zs := ((key ++ List.replicate z (0 : UInt8)) ++ ([0] : List UInt8)).map vu8) h_21 rfl rfl el88 (viewB (h_21.ok _ M0) Sg.h) ((len_map (rfl : List.length ([0] : List UInt8) = 1)).trans (Nat.mul_one _).symm) (one_u8 _) (by simp only [List.map_append, List.map_nil]) (by omega) (by omega) (by omega) (fun _ _ => Y1) rfl (fun a_22 c_23 w_24 h_25 => ?_)
  refine qA (.slice a_22 (n + z + 1) c_23) rfl rfl ?_
  refine WL.nil (inb_n (thn_n ?_))
  have h_30 := ((((h_25.drop rfl).up J3).up J3).up J3).up J3
  rw [List.append_assoc, zero_snoc] at h_30
  exact ⟨(z + 1, a_22, c_23), _, (by omega), (Ag.upd rfl (U2 rfl rfl (U4 rfl rfl rfl rfl (Ag.updL rfl (Ag.mix _ _ _))))), ⟨rfl, trivial⟩, h_30, (by omega), rfl⟩
 ·have p_31 := of_decide_eq_false c_17
  refine WP.exit (thn_x (thn_x (inb_hit (thn_n (WP.seq (WP.reg ?_))))))
  refine qA (.slice none 0 0) rfl rfl (qA (.slice none 0 0) rfl rfl ?_)
  refine WL.nil (thn_n (WP.seq (WP.seq (WP.reg ?_))))
  refine qA (vi 0) rfl rfl ?_
  refine WL.nil (thn_n (WP.block ?_))
  have hz64 : n + z = 64 := by omega
  have hpk : (padK key).length = 64 := padK_len hl (by omega)
  rw [pad_z hl hz64, hz64] at h_14
  have h_33 := h_14.rowNil 5 1
  have h_34 := h_33.rowNil 5 1
  refine WP.loopG (G := Nat × Option Addr × Nat × Option Addr × Nat) [7, 8, 9, 26, 27, 28, 29, 30, 31, 32, 33, 34, 35, 36, 37, 38, 39, 40, 41, 42, 43, 44, 45] (fun (j, ia, ic, oa, oc) => [(7, (.slice ia j ic)), (8, (.slice oa j oc)), (9, (vn j))]) (fun (j, ia, ic, oa, oc) m w1 => HP w w1 [.row ia j ic 5 1 (((xm 54 (padK key)).take j).map vu8), .row oa j oc 5 1 (((xm 92 (padK key)).take j).map vu8), .row ra 64 rc 5 1 ((padK key).map vu8), .blk b_1 .nw 23 [(32, (zB 32).map vu8)], .view a2 (bs2.map vu8), .view a (key.map vu8)] ∧ (j ≤ 64) ∧ m = 64 - j) ⟨(0, none, 0, none, 0), _, ⟨rfl, rfl, rfl, trivial⟩, h_34, Nat.zero_le _, rfl⟩ ?_
  rintro ⟨j, ia, ic, oa, oc⟩ m_37 J_38 w_35 ⟨h_36, hj, rfl⟩
  refine WP.seq (WP.seq (WP.reg ?_))
  refine qM (vn j) rfl rfl (qV rfl (R.bin rfl rfl (bi_lss (r := decide ((((j : Nat) : Int) : Int) < 64)) rfl)) ?_)
  refine WL.nil (thn_n ?_)
  refine WP.cond (b := decide ((((j : Nat) : Int) : Int) < 64)) rfl (fun c_39 => ?_) (fun c_39 => ?_)
  ·have p_40 := of_decide_eq_true c_39
   refine WP.skip (thn_n (WP.seq (WP.block (WP.seq (WP.reg ?_)))))
   refine qM (.slice ia j ic) rfl rfl (qV rfl (R.move (v := (.slice ra 64 rc)) (congrArg (fun n => Value.slice ra n rc) hz64)) (qM (vn j) rfl rfl (qV rfl (R.indexS (a := ra) (i := j) (off := j) (xs := (padK key).map vu8) rfl rfl rfl (by omega) (ownView (h_36.ok _ M2)) (lt_len (K := 64) (len_map hpk) (by omega)) underlying88 sizeOf5 (Nat.mul_one _).symm) (qV rfl (R.loadG rfl (ownView (h_36.ok _ M2)) isAgg5 (get_u8 (lt_len (K := 64) hpk (by omega)))) (qV rfl (R.bin rfl rfl (b8_xor ((padK key).getD j 0) 54)) ?_)))))
   refine WL.buildSl (vs := [(0, (vu8 (((padK key).getD j 0) ^^^ 54)))]) (cs := ([((padK key).getD j 0) ^^^ 54] : List UInt8).map vu8) h_36 underlying88 sizeOf5 (zv typeInfo5 rfl) rfl rfl (by kernel_rfl) rfl (one_u8 _) rfl rfl (fun b_41 w_42 h_43 => ?_)
   refine WL.append (km := j + 1) (xs := ((xm 54 (padK key)).take j).map vu8) (ys := ([((padK key).getD j 0) ^^^ 54] : List UInt8).map vu8) (zs := (((xm 54 (padK key)).take j) ++ ([((padK key).getD j 0) ^^^ 54] : List UInt8)).map vu8) h_43 rfl rfl el88 (viewB (h_43.ok _ M0) Sg.h) ((len_map (rfl : List.length ([((padK key).getD j 0) ^^^ 54] : List UInt8) = 1)).trans (Nat.mul_one _).symm) (one_u8 _) (by simp only [List.map_append, List.map_nil]) (by omega) (by omega) (by omega) (fun _ _ => Y1) rfl (fun a_44 c_45 w_46 h_47 => ?_)
   refine qA (.slice a_44 (j + 1) c_45) rfl rfl ?_
   refine WL.nil (thn_n (WP.reg ?_))
   refine qM (.slice oa j oc) rfl rfl (qV rfl (R.move (v := (.slice ra 64 rc)) (congrArg (fun n => Value.slice ra n rc) hz64)) (qM (vn j) rfl rfl (qV rfl (R.indexS (a := ra) (i := j) (off := j) (xs := (padK key).map vu8) rfl rfl rfl (by omega) (ownView (h_47.ok _ M3)) (lt_len (K := 64) (len_map hpk) (by omega)) underlying88 sizeOf5 (Nat.mul_one _).symm) (qV rfl (R.loadG rfl (ownView (h_47.ok _ M3)) isAgg5 (get_u8 (lt_len (K := 64) hpk (by omega)))) (qV rfl (R.bin rfl rfl (b8_xor ((padK key).getD j 0) 92)) ?_)))))
   refine WL.buildSl (vs := [(0, (vu8 (((padK key).getD j 0) ^^^ 92)))]) (cs := ([((padK key).getD j 0) ^^^ 92] : List UInt8).map vu8) h_47 underlying88 sizeOf5 (zv typeInfo5 rfl) rfl rfl (by kernel_rfl) rfl (one_u8 _) rfl rfl (fun b_48 w_49 h_50 => ?_)
   refine WL.append (km := j + 1) (xs := ((xm 92 (padK key)).take j).map vu8) (ys := ([((padK key).getD j 0) ^^^ 92] : List UInt8).map vu8) (zs := (((xm 92 (padK key)).take j) ++ ([((padK key).getD j 0) ^^^ 92] : List UInt8)).map vu8) h_50 rfl rfl el88 (viewB (h_50.ok _ M0) Sg.h) ((len_map (rfl : List.length ([((padK key).getD j 0) ^^^ 92] : List UInt8) = 1)).trans (Nat.mul_one _).symm) (one_u8 _) (by simp only [List.map_append, List.map_nil]) (by omega) (by omega) (by omega) (fun _ _ => Y3) rfl (fun a_51 c_52 w_53 h_54 => ?_)
   refine qA (.slice a_51 (j + 1) c_52) rfl rfl ?_
   refine WL.nil (inb_n (thn_n (WP.reg ?_)))
   refine qM (vn j) rfl rfl (qV rfl (R.bin rfl rfl (bi_add (c := ((j + 1 : Nat) : Int)) (by omega) (by omega))) (qA (vn (j + 1)) rfl rfl ?_))
   refine WL.nil (thn_n ?_)
   have h_62 := (((((((h_54.drop rfl).drop rfl).up J5).up J5).up J5).up J5).up J5).up J5
   rw [xm_snoc (by omega), xm_snoc (by omega)] at h_62
   exact ⟨(j + 1, a_44, c_45, a_51, c_52), _, (by omega), (Ag.upd rfl (U2 rfl rfl (U4 rfl rfl rfl rfl (U4 rfl rfl rfl rfl (U4 rfl rfl rfl rfl (U4 rfl rfl rfl rfl (U4 rfl rfl rfl rfl (Ag.updL rfl (Ag.mix _ _ _))))))))), ⟨rfl, rfl, rfl, trivial⟩, h_62, (by omega), rfl⟩
  ·have p_63 := of_decide_eq_false c_39
   refine WP.exit (thn_x (thn_x (inb_hit (thn_n (WP.seq (WP.reg ?_))))))
   refine qM (.slice ia j ic) rfl rfl (qM (.slice a2 n2 cap2) rfl rfl ?_)
   refine WL.append (km := j + n2) (xs := ((xm 54 (padK key)).take j).map vu8) (ys := bs2.map vu8) (zs := (((xm 54 (padK key)).take j) ++ bs2).map vu8) h_36 rfl rfl el88 (viewV (h_36.ok _ M4)) ((len_map hl2).trans (Nat.mul_one _).symm) (one_u8 _) (by simp only [List.map_append, List.map_nil]) (by omega) (by omega) (by omega) (fun _ _ => At.h) rfl (fun a_64 c_65 w_66 h_67 => ?_)
   refine WL.call Tryz.call103 rfl rfl (c_SumR a_64 (j + n2) c_65 (((xm 54 (padK key)).take j) ++ bs2) (lenApp (a := j) (b := n2) (by rw [List.length_take, xm_len, hpk]; omega) hl2 (by omega) : List.length (((xm 54 (padK key)).take j) ++ bs2) = j + n2) (by omega) _ (ownView (h_67.ok _ M0))) rfl ?_
   rintro _ w_69 ⟨rfl, hc_68⟩
   have h_70 := h_67.same hc_68
   refine WL.alloc (segs := [(32, (zB 32).map vu8)]) h_70 (zv typeInfo23 rfl) rfl (sC (s8 lr) sN) rfl (fun b_71 w_72 h_73 => ?_)
   refine WL.storeA [] [(32, (zB 32).map vu8)] [(32, (sumL (((xm 54 (padK key)).take j) ++ bs2)).map vu8)] [] h_73 rfl rfl sizeOf23 At.h (by decide) rfl rfl rfl rfl rfl rfl (sC (s8 (sumL_len _)) sN) (fun w_74 h_75 => ?_)
   refine WL.nil (thn_n (WP.seq (WP.reg ?_)))
   refine qM (.slice oa j oc) rfl rfl (qV rfl (R.sliceA (b := b_71) (off := 0) (off' := 0) (l := 0) (h := 32) rfl EvB.dflt EvB.dflt (by decide) (by decide) underlying23 sizeOf5 rfl) ?_)
   refine WL.append (km := j + 32) (xs := ((xm 92 (padK key)).take j).map vu8) (ys := (sumL (((xm 54 (padK key)).take j) ++ bs2)).map vu8) (zs := (((xm 92 (padK key)).take j) ++ (sumL (((xm 54 (padK key)).take j) ++ bs2))).map vu8) h_75 rfl rfl el88 (viewB (h_75.ok _ M0) Sg.h) ((len_map (sumL_len _)).trans (Nat.mul_one _).symm) (one_u8 _) (by simp only [List.map_append, List.map_nil]) (by omega) (by omega) (by omega) (fun _ _ => Y2) rfl (fun a_76 c_77 w_78 h_79 => ?_)
   refine WL.call Tryz.call103 rfl rfl (c_SumR a_76 (j + 32) c_77 (((xm 92 (padK key)).take j) ++ (sumL (((xm 54 (padK key)).take j) ++ bs2))) (lenApp (a := j) (b := 32) (by rw [List.length_take, xm_len, hpk]; omega) (sumL_len _) (by omega) : List.length (((xm 92 (padK key)).take j) ++ (sumL (((xm 54 (padK key)).take j) ++ bs2))) = j + 32) (by omega) _ (ownView (h_79.ok _ M2))) rfl ?_
   rintro _ w_81 ⟨rfl, hc_80⟩
   have h_82 := h_79.same hc_80
   refine WL.storeA [] [(32, (zB 32).map vu8)] [(32, (sumL (((xm 92 (padK key)).take j) ++ (sumL (((xm 54 (padK key)).take j) ++ bs2)))).map vu8)] [] h_82 rfl rfl sizeOf23 Y4 (by decide) rfl rfl rfl rfl rfl rfl (sC (s8 (sumL_len _)) sN) (fun w_83 h_84 => ?_)
   refine WL.nil (thn_n (WP.ret ?_))
   refine ret_of results112 (RV.cell rfl (h_84.loadA (cs := (sumL (((xm 92 (padK key)).take j) ++ (sumL (((xm 54 (padK key)).take j) ++ bs2)))).map vu8) isAgg23 sizeOf23 M4 rfl rfl) RV.nil) ?_
   have hj64 : j = 64 := by omega
   have e1 : (xm 54 (padK key)).take j = xm 54 (padK key) := List.take_of_length_le (by rw [xm_len]; omega)
   have e2 : (xm 92 (padK key)).take j = xm 92 (padK key) := List.take_of_length_le (by rw [xm_len]; omega)
   exact ⟨by rw [e1, e2, tag_s hl h]; rfl, h_84.chgS⟩

theorem c_TagR_l (a : Option Addr) (n cap : Nat) (key : List UInt8) (hl : key.length = n) (hcap : n ≤ cap) (hn : n ≤ 100000000000) (a2 : Option Addr) (n2 cap2 : Nat) (bs2 : List UInt8) (hl2 : bs2.length = n2) (hcap2 : n2 ≤ cap2) (hn2 : n2 ≤ 100000000000) (h : 64 < n) (w : World) (hv : View w a (key.map vu8)) (hv2 : View w a2 (bs2.map vu8)) :
  Cs Tryz.prog 112 [(.slice a n cap), (.slice a2 n2 cap2)].toArray w (fun v w1 => v = (.agg ⟨(tagL key bs2).map vu8⟩) ∧ Chg w w1 []) := by
 refine Cs.of (n := 54) (args := [(.slice a n cap), (.slice a2 n2 cap2)]) Tryz.func112 rfl rfl rfl ?_
 have h_0 := HP.init w
 have h_01 := h_0.oldV (View.arg hv) rfl (by simp [Ent.mut])
 have h_00 := h_01.oldV (View.arg hv2) rfl (by simp [Ent.mut])
 refine WP.seq (WP.reg ?_)
 refine WL.alloc (segs := [(32, (zB 32).map vu8)]) h_00 (zv typeInfo23 rfl) rfl (sC (s8 lr) sN) rfl (fun b_1 w_2 h_3 => ?_)
 refine WL.nil (thn_n (WP.seq (WP.reg ?_)))
 refine qM (.slice a n cap) rfl rfl ?_
 have h_4 := h_3.rowNil 5 1
 refine WL.append (km := n) (xs := []) (ys := key.map vu8) (zs := key.map vu8) h_4 rfl rfl el88 (viewV (h_4.ok _ M3)) ((len_map hl).trans (Nat.mul_one _).symm) (one_u8 _) rfl (by omega) (by omega) (by omega) (fun _ _ => At.h) rfl (fun a_5 c_6 w_7 h_8 => ?_)
 refine qA (.slice a_5 n c_6) rfl rfl ?_
 refine WL.nil (thn_n (WP.seq (WP.seq (WP.reg ?_))))
 refine qM (.slice a_5 n c_6) rfl rfl (qV rfl (R.lenS (a := a_5) (m := n) rfl rfl underlying88) (qV rfl (R.bin rfl rfl (bi_gtr (r := decide ((((n : Nat) : Int) : Int) > 64)) rfl)) ?_))
 refine WL.nil (thn_n ?_)
 refine WP.condT (congrArg Value.bool (decide_eq_true (by omega))) ?_
 refine WP.seq (WP.reg ?_)
 refine qM (.slice a n cap) rfl rfl ?_
 refine WL.call Tryz.call103 rfl rfl (c_SumR a n cap key hl (by omega) _ (viewV (h_8.ok _ M3))) rfl ?_
 rintro _ w_10 ⟨rfl, hc_9⟩
 have h_11 := h_8.same hc_9
 refine WL.alloc (segs := [(32, (zB 32).map vu8)]) h_11 (zv typeInfo23 rfl) rfl (sC (s8 lr) sN) rfl (fun b_12 w_13 h_14 => ?_)
 refine WL.storeA [] [(32, (zB 32).map vu8)] [(32, (sumL key).map vu8)] [] h_14 rfl rfl sizeOf23 At.h (by decide) rfl rfl rfl rfl rfl rfl (sC (s8 (sumL_len _)) sN) (fun w_15 h_16 => ?_)
 refine WL.nil (thn_n (WP.reg ?_))
 refine qV rfl (R.sliceA (b := b_12) (off := 0) (off' := 0) (l := 0) (h := 32) rfl EvB.dflt EvB.dflt (by decide) (by decide) underlying23 sizeOf5 rfl) ?_
 have h_17 := h_16.rowNil 5 1
 refine WL.append (km := 32) (xs := []) (ys := (sumL key).map vu8) (zs := (sumL key).map vu8) h_17 rfl rfl el88 (viewB (h_17.ok _ M1) Sg.h) ((len_map (sumL_len _)).trans (Nat.mul_one _).symm) (one_u8 _) rfl rfl (by omega) (by omega) (fun _ _ => At.h) rfl (fun a_18 c_19 w_20 h_21 => ?_)
 refine qA (.slice a_18 32 c_19) rfl rfl ?_
 refine WL.nil (thn_n (WP.seq (WP.block ?_)))
 have h_29 := (((((((h_21.up J1).drop rfl).up J1).drop rfl).up J3).up J3).up J3).up J3
 refine WP.loopG (G := Nat × Option Addr × Nat) [5, 20, 21, 22, 23, 24, 25] (fun (z, ra, rc) => [(5, (.slice ra (32 + z) rc))]) (fun (z, ra, rc) m w1 => HP w w1 [.row ra (32 + z) rc 5 1 (((sumL key) ++ List.replicate z (0 : UInt8)).map vu8), .blk b_1 .nw 23 [(32, (zB 32).map vu8)], .view a2 (bs2.map vu8), .view a (key.map vu8)] ∧ (32 + z ≤ 64) ∧ m = 64 - z) ⟨(0, a_18, c_19), _, ⟨rfl, trivial⟩, (by rw [List.replicate_zero, List.append_nil]; exact h_29), (by omega), rfl⟩ ?_
 rintro ⟨z, ra, rc⟩ m_32 J_33 w_30 ⟨h_31, hz, rfl⟩
 refine WP.seq (WP.seq (WP.reg ?_))
 refine qM (.slice ra (32 + z) rc) rfl rfl (qV rfl (R.lenS (a := ra) (m := 32 + z) rfl rfl underlying88) (qV rfl (R.bin rfl rfl (bi_lss (r := decide ((((32 + z : Nat) : Int) : Int) < 64)) rfl)) ?_))
 refine WL.nil (thn_n ?_)
 refine WP.cond (b := decide ((((32 + z : Nat) : Int) : Int) < 64)) rfl (fun c_34 => ?_) (fun c_34 => ?_)
 ·have p_35 := of_decide_eq_true c_34
  refine WP.skip (thn_n (WP.block (WP.reg ?_)))
  refine qM (.slice ra (32 + z) rc) rfl rfl ?_
  refine WL.buildSl (vs := [(0, (vu8 0))]) (cs := ([0] : List UInt8).map vu8) h_31 underlying88 sizeOf5 (zv typeInfo5 rfl) rfl rfl (by kernel_rfl) rfl (one_u8 _) rfl rfl (fun b_36 w_37 h_38 => ?_)
  refine WL.append (km := 32 + z + 1) (xs := ((sumL key) ++ List.replicate z (0 : UInt8)).map vu8) (ys := ([0] : List UInt8).map vu8) (zs := (((sumL key) ++ List.replicate z (0 : UInt8)) ++ ([0] : List UInt8)).map vu8) h_38 rfl rfl el88 (viewB (h_38.ok _ M0) Sg.h) ((len_map (rfl : List.length ([0] : List UInt8) = 1)).trans (Nat.mul_one _).symm) (one_u8 _) (by simp only [List.map_append, List.map_nil]) (by omega) (by omega) (by omega) (fun _ _ => Y1) rfl (fun a_39 c_40 w_41 h_42 => ?_)
  refine qA (.slice a_39 (32 + z + 1) c_40) rfl rfl ?_
  refine WL.nil (inb_n (thn_n ?_))
  have h_47 := ((((h_42.drop rfl).up J3).up J3).up J3).up J3
  rw [List.append_assoc, zero_snoc] at h_47
  exact ⟨(z + 1, a_39, c_40), _, (by omega), (Ag.upd rfl (U2 rfl rfl (U4 rfl rfl rfl rfl (Ag.updL rfl (Ag.mix _ _ _))))), ⟨rfl, trivial⟩, h_47, (by omega), rfl⟩
 ·have p_48 := of_decide_eq_false c_34
  refine WP.exit (thn_x (thn_x (inb_hit (thn_n (WP.seq (WP.reg ?_))))))
  refine qA (.slice none 0 0) rfl rfl (qA (.slice none 0 0) rfl rfl ?_)
  refine WL.nil (thn_n (WP.seq (WP.seq (WP.reg ?_))))
  refine qA (vi 0) rfl rfl ?_
  refine WL.nil (thn_n (WP.block ?_))
  have hz64 : 32 + z = 64 := by omega
  have hpk : (padK (sumL key)).length = 64 := padK_len (sumL_len _) (by omega)
  rw [pad_z (sumL_len _) hz64, hz64] at h_31
  have h_50 := h_31.rowNil 5 1
  have h_51 := h_50.rowNil 5 1
  refine WP.loopG (G := Nat × Option Addr × Nat × Option Addr × Nat) [7, 8, 9, 26, 27, 28, 29, 30, 31, 32, 33, 34, 35, 36, 37, 38, 39, 40, 41, 42, 43, 44, 45] (fun (j, ia, ic, oa, oc) => [(7, (.slice ia j ic)), (8, (.slice oa j oc)), (9, (vn j))]) (fun (j, ia, ic, oa, oc) m w1 => HP w w1 [.row ia j ic 5 1 (((xm 54 (padK (sumL key))).take j).map vu8), .row oa j oc 5 1 (((xm 92 (padK (sumL key))).take j).map vu8), .row ra 64 rc 5 1 ((padK (sumL key)).map vu8), .blk b_1 .nw 23 [(32, (zB 32).map vu8)], .view a2 (bs2.map vu8), .view a (key.map vu8)] ∧ (j ≤ 64) ∧ m = 64 - j) ⟨(0, none, 0, none, 0), _, ⟨rfl, rfl, rfl, trivial⟩, h_51, Nat.zero_le _, rfl⟩ ?_
  rintro ⟨j, ia, ic, oa, oc⟩ m_54 J_55 w_52 ⟨h_53, hj, rfl⟩
  refine WP.seq (WP.seq (WP.reg ?_))
  refine qM (vn j) rfl rfl (qV rfl (R.bin rfl rfl (bi_lss (r := decide ((((j : Nat) : Int) : Int) < 64)) rfl)) ?_)
  refine WL.nil (thn_n ?_)
  refine WP.cond (b := decide ((((j : Nat) : Int) : Int) < 64)) rfl (fun c_56 => ?_) (fun c_56 => ?_)
  ·have p_57 := of_decide_eq_true c_56
   refine WP.skip (thn_n (WP.seq (WP.block (WP.seq (WP.reg ?_)))))
   refine qM (.slice ia j ic) rfl rfl (qV rfl (R.move (v := (.slice ra 64 rc)) (congrArg (fun n => Value.slice ra n rc) hz64)) (qM (vn j) rfl rfl (qV rfl (R.indexS (a := ra) (i := j) (off := j) (xs := (padK (sumL key)).map vu8) rfl rfl rfl (by omega) (ownView (h_53.ok _ M2)) (lt_len (K := 64) (len_map hpk) (by omega)) underlying88 sizeOf5 (Nat.mul_one _).symm) (qV rfl (R.loadG rfl (ownView (h_53.ok _ M2)) isAgg5 (get_u8 (lt_len (K := 64) hpk (by omega)))) (qV rfl (R.bin rfl rfl (b8_xor ((padK (sumL key)).getD j 0) 54)) ?_)))))
   refine WL.buildSl (vs := [(0, (vu8 (((padK (sumL key)).getD j 0) ^^^ 54)))]) (cs := ([((padK (sumL key)).getD j 0) ^^^ 54] : List UInt8).map vu8) h_53 underlying88 sizeOf5 (zv typeInfo5 rfl) rfl rfl (by kernel_rfl) rfl (one_u8 _) rfl rfl (fun b_58 w_59 h_60 => ?_)
   refine WL.append (km := j + 1) (xs := ((xm 54 (padK (sumL key))).take j).map vu8) (ys := ([((padK (sumL key)).getD j 0) ^^^ 54] : List UInt8).map vu8) (zs := (((xm 54 (padK (sumL key))).take j) ++ ([((padK (sumL key)).getD j 0) ^^^ 54] : List UInt8)).map vu8) h_60 rfl rfl el88 (viewB (h_60.ok _ M0) Sg.h) ((len_map (rfl : List.length ([((padK (sumL key)).getD j 0) ^^^ 54] : List UInt8) = 1)).trans (Nat.mul_one _).symm) (one_u8 _) (by simp only [List.map_append, List.map_nil]) (by omega) (by omega) (by omega) (fun _ _ => Y1) rfl (fun a_61 c_62 w_63 h_64 => ?_)
   refine qA (.slice a_61 (j + 1) c_62) rfl rfl ?_
   refine WL.nil (thn_n (WP.reg ?_))
   refine qM (.slice oa j oc) rfl rfl (qV rfl (R.move (v := (.slice ra 64 rc)) (congrArg (fun n => Value.slice ra n rc) hz64)) (qM (vn j) rfl rfl (qV rfl (R.indexS (a := ra) (i := j) (off := j) (xs := (padK (sumL key)).map vu8) rfl rfl rfl (by omega) (ownView (h_64.ok _ M3)) (lt_len (K := 64) (len_map hpk) (by omega)) underlying88 sizeOf5 (Nat.mul_one _).symm) (qV rfl (R.loadG rfl (ownView (h_64.ok _ M3)) isAgg5 (get_u8 (lt_len (K := 64) hpk (by omega)))) (qV rfl (R.bin rfl rfl (b8_xor ((padK (sumL key)).getD j 0) 92)) ?_)))))
   refine WL.buildSl (vs := [(0, (vu8 (((padK (sumL key)).getD j 0) ^^^ 92)))]) (cs := ([((padK (sumL key)).getD j 0) ^^^ 92] : List UInt8).map vu8) h_64 underlying88 sizeOf5 (zv typeInfo5 rfl) rfl rfl (by kernel_rfl) rfl (one_u8 _) rfl rfl (fun b_65 w_66 h_67 => ?_)
   refine WL.append (km := j + 1) (xs := ((xm 92 (padK (sumL key))).take j).map vu8) (ys := ([((padK (sumL key)).getD j 0) ^^^ 92] : List UInt8).map vu8) (zs := (((xm 92 (padK (sumL key))).take j) ++ ([((padK (sumL key)).getD j 0) ^^^ 92] : List UInt8)).map vu8) h_67 rfl rfl el88 (viewB (h_67.ok _ M0) Sg.h) ((len_map (rfl : List.length ([((padK (sumL key)).getD j 0) ^^^ 92] : List UInt8) = 1)).trans (Nat.mul_one _).symm) (one_u8 _) (by simp only [List.map_append, List.map_nil]) (by omega) (by omega) (by omega) (fun _ _ => Y3) rfl (fun a_68 c_69 w_70 h_71 => ?_)
   refine qA (.slice a_68 (j + 1) c_69) rfl rfl ?_
   refine WL.nil (inb_n (thn_n (WP.reg ?_)))
   refine qM (vn j) rfl rfl (qV rfl (R.bin rfl rfl (bi_add (c := ((j + 1 : Nat) : Int)) (by omega) (by omega))) (qA (vn (j + 1)) rfl rfl ?_))
   refine WL.nil (thn_n ?_)
   have h_79 := (((((((h_71.drop rfl).drop rfl).up J5).up J5).up J5).up J5).up J5).up J5
   rw [xm_snoc (by omega), xm_snoc (by omega)] at h_79
   exact ⟨(j + 1, a_61, c_62, a_68, c_69), _, (by omega), (Ag.upd rfl (U2 rfl rfl (U4 rfl rfl rfl rfl (U4 rfl rfl rfl rfl (U4 rfl rfl rfl rfl (U4 rfl rfl rfl rfl (U4 rfl rfl rfl rfl (Ag.updL rfl (Ag.mix _ _ _))))))))), ⟨rfl, rfl, rfl, trivial⟩, h_79, (by omega), rfl⟩
  ·have p_80 := of_decide_eq_false c_56
   refine WP.exit (thn_x (thn_x (inb_hit (thn_n (WP.seq (WP.reg ?_))))))
   refine qM (.slice ia j ic) rfl rfl (qM (.slice a2 n2 cap2) rfl rfl ?_)
   refine WL.append (km := j + n2) (xs := ((xm 54 (padK (sumL key))).take j).map vu8) (ys := bs2.map vu8) (zs := (((xm 54 (padK (sumL key))).take j) ++ bs2).map vu8) h_53 rfl rfl el88 (viewV (h_53.ok _ M4)) ((len_map hl2).trans (Nat.mul_one _).symm) (one_u8 _) (by simp only [List.map_append, List.map_nil]) (by omega) (by omega) (by omega) (fun _ _ => At.h) rfl (fun a_81 c_82 w_83 h_84 => ?_)
   refine WL.call Tryz.call103 rfl rfl (c_SumR a_81 (j + n2) c_82 (((xm 54 (padK (sumL key))).take j) ++ bs2) (lenApp (a := j) (b := n2) (by rw [List.length_take, xm_len, hpk]; omega) hl2 (by omega) : List.length (((xm 54 (padK (sumL key))).take j) ++ bs2) = j + n2) (by omega) _ (ownView (h_84.ok _ M0))) rfl ?_
   rintro _ w_86 ⟨rfl, hc_85⟩
   have h_87 := h_84.same hc_85
   refine WL.alloc (segs := [(32, (zB 32).map vu8)]) h_87 (zv typeInfo23 rfl) rfl (sC (s8 lr) sN) rfl (fun b_88 w_89 h_90 => ?_)
   refine WL.storeA [] [(32, (zB 32).map vu8)] [(32, (sumL (((xm 54 (padK (sumL key))).take j) ++ bs2)).map vu8)] [] h_90 rfl rfl sizeOf23 At.h (by decide) rfl rfl rfl rfl rfl rfl (sC (s8 (sumL_len _)) sN) (fun w_91 h_92 => ?_)
   refine WL.nil (thn_n (WP.seq (WP.reg ?_)))
   refine qM (.slice oa j oc) rfl rfl (qV rfl (R.sliceA (b := b_88) (off := 0) (off' := 0) (l := 0) (h := 32) rfl EvB.dflt EvB.dflt (by decide) (by decide) underlying23 sizeOf5 rfl) ?_)
   refine WL.append (km := j + 32) (xs := ((xm 92 (padK (sumL key))).take j).map vu8) (ys := (sumL (((xm 54 (padK (sumL key))).take j) ++ bs2)).map vu8) (zs := (((xm 92 (padK (sumL key))).take j) ++ (sumL (((xm 54 (padK (sumL key))).take j) ++ bs2))).map vu8) h_92 rfl rfl el88 (viewB (h_92.ok _ M0) Sg.h) ((len_map (sumL_len _)).trans (Nat.mul_one _).symm) (one_u8 _) (by simp only [List.map_append, List.map_nil]) (by omega) (by omega) (by omega) (fun _ _ => Y2) rfl (fun a_93 c_94 w_95 h_96 => ?_)
   refine WL.call Tryz.call103 rfl rfl (c_SumR a_93 (j + 32) c_94 (((xm 92 (padK (sumL key))).take j) ++ (sumL (((xm 54 (padK (sumL key))).take j) ++ bs2))) (lenApp (a := j) (b := 32) (by rw [List.length_take, xm_len, hpk]; omega) (sumL_len _) (by omega) : List.length (((xm 92 (padK (sumL key))).take j) ++ (sumL (((xm 54 (padK (sumL key))).take j) ++ bs2))) = j + 32) (by omega) _ (ownView (h_96.ok _ M2))) rfl ?_
   rintro _ w_98 ⟨rfl, hc_97⟩
   have h_99 := h_96.same hc_97
   refine WL.storeA [] [(32, (zB 32).map vu8)] [(32, (sumL (((xm 92 (padK (sumL key))).take j) ++ (sumL (((xm 54 (padK (sumL key))).take j) ++ bs2)))).map vu8)] [] h_99 rfl rfl sizeOf23 Y4 (by decide) rfl rfl rfl rfl rfl rfl (sC (s8 (sumL_len _)) sN) (fun w_100 h_101 => ?_)
   refine WL.nil (thn_n (WP.ret ?_))
   refine ret_of results112 (RV.cell rfl (h_101.loadA (cs := (sumL (((xm 92 (padK (sumL key))).take j) ++ (sumL (((xm 54 (padK (sumL key))).take j) ++ bs2)))).map vu8) isAgg23 sizeOf23 M4 rfl rfl) RV.nil) ?_
   have hj64 : j = 64 := by omega
   have e1 : (xm 54 (padK (sumL key))).take j = xm 54 (padK (sumL key)) := List.take_of_length_le (by rw [xm_len]; omega)
   have e2 : (xm 92 (padK (sumL key))).take j = xm 92 (padK (sumL key)) := List.take_of_length_le (by rw [xm_len]; omega)
   exact ⟨by rw [e1, e2, tag_l hl h]; rfl, h_101.chgS⟩

theorem c_TagR (a : Option Addr) (n cap : Nat) (key : List UInt8) (hl : key.length = n) (hcap : n ≤ cap) (hn : n ≤ 100000000000) (a2 : Option Addr) (n2 cap2 : Nat) (bs2 : List UInt8) (hl2 : bs2.length = n2) (hcap2 : n2 ≤ cap2) (hn2 : n2 ≤ 100000000000) (w : World) (hv : View w a (key.map vu8)) (hv2 : View w a2 (bs2.map vu8)) : Cs Tryz.prog 112 [.slice a n cap, .slice a2 n2 cap2].toArray w (fun v w1 => v = (.agg ⟨(tagL key bs2).map vu8⟩) ∧ Chg w w1 []) := by
 by_cases h : 64 < n
 ·exact c_TagR_l a n cap key hl hcap hn a2 n2 cap2 bs2 hl2 hcap2 hn2 h w hv hv2
 ·exact c_TagR_s a n cap key hl hcap hn a2 n2 cap2 bs2 hl2 hcap2 hn2 h w hv hv2
end Go.Proofs.YteclkcpdclimnaaGreat

namespace Go.Orc
open Go.Vc Go.RowKit
def lk (q : Qn) (l : Lg) : Option (List UInt8) := (fdq q l 0).map fun i => (l.getD i (q, [])).2
theorem fdq_app {q : Qn} (x : Qn × List UInt8) : ∀ {l : Lg} {i j : Nat}, fdq q l i = some j → fdq q (l ++ [x]) i = some j
  | p :: r, i, j, h => by
    rw [List.cons_append]
    rw [fdq] at h ⊢
    split
    · rename_i e; rw [if_pos e] at h; exact h
    · rename_i e; rw [if_neg e] at h; exact fdq_app x h
theorem fdq_new {q : Qn} (d : List UInt8) : ∀ {l : Lg} {i : Nat}, fdq q l i = none → fdq q (l ++ [(q, d)]) i = some (i + l.length)
  | [], i, _ => by simp [fdq]
  | p :: r, i, h => by
    rw [List.cons_append]
    rw [fdq] at h ⊢
    split
    · rename_i e; rw [if_pos e] at h; cases h
    · rename_i e; rw [if_neg e] at h; rw [fdq_new d h, List.length_cons]; congr 1; omega
theorem lk_app {q : Qn} {l : Lg} {d : List UInt8} (x : Qn × List UInt8) (h : lk q l = some d) : lk q (l ++ [x]) = some d := by
  unfold lk at h ⊢
  cases hf : fdq q l 0 with
  | none => rw [hf] at h; cases h
  | some i =>
    rw [hf] at h
    have hlt := fdq_lt hf
    rw [fdq_app x hf]
    have e : (l ++ [x]).getD i (q, []) = l.getD i (q, []) := by
      have h2 : i < l.length := by omega
      have h3 : i < (l ++ [x]).length := by rw [snoc_len]; omega
      simp [List.getD_eq_getElem?_getD, h2, List.getElem?_append_left]
    simpa only [Option.map_some, e] using h
section
variable {id : Bool} {df : List UInt8} {dn u : Nat} {l : Lg} {q q' : Qn} {d : List UInt8}
theorem anD_lk (h : lk q l = some d) : anD id df dn u l q = d := by
  unfold lk at h
  cases hf : fdq q l 0 with
  | none => rw [hf] at h; cases h
  | some i => rw [hf] at h; rw [anD_hit hf]; simpa using h
theorem anU_lk (h : lk q l = some d) : anU id u l q = u := by
  unfold lk at h
  cases hf : fdq q l 0 with
  | none => rw [hf] at h; cases h
  | some i => rw [anU_hit hf]
theorem anL_lk (h : lk q l = some d) : anL id df dn u l q = l := by
  unfold lk at h
  cases hf : fdq q l 0 with
  | none => rw [hf] at h; cases h
  | some i => rw [anL_hit hf]
theorem lk_self : lk q (anL id df dn u l q) = some (anD id df dn u l q) := by
  cases hf : fdq q l 0 with
  | none =>
    rw [anL_miss hf, anD_miss hf]
    unfold lk
    rw [fdq_new _ hf]
    simp
  | some i =>
    rw [anL_hit hf, anD_hit hf]
    unfold lk
    rw [hf]; rfl
theorem lk_anL (h : lk q l = some d) : lk q (anL id df dn u l q') = some d := by
  cases hf : fdq q' l 0 with
  | none => rw [anL_miss hf]; exact lk_app _ h
  | some i => rw [anL_hit hf]; exact h
end
end Go.Orc
namespace Go.Vc
open Go.RowKit Go.ChangeShapes Go.WideShapes Go.ChangeAt
section
variable {P : Program} {w : World} {t : TypeId} {cs : List Value}
theorem cells?_all {a : Addr} {n : Nat} {ys : List Value} (h : w.cells? 0 a n = some ys) : ys.length = n ∧ ∀ (i : Nat) v, ys[i]? = some v → w.cell? (a.add i) = some v := by
  simp only [World.cells?, Nat.zero_le, if_true] at h
  have key : ∀ (f : Nat → Option Value) (L : List Nat) (l : List Value), L.mapM f = some l → l.length = L.length ∧ ∀ (i : Nat) v, l[i]? = some v → ∃ x, L[i]? = some x ∧ f x = some v := by
    intro f L
    induction L with
    | nil => intro l h; simp at h; subst h; exact ⟨rfl, fun i v h => by simp at h⟩
    | cons a L ih =>
      intro l h
      rw [List.mapM_cons] at h
      obtain ⟨y, hy, h⟩ := Option.bind_eq_some_iff.1 h
      obtain ⟨l', hl', h⟩ := Option.bind_eq_some_iff.1 h
      simp at h; subst h
      obtain ⟨h1, h2⟩ := ih l' hl'
      refine ⟨by simp [h1], fun i v hv => ?_⟩
      cases i with
      | zero => simp at hv; subst hv; exact ⟨a, rfl, hy⟩
      | succ i => exact h2 i v (by simpa using hv)
  obtain ⟨h1, h2⟩ := key _ _ _ h
  refine ⟨by simpa using h1, fun i v hv => ?_⟩
  obtain ⟨x, hx, hf⟩ := h2 i v hv
  have hi : i < n := by
    have := (List.getElem?_eq_some_iff.1 hx).1
    simpa using this
  rw [List.getElem?_range hi] at hx
  cases hx
  exact hf
theorem Tr.slA8 {e e8 : TypeId} {s : Nat} (hu : P.underlying t = some (.slice e)) (hce : P.cellsOf e = s) (he : P.underlying e = some (.array s e8)) (hce8 : P.cellsOf e8 = 1) (he8 : P.underlying e8 = some (.int .u8)) (h : Tr P w t cs) :
    ∃ a n cap, ∃ l : List UInt8, cs = [.slice a n cap] ∧ l.length = s * n ∧ n ≤ cap ∧ cap ≤ maxLen ∧ (Ent.view a (l.map vu8)).ok w.heap.size w := by
  rcases Tr.nilOrSlice hu h with rfl | ⟨a, len, cap, rfl, h1, h2, h3⟩
  · exact ⟨none, 0, 0, [], rfl, rfl, Nat.le_refl _, by simp [maxLen], ⟨View.nil _ _, fun ad h => by cases h⟩⟩
  · have key : ∀ k, k ≤ len → ∃ l : List UInt8, l.length = s * k ∧ View w (some a) (l.map vu8) := by
      intro k
      induction k with
      | zero => intro _; exact ⟨[], rfl, View.nil _ _⟩
      | succ k ih =>
        intro hk
        obtain ⟨l, hl, hv⟩ := ih (by omega)
        obtain ⟨ys, hys, ht⟩ := h3 k (by omega)
        rw [hce] at hys
        obtain ⟨hyl, hyc⟩ := cells?_all hys
        obtain ⟨m, rfl, hm⟩ := Tr.arr8 he hce hce8 he8 ht
        refine ⟨l ++ m, by rw [List.length_append, hl, hm, Nat.mul_succ], fun i v hv' => ?_⟩
        rw [List.map_append] at hv'
        by_cases hi : i < l.length
        · refine hv i v ?_
          rw [List.getElem?_append_left (by simpa using hi)] at hv'
          exact hv'
        · rw [List.getElem?_append_right (by simpa using hi)] at hv'
          have h4 := hyc _ v hv'
          rw [add_add, List.length_map, hl, Nat.mul_comm, show s * k + (i - s * k) = i by omega] at h4
          exact ⟨a, rfl, h4⟩
    obtain ⟨l, hl, hv⟩ := key len (Nat.le_refl _)
    refine ⟨some a, len, cap, l, rfl, hl, h1, h2, ⟨hv, fun ad ha hne => ?_⟩⟩
    cases ha
    cases l with
    | nil => simp at hne
    | cons x l =>
      obtain ⟨ad', e, hc⟩ := hv 0 (vu8 x) rfl
      cases e
      have := block_lt_of_cell hc
      rwa [Addr.add_block] at this
end
end Go.Vc

namespace Go.Orc
open Go.Vc Go.RowKit
theorem fdq_at {q : Qn} {z : Qn × List UInt8} : ∀ {l : Lg} {s i : Nat}, i < l.length → (∀ j, j < i → (l.getD j z).1 ≠ q) → (l.getD i z).1 = q → fdq q l s = some (s + i)
  | [], s, i, h, _, _ => by simp at h
  | p :: r, s, 0, _, _, h => by rw [fdq, if_pos (by simpa using h)]; rfl
  | p :: r, s, i + 1, hi, hn, h => by
    rw [fdq, if_neg (by simpa using hn 0 (by omega))]
    rw [fdq_at (l := r) (s := s + 1) (i := i) (by simpa using hi) (fun j hj => by simpa using hn (j + 1) (by omega)) (by simpa using h)]
    congr 1; omega
theorem fdq_no {q : Qn} {z : Qn × List UInt8} : ∀ {l : Lg} {s : Nat}, (∀ j, j < l.length → (l.getD j z).1 ≠ q) → fdq q l s = none
  | [], s, _ => rfl
  | p :: r, s, hn => by
    rw [fdq, if_neg (by simpa using hn 0 (by simp))]
    exact fdq_no (fun j hj => by simpa using hn (j + 1) (by simpa using hj))
theorem aC_take {q : Qn} {s : Value} {d : List UInt8} (h : q.2.1.length = 32) : (aC q s d).take 35 = flat [(1, [vi q.1]), (32, q.2.1.map vu8), (1, [vi q.2.2.1]), (1, [s])] := by
  have e : aC q s d = ([vi q.1] ++ (q.2.1.map vu8 ++ ([vi q.2.2.1] ++ [s]))) ++ d.map vu8 := by simp [aC, flat]
  rw [e, List.take_append_of_le_length (by simp [h]), List.take_of_length_le (by simp [h])]
  simp [flat]
theorem Lgs.qget {w : World} {xs : List Value} {l : Lg} (h : Lgs w xs l) {i : Nat} {z : Qn × List UInt8} (hi : i < l.length) : ∃ a n c, (xs.drop (i * 67)).take 35 = flat [(1, [vi (l.getD i z).1.1]), (32, (l.getD i z).1.2.1.map vu8), (1, [vi (l.getD i z).1.2.2.1]), (1, [.slice a n c])] ∧ okQ (l.getD i z).1 ∧ (l.getD i z).1.2.2.2.length = n ∧ n ≤ c ∧ View w a ((l.getD i z).1.2.2.2.map vu8) ∧ (∀ b ∈ sblk (.slice a n c), b ∈ sblks xs) := by
  obtain ⟨a, n, c, h1, h2, h3, h4, h5, h6⟩ := h.get hi
  have hq := h.ok (l[i]) (List.getElem_mem hi)
  have e : l.getD i z = l[i] := by simp [hi]
  rw [e]
  refine ⟨a, n, c, ?_, hq, h3, h4, h5, h6⟩
  have h7 := congrArg (fun x => x.take 35) h1
  change ((xs.drop (67 * i)).take 67).take 35 = (aC _ _ _).take 35 at h7
  rw [aC_take hq.1, List.take_take, show 67 * i = i * 67 by omega, show min 35 67 = 35 from rfl] at h7
  exact h7
theorem aC_set {q : Qn} {s s' : Value} {d : List UInt8} (h : q.2.1.length = 32) : (aC q s d).set 34 s' = aC q s' d := by
  have e : ∀ s, aC q s d = ([vi q.1] ++ (q.2.1.map vu8 ++ [vi q.2.2.1])) ++ (s :: d.map vu8) := fun s => by simp [aC, flat]
  rw [e, e, List.set_append, if_neg (by simp [h])]
  congr 1
  simp [h]
theorem Lgs.set {w : World} {xs : List Value} {l : Lg} (h : Lgs w xs l) : ∀ {i : Nat} {z : Qn × List UInt8} {a : Option Addr} {n c : Nat}, i < l.length → (l.getD i z).1.2.2.2.length = n → n ≤ c → View w a ((l.getD i z).1.2.2.2.map vu8) → Lgs w (xs.set (i * 67 + 34) (.slice a n c)) l := by
  induction h with
  | nil => intro i z a n c hi; simp at hi
  | @snoc a n c q d xs l r hq hd hl hc hv ih =>
    intro i z a' n' c' hi hn hc' hv'
    have hlen := r.len
    by_cases e : i < l.length
    · have e2 : (l ++ [(q, d)]).getD i z = l.getD i z := by simp [List.getD_eq_getElem?_getD, e, List.getElem?_append_left]
      rw [e2] at hn hv'
      rw [List.set_append, if_pos (by omega)]
      exact .snoc (ih e hn hc' hv') hq hd hl hc hv
    · have : i = l.length := by rw [List.length_append, List.length_singleton] at hi; omega
      subst this
      have e2 : (l ++ [(q, d)]).getD l.length z = (q, d) := by simp
      rw [e2] at hn hv'
      rw [List.set_append, if_neg (by omega), show l.length * 67 + 34 - xs.length = 34 by omega, aC_set hq.1]
      exact .snoc r hq hd hn hc' hv'
theorem sblks_set {v : Value} : ∀ {xs : List Value} {k : Nat} {b : Nat}, b ∈ sblks (xs.set k v) → b ∈ sblks xs ∨ b ∈ sblk v
  | [], k, b, h => by simp [sblks] at h
  | x :: xs, 0, b, h => by
    have h' : b ∈ sblk v ++ sblks xs := h
    rcases List.mem_append.1 h' with h | h
    · exact .inr h
    · exact .inl (show b ∈ sblk x ++ sblks xs from List.mem_append.2 (.inr h))
  | x :: xs, k + 1, b, h => by
    have h' : b ∈ sblk x ++ sblks (xs.set k v) := h
    rcases List.mem_append.1 h' with h | h
    · exact .inl (show b ∈ sblk x ++ sblks xs from List.mem_append.2 (.inl h))
    · rcases sblks_set h with h | h
      · exact .inl (show b ∈ sblk x ++ sblks xs from List.mem_append.2 (.inr h))
      · exact .inr h
theorem HP_logSet {w w0 : World} {L : List Ent} {xs : List Value} {l : Lg} {i : Nat} {z : Qn × List UInt8} {a : Option Addr} {n c : Nat} {E : TypeId} (h : HP w0 w (.row a n c E 1 ((l.getD i z).1.2.2.2.map vu8) :: .pin (sblks xs) (fun w => Lgs w xs l) :: L)) (hi : i < l.length) (hl : (l.getD i z).1.2.2.2.length = n) :
    HP w0 w (.pin (sblks (xs.set (i * 67 + 34) (.slice a n c))) (fun w => Lgs w (xs.set (i * 67 + 34) (.slice a n c)) l) :: .view a ((l.getD i z).1.2.2.2.map vu8) :: .pin (sblks xs) (fun w => Lgs w xs l) :: L) := by
  have hcap := (h.own (List.mem_cons_self ..)).2.2.1
  have h1 := h.rowView
  have hm1 : Ent.pin (sblks xs) (fun w => Lgs w xs l) ∈ (.view a ((l.getD i z).1.2.2.2.map vu8) :: .pin (sblks xs) (fun w => Lgs w xs l) :: L) := List.mem_cons_of_mem _ (List.mem_cons_self ..)
  have hm2 : Ent.view a ((l.getD i z).1.2.2.2.map vu8) ∈ (.view a ((l.getD i z).1.2.2.2.map vu8) :: .pin (sblks xs) (fun w => Lgs w xs l) :: L) := List.mem_cons_self ..
  have hs : Lgs w xs l := (h1.ok _ hm1).1
  have hv := viewV (h1.ok _ hm2)
  refine h1.within2 hm1 hm2 rfl rfl (Lgs.pin (hs.set (z := z) hi hl hcap hv)) rfl rfl fun b hb => ?_
  simp only [Ent.blocks] at hb
  rcases sblks_set hb with hb | hb
  · exact .inl hb
  · exact .inr (sblk_in_view hl b hb)
theorem same4 (p q : Qn) : decide (p = q) = (decide (p.1 = q.1) && (decide (p.2.1 = q.2.1) && (decide (p.2.2.1 = q.2.2.1) && decide (p.2.2.2 = q.2.2.2)))) := by
  obtain ⟨a, b, c, d⟩ := p
  obtain ⟨a', b', c', d'⟩ := q
  simp [Prod.ext_iff]
end Go.Orc
namespace Go.Orc
open Go.Vc Go.RowKit
theorem le_step {x : UInt64} {k : Nat} (h : k < 8) : leN k x.toNat ++ ([UInt8.ofNat (shr64 x ((8 : UInt64) * UInt64.ofNat k).toNat).toNat] : List UInt8) = leN (k + 1) x.toNat := by
  have e : ((8 : UInt64) * UInt64.ofNat k).toNat = 8 * k := by
    rw [UInt64.toNat_mul]; simp; omega
  have hx := x.toNat_lt
  have h1 : x.toNat / 2 ^ (8 * k) ≤ x.toNat := Nat.div_le_self _ _
  rw [leN_snoc, e, shr64, pow256]
  congr 3
  simp; omega
end Go.Orc
namespace Go.Orc
open Go.Vc Go.RowKit
theorem Lgs.one {w : World} {xs : List Value} {l : Lg} (h : Lgs w xs l) : ∀ v ∈ xs, v.oneCell' = true := by
  induction h with
  | nil => intro v hv; cases hv
  | snoc r hq hd hl hc hv ih =>
    intro v hv
    rcases List.mem_append.1 hv with hv | hv
    · exact ih v hv
    · exact (aC_ok hq.1 hd rfl).head.one v hv
theorem q34 {xs : List Value} {i : Nat} {x y s : Value} {key : List UInt8} (hk : key.length = 32) (h : (xs.drop (i * 67)).take 35 = flat [(1, [x]), (32, key.map vu8), (1, [y]), (1, [s])]) : xs[i * 67 + 34]? = some s := by
  have e : flat [(1, [x]), (32, key.map vu8), (1, [y]), (1, [s])] = ([x] ++ (key.map vu8 ++ [y])) ++ [s] := by simp [flat]
  have h2 := congrArg (fun l => l[34]?) h
  simp only [List.getElem?_take, List.getElem?_drop, e] at h2
  rw [if_pos (by omega)] at h2
  rw [h2, List.getElem?_append_right (by simp [hk])]
  simp [hk]
end Go.Orc
namespace Go.Orc
open Go.Vc Go.RowKit
theorem view_noneV {w : World} {a : Option Addr} {xs : List Value} (h : a.isNone = true) (hv : View w a xs) : xs = [] := by
  cases xs with
  | nil => rfl
  | cons x r =>
    obtain ⟨ad, e, _⟩ := hv 0 x rfl
    rw [e] at h; cases h
end Go.Orc
namespace Go.Orc
open Go.Vc Go.RowKit
end Go.Orc
