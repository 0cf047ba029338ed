/- Rules for walks and contracts of the functions that the law reaches, one behind the other. Conditions: none beyond what each theorem states. -/
import Derived.Test.YtbhllplbbkmndaaGreatZ5TreeLays
set_option linter.unusedVariables false
set_option linter.unusedSimpArgs false
set_option linter.unusedSectionVars false
namespace Go.Proofs.YtbhllplbbkmndaaGreat
open Go.Proofs.Tryz
open Go.Vc Go.Orc Go.Sh Go.RowKit
set_option maxRecDepth 20000

theorem c_sameM (bm bk : Nat) (ma ka : Option Addr) (mn : Nat) (hm : mn ≤ 100) (hm1 : 1 ≤ mn) (l : List UInt8) (hl : l.length = 128 * mn) (w : World) (hcm : (Ent.blk bm .ro 112 [(1, [(.slice ma mn mn)])]).ok w.heap.size w) (hv : View w ma (l.map vu8)) (hck : (Ent.blk bk .ro 95 [(1, [(.slice ka (128 * mn) (128 * mn))])]).ok w.heap.size w) (hv2 : View w ka (l.map vu8)) :
  Cs Tryz.prog 24 [(.pointer (some ⟨bm, 0, none⟩)), (.pointer (some ⟨bk, 0, none⟩))].toArray w (fun v w1 => v = (.bool true) ∧ Chg w w1 []) := by
 refine Cs.of (n := 30) (args := [(pO bm 0), (pO bk 0)]) Tryz.func24 rfl rfl rfl ?_
 have h_0 := HP.init w
 have h_01 := h_0.oldV (View.arg hv) rfl (by simp [Ent.mut])
 have h_02 := h_01.oldV hcm rfl (by simp [Ent.mut])
 have h_03 := h_02.oldV (View.arg hv2) rfl (by simp [Ent.mut])
 have h_00 := h_03.oldV hck rfl (by simp [Ent.mut])
 refine WP.seq (WP.reg ?_)
 refine qA (.bool false) rfl rfl ?_
 refine WL.nil (thn_n (WP.seq (WP.reg ?_)))
 refine qM (pO bm 0) rfl rfl (qM (pO bk 0) rfl rfl (qV rfl (R.nilCheck rfl) (qV rfl (R.fieldAddr (off' := 0) rfl underlying95 rfl sizeOf81 rfl rfl) (qV rfl (R.load1 rfl isAgg81 (h_00.ok _ M0) Sg.h) (qV rfl (R.lenS (a := ka) (m := (128 * mn)) rfl rfl underlying81) ?_)))))
 refine WL.call Tryz.call51 rfl rfl (c_Read bm ma mn 0 (128 * mn) (by omega) (by omega) (by omega) l hl _ (h_00.argR M2) (viewV (h_00.ok _ M3))) rfl ?_
 rintro _ w_3 ⟨a_1, cap_2, rfl, hc_4, ho_5⟩
 have h_6 := h_00.gotRow hc_4 ho_5
 refine qM (.tuple [(.slice a_1 (128 * mn) cap_2), (vi 0)].toArray) rfl rfl (qV rfl (R.extract rfl rfl) (qV rfl (R.extract rfl rfl) (qA (.slice a_1 (128 * mn) cap_2) rfl rfl (qA (vi 0) rfl rfl ?_))))
 refine WL.nil (thn_n (WP.seq ?_))
 refine WP.drawT (SL w.heap.size [.row a_1 (128 * mn) cap_2 5 1 (((l.drop 0).take (128 * mn)).map vu8), .blk bk .ro 95 [(1, [(.slice ka (128 * mn) (128 * mn))])], .view ka (l.map vu8), .blk bm .ro 112 [(1, [(.slice ma mn mn)])], .view ma (l.map vu8)]) (.q 0 (.s 1 (.q 2 (.q 3 (.q 4 (.q 5 (.q 6 (.q 7 (.q 8 (.q 9 (.q 10 (.q 11 (.q 12 (.q 13 .nil)))))))))))))) (by kernel_rfl) (by kernel_rfl) rfl (by kernel_rfl) (fun w_7 hc_9 => (SL.cons ((h_6.same hc_9).ok _ M0) (SL.cons ((h_6.same hc_9).ok _ M1) (SL.cons ((h_6.same hc_9).ok _ M2) (SL.cons ((h_6.same hc_9).ok _ M3) (SL.cons ((h_6.same hc_9).ok _ M4) (SL.nil _ _))))))) (fun w_7 hc_9 => ?_)
 have h_8 := h_6.same hc_9
 refine qT rfl rfl (fun wq hS => R.move (v := (vi 0)) rfl) ?_
 refine WT.s (oN rfl ?_)
 refine WL.call Tryz.call17 rfl rfl (c_num15 0 (by omega) _ ) rfl ?_
 rintro _ w_11 ⟨rfl, hc_10⟩
 have h_12 := h_8.same hc_10
 refine WL.nil ?_
 refine ⟨(SL.cons (h_12.ok _ M0) (SL.cons (h_12.ok _ M1) (SL.cons (h_12.ok _ M2) (SL.cons (h_12.ok _ M3) (SL.cons (h_12.ok _ M4) (SL.nil _ _)))))), ?_⟩
 refine qT rfl rfl (fun wq hS => R.bin rfl rfl (bi_eql (r := true) (by decide))) ?_
 refine qT rfl rfl (fun wq hS => R.move (v := (.bool true)) rfl) ?_
 refine WT.q rfl (Wn.yes rfl rfl rfl) rfl rfl (fun wq hS => R.move (v := (.slice a_1 (128 * mn) cap_2)) rfl) ?_
 refine WT.q rfl (Wn.yes rfl rfl rfl) rfl rfl (fun wq hS => R.toStr (bs := (l.drop 0).take (128 * mn)) rfl underlying81 underlying5 underlying9 (ownView (hS _ M0)) (subLen (K := 128 * mn) hl (by omega) : List.length ((l.drop 0).take (128 * mn)) = (128 * mn))) ?_
 refine WT.q rfl (Wn.yes rfl rfl rfl) rfl rfl (fun wq hS => R.move (v := (pO bk 0)) rfl) ?_
 refine WT.q rfl (Wn.yes rfl rfl rfl) rfl rfl (fun wq hS => R.nilCheck rfl) ?_
 refine WT.q rfl (Wn.yes rfl rfl rfl) rfl rfl (fun wq hS => R.fieldAddr (off' := 0) rfl underlying95 rfl sizeOf81 rfl rfl) ?_
 refine WT.q rfl (Wn.yes rfl rfl rfl) rfl rfl (fun wq hS => R.load1 rfl isAgg81 (hS _ M1) Sg.h) ?_
 refine WT.q rfl (Wn.yes rfl rfl rfl) rfl rfl (fun wq hS => R.toStr (bs := l) rfl underlying81 underlying5 underlying9 (viewV (hS _ M2)) hl) ?_
 refine WT.q rfl (Wn.yes rfl rfl rfl) rfl rfl (fun wq hS => R.eqStr (a := (l.drop 0).take (128 * mn)) (b := l) (r := true) rfl rfl (by simp [List.take_of_length_le (Nat.le_of_eq hl)])) ?_
 refine qT rfl rfl (fun wq hS => R.pickT (v := (.bool true)) rfl rfl) ?_
 refine qT rfl rfl (fun wq hS => R.assign (v := (.bool true)) rfl) ?_
 refine WT.nil (thn_n (WP.ret ?_))
 refine ret_of results24 (RV.tmp (v := (.bool true)) rfl RV.nil) ?_
 exact ⟨rfl, h_12.chgS⟩
end Go.Proofs.YtbhllplbbkmndaaGreat

namespace Go.Orc
open Go.Vc Go.RowKit
def mid (l : List UInt8) (a c : Nat) (C : List UInt8) : List UInt8 := l.take a ++ (C ++ l.drop c)
section
variable {l C d : List UInt8} {a c x N : Nat}
theorem mid_len (hl : l.length = N) (h : a + C.length = c) (hc : c ≤ N) : (mid l a c C).length = N := by
  simp only [mid, List.length_append, List.length_take, List.length_drop, hl]; omega
theorem mid_nil : mid l a a [] = l := by simp [mid]
theorem mid_app {c' : Nat} (hl : l.length = N) (h : a + C.length = c) (hx : x = c) (hc : c + d.length = c') (hN : c' ≤ N) : ovr (mid l a c C) x d = mid l a c' (C ++ d) := by
  subst hx hc
  have e1 : (l.take a ++ C).length = x := by rw [List.length_append, List.length_take, hl]; omega
  have e2 : mid l a x C = (l.take a ++ C) ++ l.drop x := by rw [mid, List.append_assoc]
  rw [ovr, e2, List.take_append_of_le_length (by omega), List.take_of_length_le (by omega), List.drop_append, List.drop_of_length_le (by omega), List.nil_append, e1, List.drop_drop, mid]
  simp only [List.append_assoc]
  congr 4
  omega
theorem mid_pre {x' : Nat} (hl : l.length = N) (h : a + C.length = c) (hc : c ≤ N) (hx : x + d.length = a) (hx' : x = x') : ovr (mid l a c C) x d = mid l x' c (d ++ C) := by
  subst hx'
  have e1 : (l.take a).length = a := by rw [List.length_take, hl]; omega
  rw [ovr, mid, List.take_append_of_le_length (by omega), List.take_take, Nat.min_eq_left (by omega), hx, List.drop_append_of_le_length (by omega), List.drop_of_length_le (by omega), List.nil_append, mid]
  simp only [List.append_assoc]
theorem mid_get {n y : Nat} (hl : l.length = N) (h : a + C.length = c) (hc : c ≤ N) (hy : y = a + x) (hx : x + n ≤ C.length) : ((mid l a c C).drop y).take n = (C.drop x).take n := by
  subst hy
  have e1 : (l.take a).length = a := by rw [List.length_take, hl]; omega
  rw [mid, List.drop_append, List.drop_of_length_le (by omega), List.nil_append, e1, Nat.add_sub_cancel_left, List.drop_append_of_le_length (by omega), List.take_append_of_le_length (by rw [List.length_drop]; omega)]
end
def laB (id : Bool) (df : List UInt8) (dn u : Nat) (lg : Lg) : Nat → Nat × Lg × List UInt8
  | 0 => (u, lg, [])
  | k + 1 => (anU id (laB id df dn u lg k).1 (laB id df dn u lg k).2.1 (1, List.replicate 32 0, 6, leN 8 (UInt64.ofNat k).toNat), anL id df dn (laB id df dn u lg k).1 (laB id df dn u lg k).2.1 (1, List.replicate 32 0, 6, leN 8 (UInt64.ofNat k).toNat), (laB id df dn u lg k).2.2 ++ anD id df dn (laB id df dn u lg k).1 (laB id df dn u lg k).2.1 (1, List.replicate 32 0, 6, leN 8 (UInt64.ofNat k).toNat))
def laQ (t : Nat) (C : List UInt8) : Qn := (1, List.replicate 32 0, 5, [leN 8 (UInt64.ofNat (127 - t)).toNat, (C.drop (32 * (126 - t))).take 32, (C.drop (32 * (127 - t))).take 32].flatten)
def laC (id : Bool) (df : List UInt8) (dn u : Nat) (lg : Lg) : Nat → Nat × Lg × List UInt8
  | 0 => laB id df dn u lg 128
  | t + 1 => (anU id (laC id df dn u lg t).1 (laC id df dn u lg t).2.1 (laQ t (laC id df dn u lg t).2.2), anL id df dn (laC id df dn u lg t).1 (laC id df dn u lg t).2.1 (laQ t (laC id df dn u lg t).2.2), anD id df dn (laC id df dn u lg t).1 (laC id df dn u lg t).2.1 (laQ t (laC id df dn u lg t).2.2) ++ (laC id df dn u lg t).2.2)
section
variable {id : Bool} {df : List UInt8} {dn u : Nat} {lg : Lg}
theorem laB_32 (h : df.length = 32 * dn) (hl : ok32 lg) : ∀ k, ok32 (laB id df dn u lg k).2.1
  | 0 => hl
  | k + 1 => anL_32 h (laB_32 h hl k)
theorem laB_u : ∀ k, (laB id df dn u lg k).1 ≤ u + k
  | 0 => Nat.le_refl _
  | k + 1 => Nat.le_trans (anU_le ..) (Nat.succ_le_succ (laB_u k))
theorem laB_l : ∀ k, (laB id df dn u lg k).2.1.length ≤ lg.length + k
  | 0 => Nat.le_refl _
  | k + 1 => Nat.le_trans (anL_le ..) (Nat.succ_le_succ (laB_l k))
theorem laB_len (h : df.length = 32 * dn) (hl : ok32 lg) : ∀ k, (laB id df dn u lg k).2.2.length = 32 * k
  | 0 => rfl
  | k + 1 => by rw [laB, List.length_append, laB_len h hl k, anD_len h (laB_32 h hl k)]; omega
theorem laC_32 (h : df.length = 32 * dn) (hl : ok32 lg) : ∀ k, ok32 (laC id df dn u lg k).2.1
  | 0 => laB_32 h hl 128
  | k + 1 => anL_32 h (laC_32 h hl k)
theorem laC_u : ∀ k, (laC id df dn u lg k).1 ≤ u + 128 + k
  | 0 => laB_u 128
  | k + 1 => Nat.le_trans (anU_le ..) (Nat.succ_le_succ (laC_u k))
theorem laC_l : ∀ k, (laC id df dn u lg k).2.1.length ≤ lg.length + 128 + k
  | 0 => laB_l 128
  | k + 1 => Nat.le_trans (anL_le ..) (Nat.succ_le_succ (laC_l k))
theorem laC_len (h : df.length = 32 * dn) (hl : ok32 lg) : ∀ k, (laC id df dn u lg k).2.2.length = 32 * (128 + k)
  | 0 => laB_len h hl 128
  | k + 1 => by rw [laC, List.length_append, laC_len h hl k, anD_len h (laC_32 h hl k)]; omega
theorem laC_root (h : df.length = 32 * dn) (hl : ok32 lg) {t : Nat} : (laC id df dn u lg (t + 1)).2.2.take 32 = anD id df dn (laC id df dn u lg t).1 (laC id df dn u lg t).2.1 (laQ t (laC id df dn u lg t).2.2) := by
  have e := anD_len (id := id) (u := (laC id df dn u lg t).1) (q := laQ t (laC id df dn u lg t).2.2) h (laC_32 (id := id) (dn := dn) (u := u) h hl t)
  rw [laC, List.take_append_of_le_length (by omega), List.take_of_length_le (by omega)]
theorem laC_rest (h : df.length = 32 * dn) (hl : ok32 lg) {t : Nat} : (laC id df dn u lg (t + 1)).2.2.drop 32 = (laC id df dn u lg t).2.2 := by
  have e := anD_len (id := id) (u := (laC id df dn u lg t).1) (q := laQ t (laC id df dn u lg t).2.2) h (laC_32 (id := id) (dn := dn) (u := u) h hl t)
  rw [laC, List.drop_append_of_le_length (by omega), List.drop_of_length_le (by omega), List.nil_append]
theorem laC_win (h : df.length = 32 * dn) (hl : ok32 lg) {t x n : Nat} : ((laC id df dn u lg (t + 1)).2.2.drop (32 + x)).take n = ((laC id df dn u lg t).2.2.drop x).take n := by
  rw [← List.drop_drop, laC_rest h hl]
theorem lay_w {z : List UInt8} {i s : Nat} (hs : s = 126) (h : df.length = 32 * dn) (hl : ok32 lg) (hz : z.length = 8192) (h2 : 2 ≤ i) (hi : i < 256) : ((mid z 32 8192 (laC id df dn u lg (s + 1)).2.2).drop (i * 32)).take 32 = ((laC id df dn u lg s).2.2.drop (32 * (i - 2))).take 32 := by
  have e := laC_len (id := id) (u := u) h hl (s + 1)
  rw [mid_get (x := 32 + 32 * (i - 2)) hz (by omega) (Nat.le_refl _) (by omega) (by omega)]
  exact laC_win h hl
theorem lay_s {l C : List UInt8} {p i N : Nat} (hl : l.length = N) (hC : C.length = 8128) (hp : p + 8192 ≤ N) (h2 : 2 ≤ i) (hi : i < 256) : ovr (mid l (p + 64) (p + 32 * i) (C.take (32 * (i - 2)))) (p + 32 * i) ((C.drop (32 * (i - 2))).take 32) = mid l (p + 64) (p + 32 * (i + 1)) (C.take (32 * (i + 1 - 2))) := by
  have e1 : (C.take (32 * (i - 2))).length = 32 * (i - 2) := by rw [List.length_take]; omega
  have e2 : ((C.drop (32 * (i - 2))).take 32).length = 32 := by rw [List.length_take, List.length_drop]; omega
  rw [mid_app (c' := p + 32 * (i + 1)) hl (by omega) rfl (by omega) (by omega), ← List.take_add]
  congr 2
  omega
theorem lay_len {l C : List UInt8} {p i N : Nat} (hl : l.length = N) (hC : C.length = 8128) (hp : p + 8192 ≤ N) (h2 : 2 ≤ i) (hi : i ≤ 256) : (mid l (p + 64) (p + 32 * i) (C.take (32 * (i - 2)))).length = N := by
  have e1 : (C.take (32 * (i - 2))).length = 32 * (i - 2) := by rw [List.length_take]; omega
  exact mid_len hl (by omega) (by omega)
theorem lay_0 {l C : List UInt8} {p : Nat} : l = mid l (p + 64) (p + 32 * 2) (C.take (32 * (2 - 2))) := mid_nil.symm
theorem lay_end {l C : List UInt8} {p : Nat} (hC : C.length = 8128) : mid l (p + 64) (p + 32 * 256) (C.take (32 * (256 - 2))) = mid l (p + 64) (p + 8192) C := by
  rw [List.take_of_length_le (by omega)]
def laM (id : Bool) (df : List UInt8) (dn u : Nat) (lg : Lg) (l : List UInt8) (p t : Nat) : List UInt8 := mid l (p + 32 * (128 - min t 126)) (p + 8192) (laC id df dn u lg (min t 126)).2.2
def laR (id : Bool) (df : List UInt8) (dn u : Nat) (lg : Lg) (t : Nat) : List UInt8 := if t = 127 then (laC id df dn u lg t).2.2.take 32 else List.replicate 32 0
theorem laM_at {l : List UInt8} {p t : Nat} (h : t ≤ 126) : laM id df dn u lg l p t = mid l (p + 32 * (128 - t)) (p + 8192) (laC id df dn u lg t).2.2 := by rw [laM, Nat.min_eq_left h]
theorem laM_end {l : List UInt8} {p s : Nat} (hs : s = 126) : laM id df dn u lg l p (s + 1) = mid l (p + 64) (p + 8192) (laC id df dn u lg s).2.2 := by
  rw [laM, show min (s + 1) 126 = s by omega]; congr 1; omega
theorem laR_at {t : Nat} (h : t ≤ 126) : laR id df dn u lg t = List.replicate 32 0 := by rw [laR, if_neg (by omega)]
theorem laR_end {s : Nat} (hs : s = 126) : laR id df dn u lg (s + 1) = (laC id df dn u lg (s + 1)).2.2.take 32 := by
  rw [laR, if_pos (by omega)]
end
end Go.Orc
namespace Go.Vc
open Go.RowKit
theorem viewCut {w : World} {b : Nat} {l : List UInt8} (h : View w (some ⟨b, 0, none⟩) (l.map vu8)) (i k : Nat) : View w (some ⟨b, 0 + i, none⟩) (((l.drop i).take k).map vu8) := by
  have h2 := (h.drop i).take k
  rw [Option.map_some, addr_add] at h2; rw [List.map_take, List.map_drop]; exact h2
theorem cut_blk {b o : Nat} {xs ys : List Value} (h : 0 < xs.length) : ∀ x ∈ (Ent.view (some ⟨b, o, none⟩) ys).blocks, x ∈ (Ent.view (some ⟨b, 0, none⟩) xs).blocks := by
  intro x hx
  cases xs with
  | nil => simp at h
  | cons y r =>
    cases ys with
    | nil => cases hx
    | cons z q => exact hx
end Go.Vc

namespace Go.Proofs.YtbhllplbbkmndaaGreat
open Go.Proofs.Tryz
open Go.Vc Go.Orc Go.Sh Go.RowKit
set_option maxRecDepth 20000

theorem c_LayT {w00 : World} {L : List Ent} (id : Bool) (ob mp : Nat) (ms df : List UInt8) (hms : ms.length = 32) (da : Option Addr) (dn dc u : Nat) (hdf : df.length = 32 * dn) (la : Option Addr) (lc : Nat) (lx : List Value) (lg : Lg) (hu : u ≤ 500000) (hlg : lg.length ≤ 500000) (bm : Nat) (ma : Option Addr) (mn : Nat) (hm : mn ≤ 100) (hm1 : 1 ≤ mn) (p : Nat) (hw : p + 8192 ≤ 128 * mn) (hp : p % 128 = 0) (l : List UInt8) (hl : l.length = 128 * mn) (hwn : wnB mn (UInt64.ofNat p) = true) (s6 : Nat) (hs6 : s6 = 126) (w : World) (h_0 : HP w00 w (Ent.blk ob .nw 106 [(1, [(.bool id)]), (32, ms.map vu8), (1, [(.slice da dn dc)]), (1, [(vi ((u : Nat) : Int))]), (1, [(.map (some mp))]), (1, [(.slice la lg.length lc)])] :: Ent.row la lg.length lc 102 67 lx :: Ent.obj mp .nw (.map (mArr lg) lg.length) :: Ent.pin (sblks lx) (fun w => Lgs w lx lg) :: Ent.view da (df.map vu8) :: Ent.blk bm .nw 112 [(1, [(.slice ma mn mn)])] :: Ent.row ma mn mn 76 128 (l.map vu8) :: L)) :
  Cs Tryz.prog 20 [(.pointer (some ⟨ob, 0, none⟩)), (.pointer (some ⟨bm, 0, none⟩)), (vu64 (UInt64.ofNat p))].toArray w (fun v w1 => ∃ la' lc' lx', v = (.tuple [(.agg ⟨((laC id df dn u lg (s6 + 1)).2.2.take 32).map vu8⟩), (vi 0)].toArray) ∧ HP w00 w1 (Ent.blk ob .nw 106 [(1, [(.bool id)]), (32, ms.map vu8), (1, [(.slice da dn dc)]), (1, [(vi (((laC id df dn u lg (s6 + 1)).1 : Nat) : Int))]), (1, [(.map (some mp))]), (1, [(.slice la' ((laC id df dn u lg (s6 + 1)).2.1.length) lc')])] :: Ent.row la' ((laC id df dn u lg (s6 + 1)).2.1.length) lc' 102 67 lx' :: Ent.obj mp .nw (.map (mArr ((laC id df dn u lg (s6 + 1)).2.1)) ((laC id df dn u lg (s6 + 1)).2.1.length)) :: Ent.pin (sblks lx') (fun w => Lgs w lx' ((laC id df dn u lg (s6 + 1)).2.1)) :: Ent.view da (df.map vu8) :: Ent.blk bm .nw 112 [(1, [(.slice ma mn mn)])] :: Ent.row ma mn mn 76 128 ((mid l (p + 64) (p + 8192) (laC id df dn u lg s6).2.2).map vu8) :: L)) := by
 have h32 : ok32 lg := Lgs.ok32 (h_0.ok _ M3).1
 refine Cs.of (n := 69) (args := [(pO ob 0), (pO bm 0), (vu64 (UInt64.ofNat p))]) Tryz.func20 rfl rfl rfl ?_
 refine WP.seq (WP.reg ?_)
 refine WL.alloc (segs := [(32, (zB 32).map vu8)]) h_0 (zv typeInfo23 rfl) rfl (sC (s8 lr) sN) rfl (fun b_1 w_2 h_3 => ?_)
 refine qA (vi 0) rfl rfl ?_
 refine WL.nil (thn_n (WP.seq (WP.seq (WP.reg ?_))))
 refine qM (pO ob 0) rfl rfl (qM (pO bm 0) rfl rfl (qM (vu64 (UInt64.ofNat p)) rfl rfl ?_))
 refine WL.call Tryz.call46 rfl rfl (c_askG_t id ob mp ms hms da dn dc u la lg.length lc bm ma mn (by omega) (by omega) 0 (by omega) (UInt64.ofNat p) hwn _ (h_3.argR M1) (h_3.argR M6)) rfl ?_
 rintro _ w_5 ⟨rfl, hc_4⟩
 have h_6 := h_3.same hc_4
 refine qA (vi 0) rfl rfl ?_
 refine WL.nil (thn_n (WP.seq (WP.reg ?_)))
 refine qM (vi 0) rfl rfl (qV rfl (R.bin rfl rfl (bi_neq (r := false) (by decide))) ?_)
 refine WL.nil (thn_n ?_)
 refine WP.condF rfl ?_
 refine WP.skip (thn_n (WP.seq (WP.reg ?_)))
 refine WL.alloc (segs := [(8192, (zB 8192).map vu8)]) h_6 (zv typeInfo87 rfl) rfl (sC (s8 lr) sN) rfl (fun b_7 w_8 h_9 => ?_)
 refine WL.nil (thn_n (WP.seq (WP.seq ?_)))
 obtain ⟨z0, hz0, hzl⟩ : ∃ z : List UInt8, zB 8192 = z ∧ z.length = 8192 := ⟨_, rfl, List.length_replicate ..⟩
 rw [hz0] at h_9
 refine WP.reg ?_
 refine qM (vi 0) rfl rfl ?_
 refine WL.nil (thn_n (WP.block ?_))
 have h_18 := (((((((h_9.up J1).up J8).up J8).up J8).up J8).up J8).up J8).up J8
 rw [show z0 = mid z0 4096 (4096 + 32 * 0) (laB id df dn u lg 0).2.2 from mid_nil.symm] at h_18
 refine WP.loopG (G := Nat × Option Addr × Nat × List Value) [10, 21, 22, 23, 24, 25, 26, 27, 28, 29, 30, 31, 32, 33] (fun (k, la2, lc2, lx2) => [(21, (vn k))]) (fun (k, la2, lc2, lx2) m w1 => HP w00 w1 (Ent.blk ob .nw 106 [(1, [(.bool id)]), (32, ms.map vu8), (1, [(.slice da dn dc)]), (1, [(vn ((laB id df dn u lg k).1))]), (1, [(.map (some mp))]), (1, [(.slice la2 ((laB id df dn u lg k).2.1.length) lc2)])] :: Ent.row la2 ((laB id df dn u lg k).2.1.length) lc2 102 67 lx2 :: Ent.obj mp .nw (.map (mArr ((laB id df dn u lg k).2.1)) ((laB id df dn u lg k).2.1.length)) :: Ent.pin (sblks lx2) (fun w => Lgs w lx2 ((laB id df dn u lg k).2.1)) :: Ent.view da (df.map vu8) :: Ent.blk bm .nw 112 [(1, [(.slice ma mn mn)])] :: Ent.row ma mn mn 76 128 (l.map vu8) :: Ent.blk b_1 .nw 23 [(32, (zB 32).map vu8)] :: Ent.blk b_7 .nw 87 [(8192, (mid z0 4096 (4096 + 32 * k) (laB id df dn u lg k).2.2).map vu8)] :: L) ∧ (k ≤ 128) ∧ m = 128 - k) ⟨(0, la, lc, lx), _, ⟨rfl, trivial⟩, h_18, Nat.zero_le _, rfl⟩ ?_
 rintro ⟨k, la2, lc2, lx2⟩ m_21 J_22 w_19 ⟨h_20, hk, rfl⟩
 have hsu := laB_u (id := id) (df := df) (dn := dn) (u := u) (lg := lg) k
 have hsl := laB_l (id := id) (df := df) (dn := dn) (u := u) (lg := lg) k
 have hs32 := laB_32 (id := id) (u := u) hdf h32 k
 have hBl := laB_len (id := id) (u := u) hdf h32 k
 refine WP.seq (WP.reg ?_)
 refine qV rfl (R.bin rfl rfl (bi_lss (r := decide ((((k : Nat) : Int) : Int) < 128)) rfl)) ?_
 refine WL.nil (thn_n (WP.seq ?_))
 refine WP.cond (b := decide ((((k : Nat) : Int) : Int) < 128)) rfl (fun c_23 => ?_) (fun c_23 => ?_)
 ·have p_24 := of_decide_eq_true c_23
  refine WP.skip (thn_n (WP.seq (WP.block (WP.seq (WP.reg ?_)))))
  refine qM (vn k) rfl rfl (qA (vn k) rfl rfl ?_)
  refine WL.nil (thn_n (WP.reg ?_))
  refine qM (vn k) rfl rfl (qV rfl (R.bin rfl rfl (bi_add (c := ((128 + k : Nat) : Int)) (by omega) (by omega))) (qM (pO ob 0) rfl rfl (qM (vn k) rfl rfl ?_)))
  have h_29 := ((((h_20.up J4).up J4).up J4).up J4).up J4
  refine WL.call Tryz.call9 rfl rfl (c_TNone_t id ob mp ms df hms da dn dc ((laB id df dn u lg k).1) hdf la2 lc2 lx2 ((laB id df dn u lg k).2.1) (by omega) (by omega) k (by omega) _ h_29) rfl ?_
  rintro _ w_33 ⟨la_30, lc_31, lx_32, rfl, h_34⟩
  refine qM (.tuple [(.agg ⟨(anD id df dn ((laB id df dn u lg k).1) ((laB id df dn u lg k).2.1) (1, (zB 32), 6, leN 8 (UInt64.ofNat k).toNat)).map vu8⟩), (vi 0)].toArray) rfl rfl (qV rfl (R.extract rfl rfl) (qV rfl (R.extract rfl rfl) (qV rfl (R.indexA (b := b_7) (off := 0) (off' := (0 + ((128 + k) * 32))) (i := 128 + k) rfl rfl rfl (by omega) underlying87 sizeOf23 rfl) ?_)))
  refine WL.storeEA (b := b_7) (off := (0 + ((128 + k) * 32))) (i := (128 + k) * 32) (ys := (anD id df dn ((laB id df dn u lg k).1) ((laB id df dn u lg k).2.1) (1, (zB 32), 6, leN 8 (UInt64.ofNat k).toNat)).map vu8) (cs' := (ovr (mid z0 4096 (4096 + 32 * k) (laB id df dn u lg k).2.2) ((128 + k) * 32) (anD id df dn ((laB id df dn u lg k).1) ((laB id df dn u lg k).2.1) (1, (zB 32), 6, leN 8 (UInt64.ofNat k).toNat))).map vu8) h_34 rfl rfl sizeOf23 Y8 (by decide) Sg.h rfl (len_map (anD_len hdf hs32)) (by rw [len_map (mid_len hzl (by rw [hBl]) (by omega))]; omega) (one_u8 _) (cpOvrA (anD_len hdf hs32)) (fun w_35 h_36 => ?_)
  refine WL.nil (inb_n (thn_n (WP.reg ?_)))
  refine qV rfl (R.bin rfl rfl (bi_add (c := ((k + 1 : Nat) : Int)) (by omega) (by omega))) (qM (vn (k + 1)) rfl rfl ?_)
  refine WL.nil (thn_n ?_)
  have h_45 := ((((((((h_36.up J8).up J8).up J8).up J8).up J8).up J8).up J8).up J8).up J8
  rw [mid_app (c' := 4096 + 32 * (k + 1)) hzl (by rw [hBl]) (by omega) (by rw [anD_len hdf hs32]; omega) (by omega)] at h_45
  exact ⟨(k + 1, la_30, lc_31, lx_32), _, (by omega), (U2 rfl rfl (U4 rfl rfl rfl rfl (U4 rfl rfl rfl rfl (U4 rfl rfl rfl rfl (Ag.updL rfl (Ag.mix _ _ _)))))), ⟨rfl, trivial⟩, h_45, (by omega), rfl⟩
 ·have p_46 := of_decide_eq_false c_23
  refine WP.exit (thn_x (thn_x (inb_hit (thn_n (WP.seq (WP.seq ?_))))))
  have hk8 : k = 128 := by omega
  subst hk8
  refine WP.reg ?_
  refine qA (vi 127) rfl rfl ?_
  refine WL.nil (thn_n (WP.block ?_))
  refine WP.loopG (G := Nat × Option Addr × Nat × List Value) [11, 34, 35, 36, 37, 38, 39, 40, 41, 42, 43, 44, 45, 46, 47, 48, 49, 50, 51, 52, 53, 54] (fun (t, la3, lc3, lx3) => [(11, (vn (127 - t)))]) (fun (t, la3, lc3, lx3) m w1 => HP w00 w1 (Ent.blk ob .nw 106 [(1, [(.bool id)]), (32, ms.map vu8), (1, [(.slice da dn dc)]), (1, [(vn ((laC id df dn u lg t).1))]), (1, [(.map (some mp))]), (1, [(.slice la3 ((laC id df dn u lg t).2.1.length) lc3)])] :: Ent.row la3 ((laC id df dn u lg t).2.1.length) lc3 102 67 lx3 :: Ent.obj mp .nw (.map (mArr ((laC id df dn u lg t).2.1)) ((laC id df dn u lg t).2.1.length)) :: Ent.pin (sblks lx3) (fun w => Lgs w lx3 ((laC id df dn u lg t).2.1)) :: Ent.view da (df.map vu8) :: Ent.blk bm .nw 112 [(1, [(.slice ma mn mn)])] :: Ent.row ma mn mn 76 128 (l.map vu8) :: Ent.blk b_1 .nw 23 [(32, (zB 32).map vu8)] :: Ent.blk b_7 .nw 87 [(8192, (mid z0 (32 * (128 - t)) 8192 (laC id df dn u lg t).2.2).map vu8)] :: L) ∧ (t ≤ 127) ∧ m = 127 - t) ⟨(0, la2, lc2, lx2), _, ⟨rfl, trivial⟩, h_20, Nat.zero_le _, rfl⟩ ?_
  rintro ⟨t, la3, lc3, lx3⟩ m_49 J_50 w_47 ⟨h_48, ht, rfl⟩
  have hsu := laC_u (id := id) (df := df) (dn := dn) (u := u) (lg := lg) t
  have hsl := laC_l (id := id) (df := df) (dn := dn) (u := u) (lg := lg) t
  have hs32 := laC_32 (id := id) (u := u) hdf h32 t
  have hCl := laC_len (id := id) (u := u) hdf h32 t
  refine WP.seq (WP.seq (WP.reg ?_))
  refine qM (vn (127 - t)) rfl rfl (qV rfl (R.bin rfl rfl (bi_gtr (r := decide ((((127 - t : Nat) : Int) : Int) > 0)) rfl)) ?_)
  refine WL.nil (thn_n ?_)
  refine WP.cond (b := decide ((((127 - t : Nat) : Int) : Int) > 0)) rfl (fun c_51 => ?_) (fun c_51 => ?_)
  ·have p_52 := of_decide_eq_true c_51
   refine WP.skip (thn_n (WP.seq (WP.block ?_)))
   refine WP.cutG (G := Option Addr × Nat × List Value) [38, 39, 40, 41, 42, 43, 44, 45, 46, 47, 48, 49, 50, 51, 52, 53, 54] (fun (laY13Y12Y0Y0, lcY13Y12Y0Y0, lxY13Y12Y0Y0) => [(39, (vn (127 - t))), (40, (pO ob 0)), (41, (vn (127 - t))), (42, (vn (127 - t))), (43, (vn (2 * (127 - t)))), (44, (.pointer (some ⟨b_7, (0 + ((2 * (127 - t)) * 32)), none⟩))), (46, (vn (127 - t))), (47, (vn (2 * (127 - t)))), (48, (vn ((2 * (127 - t)) + 1))), (49, (.pointer (some ⟨b_7, (0 + (((2 * (127 - t)) + 1) * 32)), none⟩))), (45, (.agg ⟨(((laC id df dn u lg t).2.2.drop (32 * (126 - t))).take 32).map vu8⟩)), (50, (.agg ⟨(((laC id df dn u lg t).2.2.drop (32 * (127 - t))).take 32).map vu8⟩)), (51, (.tuple [(.agg ⟨(anD id df dn ((laC id df dn u lg t).1) ((laC id df dn u lg t).2.1) (1, (zB 32), 5, [leN 8 (UInt64.ofNat (127 - t)).toNat, ((laC id df dn u lg t).2.2.drop (32 * (126 - t))).take 32, ((laC id df dn u lg t).2.2.drop (32 * (127 - t))).take 32].flatten)).map vu8⟩), (vi 0)].toArray)), (38, (.tuple [(.agg ⟨(anD id df dn ((laC id df dn u lg t).1) ((laC id df dn u lg t).2.1) (1, (zB 32), 5, [leN 8 (UInt64.ofNat (127 - t)).toNat, ((laC id df dn u lg t).2.2.drop (32 * (126 - t))).take 32, ((laC id df dn u lg t).2.2.drop (32 * (127 - t))).take 32].flatten)).map vu8⟩), (vi 0)].toArray)), (52, (.agg ⟨(anD id df dn ((laC id df dn u lg t).1) ((laC id df dn u lg t).2.1) (1, (zB 32), 5, [leN 8 (UInt64.ofNat (127 - t)).toNat, ((laC id df dn u lg t).2.2.drop (32 * (126 - t))).take 32, ((laC id df dn u lg t).2.2.drop (32 * (127 - t))).take 32].flatten)).map vu8⟩)), (53, (vi 0)), (54, (.pointer (some ⟨b_7, (0 + ((127 - t) * 32)), none⟩)))]) (fun (laY13Y12Y0Y0, lcY13Y12Y0Y0, lxY13Y12Y0Y0) w1 => HP w00 w1 (Ent.blk ob .nw 106 [(1, [(.bool id)]), (32, ms.map vu8), (1, [(.slice da dn dc)]), (1, [(vn (anU id ((laC id df dn u lg t).1) ((laC id df dn u lg t).2.1) (1, (zB 32), 5, [leN 8 (UInt64.ofNat (127 - t)).toNat, ((laC id df dn u lg t).2.2.drop (32 * (126 - t))).take 32, ((laC id df dn u lg t).2.2.drop (32 * (127 - t))).take 32].flatten)))]), (1, [(.map (some mp))]), (1, [(.slice laY13Y12Y0Y0 ((anL id df dn ((laC id df dn u lg t).1) ((laC id df dn u lg t).2.1) (1, (zB 32), 5, [leN 8 (UInt64.ofNat (127 - t)).toNat, ((laC id df dn u lg t).2.2.drop (32 * (126 - t))).take 32, ((laC id df dn u lg t).2.2.drop (32 * (127 - t))).take 32].flatten)).length) lcY13Y12Y0Y0)])] :: Ent.row laY13Y12Y0Y0 ((anL id df dn ((laC id df dn u lg t).1) ((laC id df dn u lg t).2.1) (1, (zB 32), 5, [leN 8 (UInt64.ofNat (127 - t)).toNat, ((laC id df dn u lg t).2.2.drop (32 * (126 - t))).take 32, ((laC id df dn u lg t).2.2.drop (32 * (127 - t))).take 32].flatten)).length) lcY13Y12Y0Y0 102 67 lxY13Y12Y0Y0 :: Ent.obj mp .nw (.map (mArr (anL id df dn ((laC id df dn u lg t).1) ((laC id df dn u lg t).2.1) (1, (zB 32), 5, [leN 8 (UInt64.ofNat (127 - t)).toNat, ((laC id df dn u lg t).2.2.drop (32 * (126 - t))).take 32, ((laC id df dn u lg t).2.2.drop (32 * (127 - t))).take 32].flatten))) ((anL id df dn ((laC id df dn u lg t).1) ((laC id df dn u lg t).2.1) (1, (zB 32), 5, [leN 8 (UInt64.ofNat (127 - t)).toNat, ((laC id df dn u lg t).2.2.drop (32 * (126 - t))).take 32, ((laC id df dn u lg t).2.2.drop (32 * (127 - t))).take 32].flatten)).length)) :: Ent.pin (sblks lxY13Y12Y0Y0) (fun w => Lgs w lxY13Y12Y0Y0 (anL id df dn ((laC id df dn u lg t).1) ((laC id df dn u lg t).2.1) (1, (zB 32), 5, [leN 8 (UInt64.ofNat (127 - t)).toNat, ((laC id df dn u lg t).2.2.drop (32 * (126 - t))).take 32, ((laC id df dn u lg t).2.2.drop (32 * (127 - t))).take 32].flatten))) :: Ent.view da (df.map vu8) :: Ent.blk bm .nw 112 [(1, [(.slice ma mn mn)])] :: Ent.row ma mn mn 76 128 (l.map vu8) :: Ent.blk b_1 .nw 23 [(32, (zB 32).map vu8)] :: Ent.blk b_7 .nw 87 [(8192, (ovr (mid z0 (32 * (128 - t)) 8192 (laC id df dn u lg t).2.2) ((127 - t) * 32) (anD id df dn ((laC id df dn u lg t).1) ((laC id df dn u lg t).2.1) (1, (zB 32), 5, [leN 8 (UInt64.ofNat (127 - t)).toNat, ((laC id df dn u lg t).2.2.drop (32 * (126 - t))).take 32, ((laC id df dn u lg t).2.2.drop (32 * (127 - t))).take 32].flatten))).map vu8)] :: L)) ?_ ?_
   ·refine WP.drawT (SL w00.heap.size [.blk bm .nw 112 [(1, [(.slice ma mn mn)])], .row ma mn mn 76 128 (l.map vu8), .blk b_1 .nw 23 [(32, (zB 32).map vu8)]]) (.q 0 (.q 1 (.q 2 (.q 3 (.q 4 (.q 5 (.q 7 (.q 8 (.q 9 (.q 10 (.s2 6 11 (.s 11 (.s 12 (.q 13 (.q 14 (.q 15 (.q 16 (.s 17 .nil))))))) (.s 6 (.s 12 (.q 13 (.q 14 (.q 15 (.q 16 (.s 17 .nil)))))))))))))))))) (by kernel_rfl) (by kernel_rfl) rfl (by kernel_rfl) (fun w_53 hc_55 => (SL.cons ((h_48.same hc_55).ok _ M5) (SL.cons ((h_48.same hc_55).ok _ M6) (SL.cons ((h_48.same hc_55).ok _ M7) (SL.nil _ _))))) (fun w_53 hc_55 => ?_)
    have h_54 := h_48.same hc_55
    refine qT rfl rfl (fun wq hS => R.move (v := (vn (127 - t))) rfl) ?_
    refine qT rfl rfl (fun wq hS => R.move (v := (pO ob 0)) rfl) ?_
    refine qT rfl rfl (fun wq hS => R.move (v := (vn (127 - t))) rfl) ?_
    refine qT rfl rfl (fun wq hS => R.move (v := (vn (127 - t))) rfl) ?_
    refine qT rfl rfl (fun wq hS => R.bin rfl rfl (bi_mul (c := ((2 * (127 - t) : Nat) : Int)) (by omega) (by omega))) ?_
    refine qT rfl rfl (fun wq hS => R.indexA (b := b_7) (off := 0) (off' := (0 + ((2 * (127 - t)) * 32))) (i := 2 * (127 - t)) rfl rfl rfl (by omega) underlying87 sizeOf23 rfl) ?_
    refine qT rfl rfl (fun wq hS => R.move (v := (vn (127 - t))) rfl) ?_
    refine qT rfl rfl (fun wq hS => R.bin rfl rfl (bi_mul (c := ((2 * (127 - t) : Nat) : Int)) (by omega) (by omega))) ?_
    refine qT rfl rfl (fun wq hS => R.bin rfl rfl (bi_add (c := (((2 * (127 - t)) + 1 : Nat) : Int)) (by omega) (by omega))) ?_
    refine qT rfl rfl (fun wq hS => R.indexA (b := b_7) (off := 0) (off' := (0 + (((2 * (127 - t)) + 1) * 32))) (i := (2 * (127 - t)) + 1) rfl rfl rfl (by omega) underlying87 sizeOf23 rfl) ?_
    refine WT.s2 ?_ ?_
    ·refine oN rfl ?_
     refine qV rfl (R.loadEA (b := b_7) (off := (0 + ((2 * (127 - t)) * 32))) (i := (2 * (127 - t)) * 32) (xs := (((laC id df dn u lg t).2.2.drop (32 * (126 - t))).take 32).map vu8) rfl isAgg23 sizeOf23 (h_54.ok _ M8) Sg.h rfl (by rw [← List.map_drop, ← List.map_take, mid_get (x := 32 * (126 - t)) hzl (by omega) (Nat.le_refl _) (by omega) (by omega)]) (len_map (subLen (K := 32 * (128 + t)) hCl (by omega)))) ?_
     refine WL.nil ?_
     refine ⟨(N5_6_7 h_54.ok), ?_⟩
     refine WT.s (oN rfl ?_)
     refine qV rfl (R.loadEA (b := b_7) (off := (0 + (((2 * (127 - t)) + 1) * 32))) (i := ((2 * (127 - t)) + 1) * 32) (xs := (((laC id df dn u lg t).2.2.drop (32 * (127 - t))).take 32).map vu8) rfl isAgg23 sizeOf23 (h_54.ok _ M8) Sg.h rfl (by rw [← List.map_drop, ← List.map_take, mid_get (x := 32 * (127 - t)) hzl (by omega) (Nat.le_refl _) (by omega) (by omega)]) (len_map (subLen (K := 32 * (128 + t)) hCl (by omega)))) ?_
     refine WL.nil ?_
     refine ⟨(N5_6_7 h_54.ok), ?_⟩
     refine WT.s (oN rfl ?_)
     have h_60 := ((((h_54.up J4).up J4).up J4).up J4).up J4
     refine WL.call Tryz.call18 rfl rfl (c_TNode_t id ob mp ms df hms da dn dc ((laC id df dn u lg t).1) hdf la3 lc3 lx3 ((laC id df dn u lg t).2.1) (by omega) (by omega) (127 - t) (by omega) (((laC id df dn u lg t).2.2.drop (32 * (126 - t))).take 32) (((laC id df dn u lg t).2.2.drop (32 * (127 - t))).take 32) (subLen (K := 32 * (128 + t)) hCl (by omega)) (subLen (K := 32 * (128 + t)) hCl (by omega)) _ h_60) rfl ?_
     rintro _ w_64 ⟨la_61, lc_62, lx_63, rfl, h_65⟩
     refine WL.nil ?_
     refine ⟨(N5_6_7 h_65.ok), ?_⟩
     refine qT rfl rfl (fun wq hS => R.move (v := (.tuple [(.agg ⟨(anD id df dn ((laC id df dn u lg t).1) ((laC id df dn u lg t).2.1) (1, (zB 32), 5, [leN 8 (UInt64.ofNat (127 - t)).toNat, ((laC id df dn u lg t).2.2.drop (32 * (126 - t))).take 32, ((laC id df dn u lg t).2.2.drop (32 * (127 - t))).take 32].flatten)).map vu8⟩), (vi 0)].toArray)) rfl) ?_
     refine qT rfl rfl (fun wq hS => R.extract rfl rfl) ?_
     refine qT rfl rfl (fun wq hS => R.extract rfl rfl) ?_
     refine qT rfl rfl (fun wq hS => R.indexA (b := b_7) (off := 0) (off' := (0 + ((127 - t) * 32))) (i := 127 - t) rfl rfl rfl (by omega) underlying87 sizeOf23 rfl) ?_
     refine WT.s (oN rfl ?_)
     refine WL.storeEA (b := b_7) (off := (0 + ((127 - t) * 32))) (i := (127 - t) * 32) (ys := (anD id df dn ((laC id df dn u lg t).1) ((laC id df dn u lg t).2.1) (1, (zB 32), 5, [leN 8 (UInt64.ofNat (127 - t)).toNat, ((laC id df dn u lg t).2.2.drop (32 * (126 - t))).take 32, ((laC id df dn u lg t).2.2.drop (32 * (127 - t))).take 32].flatten)).map vu8) (cs' := (ovr (mid z0 (32 * (128 - t)) 8192 (laC id df dn u lg t).2.2) ((127 - t) * 32) (anD id df dn ((laC id df dn u lg t).1) ((laC id df dn u lg t).2.1) (1, (zB 32), 5, [leN 8 (UInt64.ofNat (127 - t)).toNat, ((laC id df dn u lg t).2.2.drop (32 * (126 - t))).take 32, ((laC id df dn u lg t).2.2.drop (32 * (127 - t))).take 32].flatten))).map vu8) h_65 rfl rfl sizeOf23 Y8 (by decide) Sg.h rfl (len_map (anD_len hdf hs32)) (by rw [len_map (mid_len hzl (by omega) (by omega))]; omega) (one_u8 _) (cpOvrA (anD_len hdf hs32)) (fun w_66 h_67 => ?_)
     refine WL.nil ?_
     refine ⟨(N5_6_7 h_67.ok), ?_⟩
     refine WT.nil (thn_n ?_)
     exact ⟨(la_61, lc_62, lx_63), (Ag.upd rfl (U4 rfl rfl rfl rfl (U4 rfl rfl rfl rfl (U4 rfl rfl rfl rfl (U4 rfl rfl rfl rfl (Ag.refl _ _)))))), ⟨rfl, rfl, rfl, rfl, rfl, rfl, rfl, rfl, rfl, rfl, rfl, rfl, rfl, rfl, rfl, rfl, rfl, trivial⟩, h_67⟩
    ·refine oN rfl ?_
     refine qV rfl (R.loadEA (b := b_7) (off := (0 + (((2 * (127 - t)) + 1) * 32))) (i := ((2 * (127 - t)) + 1) * 32) (xs := (((laC id df dn u lg t).2.2.drop (32 * (127 - t))).take 32).map vu8) rfl isAgg23 sizeOf23 (h_54.ok _ M8) Sg.h rfl (by rw [← List.map_drop, ← List.map_take, mid_get (x := 32 * (127 - t)) hzl (by omega) (Nat.le_refl _) (by omega) (by omega)]) (len_map (subLen (K := 32 * (128 + t)) hCl (by omega)))) ?_
     refine WL.nil ?_
     refine ⟨(N5_6_7 h_54.ok), ?_⟩
     refine WT.s (oN rfl ?_)
     refine qV rfl (R.loadEA (b := b_7) (off := (0 + ((2 * (127 - t)) * 32))) (i := (2 * (127 - t)) * 32) (xs := (((laC id df dn u lg t).2.2.drop (32 * (126 - t))).take 32).map vu8) rfl isAgg23 sizeOf23 (h_54.ok _ M8) Sg.h rfl (by rw [← List.map_drop, ← List.map_take, mid_get (x := 32 * (126 - t)) hzl (by omega) (Nat.le_refl _) (by omega) (by omega)]) (len_map (subLen (K := 32 * (128 + t)) hCl (by omega)))) ?_
     refine WL.nil ?_
     refine ⟨(N5_6_7 h_54.ok), ?_⟩
     refine WT.s (oN rfl ?_)
     have h_72 := ((((h_54.up J4).up J4).up J4).up J4).up J4
     refine WL.call Tryz.call18 rfl rfl (c_TNode_t id ob mp ms df hms da dn dc ((laC id df dn u lg t).1) hdf la3 lc3 lx3 ((laC id df dn u lg t).2.1) (by omega) (by omega) (127 - t) (by omega) (((laC id df dn u lg t).2.2.drop (32 * (126 - t))).take 32) (((laC id df dn u lg t).2.2.drop (32 * (127 - t))).take 32) (subLen (K := 32 * (128 + t)) hCl (by omega)) (subLen (K := 32 * (128 + t)) hCl (by omega)) _ h_72) rfl ?_
     rintro _ w_76 ⟨la_73, lc_74, lx_75, rfl, h_77⟩
     refine WL.nil ?_
     refine ⟨(N5_6_7 h_77.ok), ?_⟩
     refine qT rfl rfl (fun wq hS => R.move (v := (.tuple [(.agg ⟨(anD id df dn ((laC id df dn u lg t).1) ((laC id df dn u lg t).2.1) (1, (zB 32), 5, [leN 8 (UInt64.ofNat (127 - t)).toNat, ((laC id df dn u lg t).2.2.drop (32 * (126 - t))).take 32, ((laC id df dn u lg t).2.2.drop (32 * (127 - t))).take 32].flatten)).map vu8⟩), (vi 0)].toArray)) rfl) ?_
     refine qT rfl rfl (fun wq hS => R.extract rfl rfl) ?_
     refine qT rfl rfl (fun wq hS => R.extract rfl rfl) ?_
     refine qT rfl rfl (fun wq hS => R.indexA (b := b_7) (off := 0) (off' := (0 + ((127 - t) * 32))) (i := 127 - t) rfl rfl rfl (by omega) underlying87 sizeOf23 rfl) ?_
     refine WT.s (oN rfl ?_)
     refine WL.storeEA (b := b_7) (off := (0 + ((127 - t) * 32))) (i := (127 - t) * 32) (ys := (anD id df dn ((laC id df dn u lg t).1) ((laC id df dn u lg t).2.1) (1, (zB 32), 5, [leN 8 (UInt64.ofNat (127 - t)).toNat, ((laC id df dn u lg t).2.2.drop (32 * (126 - t))).take 32, ((laC id df dn u lg t).2.2.drop (32 * (127 - t))).take 32].flatten)).map vu8) (cs' := (ovr (mid z0 (32 * (128 - t)) 8192 (laC id df dn u lg t).2.2) ((127 - t) * 32) (anD id df dn ((laC id df dn u lg t).1) ((laC id df dn u lg t).2.1) (1, (zB 32), 5, [leN 8 (UInt64.ofNat (127 - t)).toNat, ((laC id df dn u lg t).2.2.drop (32 * (126 - t))).take 32, ((laC id df dn u lg t).2.2.drop (32 * (127 - t))).take 32].flatten))).map vu8) h_77 rfl rfl sizeOf23 Y8 (by decide) Sg.h rfl (len_map (anD_len hdf hs32)) (by rw [len_map (mid_len hzl (by omega) (by omega))]; omega) (one_u8 _) (cpOvrA (anD_len hdf hs32)) (fun w_78 h_79 => ?_)
     refine WL.nil ?_
     refine ⟨(N5_6_7 h_79.ok), ?_⟩
     refine WT.nil (thn_n ?_)
     exact ⟨(la_73, lc_74, lx_75), (Ag.upd rfl (U4 rfl rfl rfl rfl (U4 rfl rfl rfl rfl (U4 rfl rfl rfl rfl (U4 rfl rfl rfl rfl (Ag.refl _ _)))))), ⟨rfl, rfl, rfl, rfl, rfl, rfl, rfl, rfl, rfl, rfl, rfl, rfl, rfl, rfl, rfl, rfl, rfl, trivial⟩, h_79⟩
   ·rintro ⟨la_83, lc_84, lx_85⟩ J_80 w_81 h_82
    refine inb_n (thn_n (WP.reg ?_))
    refine qM (vn (127 - t)) rfl rfl (qV rfl (R.bin rfl rfl (bi_sub (c := ((127 - t - 1 : Nat) : Int)) (by omega) (by omega))) (qA (vn (127 - t - 1)) rfl rfl ?_))
    refine WL.nil (thn_n ?_)
    have h_94 := ((((((((h_82.up J8).up J8).up J8).up J8).up J8).up J8).up J8).up J8).up J8
    rw [mid_pre (x' := 32 * (128 - (t + 1))) hzl (by omega) (by omega) (by rw [anD_len hdf hs32]; omega) (by omega)] at h_94
    exact ⟨(t + 1, la_83, lc_84, lx_85), _, (by omega), (Ag.upd rfl (U2 rfl rfl (Ag.updL rfl (Ag.trans (Ag.sub rfl (Ag.mix _ _ _)) (Ag.upd rfl (Ag.upd rfl (Ag.updL rfl (Ag.mix _ _ _)))))))), ⟨congrArg (fun n : Nat => vi (n : Int)) (by omega), trivial⟩, h_94, (by omega), rfl⟩
  ·have p_95 := of_decide_eq_false c_51
   refine WP.exit (thn_x (thn_x (inb_hit (thn_n (WP.seq (WP.seq ?_))))))
   obtain rfl : t = s6 + 1 := by omega
   have hC6 : (laC id df dn u lg s6).2.2.length = 8128 := by rw [laC_len (id := id) (u := u) hdf h32 s6]; omega
   rw [show 32 * (128 - (s6 + 1)) = 32 by omega] at h_48
   have h_96 := h_48.up J8
   have h_97 := HP_blkView h_96
   have hAl : (mid z0 32 8192 (laC id df dn u lg (s6 + 1)).2.2).length = 8192 := mid_len hzl (by omega) (Nat.le_refl _)
   rw [lay_0 (l := l) (p := p) (C := (laC id df dn u lg s6).2.2)] at h_97
   refine WP.reg ?_
   refine qA (vi 2) rfl rfl ?_
   refine WL.nil (thn_n (WP.block ?_))
   have h_105 := (((((((h_97.up J8).up J8).up J8).up J8).up J8).up J8).up J8).up J8
   refine WP.loopG (G := Nat) [12, 55, 56, 57, 58, 59, 60, 61, 62, 63, 64, 65, 66] (fun i => [(12, (vn i))]) (fun i m w1 => HP w00 w1 (Ent.blk ob .nw 106 [(1, [(.bool id)]), (32, ms.map vu8), (1, [(.slice da dn dc)]), (1, [(vn ((laC id df dn u lg (s6 + 1)).1))]), (1, [(.map (some mp))]), (1, [(.slice la3 ((laC id df dn u lg (s6 + 1)).2.1.length) lc3)])] :: Ent.row la3 ((laC id df dn u lg (s6 + 1)).2.1.length) lc3 102 67 lx3 :: Ent.obj mp .nw (.map (mArr ((laC id df dn u lg (s6 + 1)).2.1)) ((laC id df dn u lg (s6 + 1)).2.1.length)) :: Ent.pin (sblks lx3) (fun w => Lgs w lx3 ((laC id df dn u lg (s6 + 1)).2.1)) :: Ent.view da (df.map vu8) :: Ent.blk bm .nw 112 [(1, [(.slice ma mn mn)])] :: Ent.row ma mn mn 76 128 ((mid l (p + 64) (p + 32 * i) (((laC id df dn u lg s6).2.2).take (32 * (i - 2)))).map vu8) :: Ent.blk b_1 .nw 23 [(32, (zB 32).map vu8)] :: Ent.view (some ⟨b_7, 0, none⟩) ((mid z0 32 8192 (laC id df dn u lg (s6 + 1)).2.2).map vu8) :: L) ∧ (2 ≤ i) ∧ (i ≤ 256) ∧ m = 256 - i) ⟨2, _, ⟨rfl, trivial⟩, h_105, (by omega), (by omega), rfl⟩ ?_
   rintro i m_108 J_109 w_106 ⟨h_107, hi2, hi6, rfl⟩
   refine WP.seq (WP.seq (WP.reg ?_))
   refine qM (vn i) rfl rfl (qV rfl (R.bin rfl rfl (bi_lss (r := decide ((((i : Nat) : Int) : Int) < 256)) rfl)) ?_)
   refine WL.nil (thn_n ?_)
   refine WP.cond (b := decide ((((i : Nat) : Int) : Int) < 256)) rfl (fun c_110 => ?_) (fun c_110 => ?_)
   ·have p_111 := of_decide_eq_true c_110
    refine WP.skip (thn_n (WP.seq (WP.block ?_)))
    have h_112 := h_107.within (e' := .view (some ⟨b_7, (0 + (i * 32)), none⟩) ((((mid z0 32 8192 (laC id df dn u lg (s6 + 1)).2.2).drop (i * 32)).take 32).map vu8)) M8 rfl (View.arg (viewCut (h_107.ok _ M8).1 (i * 32) 32)) rfl rfl (cut_blk (by rw [len_map hAl]; decide))
    refine WP.drawT (SL w00.heap.size [.view (some ⟨b_7, (0 + (i * 32)), none⟩) ((((mid z0 32 8192 (laC id df dn u lg (s6 + 1)).2.2).drop (i * 32)).take 32).map vu8), .blk ob .nw 106 [(1, [(.bool id)]), (32, ms.map vu8), (1, [(.slice da dn dc)]), (1, [(vn ((laC id df dn u lg (s6 + 1)).1))]), (1, [(.map (some mp))]), (1, [(.slice la3 ((laC id df dn u lg (s6 + 1)).2.1.length) lc3)])], .row la3 ((laC id df dn u lg (s6 + 1)).2.1.length) lc3 102 67 lx3, .obj mp .nw (.map (mArr ((laC id df dn u lg (s6 + 1)).2.1)) ((laC id df dn u lg (s6 + 1)).2.1.length)), .pin (sblks lx3) (fun w => Lgs w lx3 ((laC id df dn u lg (s6 + 1)).2.1)), .view da (df.map vu8), .blk bm .nw 112 [(1, [(.slice ma mn mn)])], .blk b_1 .nw 23 [(32, (zB 32).map vu8)], .view (some ⟨b_7, 0, none⟩) ((mid z0 32 8192 (laC id df dn u lg (s6 + 1)).2.2).map vu8)]) (.q 0 (.q 1 (.q 2 (.q 4 (.q 5 (.q 6 (.s 3 (.s 7 .nil)))))))) (by kernel_rfl) (by kernel_rfl) rfl (by kernel_rfl) (fun w_113 hc_115 => (SL.cons ((h_112.same hc_115).ok _ M0) (SL.cons ((h_112.same hc_115).ok _ M1) (SL.cons ((h_112.same hc_115).ok _ M2) (SL.cons ((h_112.same hc_115).ok _ M3) (SL.cons ((h_112.same hc_115).ok _ M4) (SL.cons ((h_112.same hc_115).ok _ M5) (SL.cons ((h_112.same hc_115).ok _ M6) (SL.cons ((h_112.same hc_115).ok _ M8) (SL.cons ((h_112.same hc_115).ok _ M9) (SL.nil _ _))))))))))) (fun w_113 hc_115 => ?_)
    have h_114 := h_112.same hc_115
    refine qT rfl rfl (fun wq hS => R.move (v := (pO bm 0)) rfl) ?_
    refine qT rfl rfl (fun wq hS => R.move (v := (vu64 (UInt64.ofNat p))) rfl) ?_
    refine qT rfl rfl (fun wq hS => R.move (v := (vn i)) rfl) ?_
    refine qT rfl rfl (fun wq hS => R.move (v := (vn i)) rfl) ?_
    refine qT rfl rfl (fun wq hS => R.indexA (b := b_7) (off := 0) (off' := (0 + (i * 32))) (i := i) rfl rfl rfl (by omega) underlying87 sizeOf23 rfl) ?_
    refine qT rfl rfl (fun wq hS => R.sliceA (b := b_7) (off := (0 + (i * 32))) (off' := (0 + (i * 32))) (l := 0) (h := 32) rfl EvB.dflt EvB.dflt (by decide) (by decide) underlying23 sizeOf5 rfl) ?_
    refine WT.s (oN rfl ?_)
    refine WL.call Tryz.call48 rfl rfl (c_place p i _ ) rfl ?_
    rintro _ w_117 ⟨rfl, hc_116⟩
    have h_118 := h_114.same hc_116
    refine WL.nil ?_
    refine ⟨(SL.cons (h_118.ok _ M0) (SL.cons (h_118.ok _ M1) (SL.cons (h_118.ok _ M2) (SL.cons (h_118.ok _ M3) (SL.cons (h_118.ok _ M4) (SL.cons (h_118.ok _ M5) (SL.cons (h_118.ok _ M6) (SL.cons (h_118.ok _ M8) (SL.cons (h_118.ok _ M9) (SL.nil _ _)))))))))), ?_⟩
    refine WT.s (oN rfl ?_)
    have h_120 := (h_118.up J7).up J7
    refine WL.call Tryz.call47 rfl rfl (c_MWrite bm ma mn (p + 32 * i) (by omega) (by omega) (by omega) (by omega) (mid l (p + 64) (p + 32 * i) (((laC id df dn u lg s6).2.2).take (32 * (i - 2)))) (((mid z0 32 8192 (laC id df dn u lg (s6 + 1)).2.2).drop (i * 32)).take 32) (lay_len hl hC6 hw hi2 hi6) (subLen (K := 8192) hAl (by omega) : List.length (((mid z0 32 8192 (laC id df dn u lg (s6 + 1)).2.2).drop (i * 32)).take 32) = 32) (some ⟨b_7, (0 + (i * 32)), none⟩) 32 (by decide) _ h_120) rfl ?_
    rintro _ w_121 ⟨rfl, h_122⟩
    refine WL.nil ?_
    refine ⟨(SL.cons (h_122.ok _ M2) (SL.cons (h_122.ok _ M3) (SL.cons (h_122.ok _ M4) (SL.cons (h_122.ok _ M5) (SL.cons (h_122.ok _ M6) (SL.cons (h_122.ok _ M7) (SL.cons (h_122.ok _ M0) (SL.cons (h_122.ok _ M8) (SL.cons (h_122.ok _ M9) (SL.nil _ _)))))))))), ?_⟩
    refine WT.nil (inb_n (thn_n (WP.reg ?_)))
    refine qM (vn i) rfl rfl (qV rfl (R.bin rfl rfl (bi_add (c := ((i + 1 : Nat) : Int)) (by omega) (by omega))) (qA (vn (i + 1)) rfl rfl ?_))
    refine WL.nil (thn_n ?_)
    have h_133 := ((((((((((h_122.up J2).drop rfl).up J8).up J8).up J3).up J3).up J8).up J8).up J8).up J8).up J8
    rw [lay_w hs6 hdf h32 hzl hi2 (by omega), lay_s hl hC6 hw hi2 (by omega)] at h_133
    exact ⟨i + 1, _, (by omega), (Ag.upd rfl (U4 rfl rfl rfl rfl (U4 rfl rfl rfl rfl (U4 rfl rfl rfl rfl (Ag.updL rfl (Ag.mix _ _ _)))))), ⟨rfl, trivial⟩, h_133, (by omega), (by omega), rfl⟩
   ·have p_134 := of_decide_eq_false c_110
    refine WP.exit (thn_x (thn_x (inb_hit (thn_n (WP.seq ?_)))))
    have hi7 : i = 256 := by omega
    subst hi7
    rw [lay_end hC6] at h_107
    refine WP.reg ?_
    refine qV rfl (R.indexA (b := b_7) (off := 0) (off' := 32) (i := 1) rfl rfl rfl (by decide) underlying87 sizeOf23 rfl) (qV rfl (R.loadGA (a := some ⟨b_7, 0, none⟩) (i := 32) (xs := (mid z0 32 8192 (laC id df dn u lg (s6 + 1)).2.2).map vu8) (cs := ((laC id df dn u lg (s6 + 1)).2.2.take 32).map vu8) rfl (viewV (h_107.ok _ M8)) isAgg23 sizeOf23 (by rw [← List.map_drop, ← List.map_take, mid_get (x := 0) hzl (by rw [laC_len hdf h32]; omega) (Nat.le_refl _) rfl (by rw [laC_len hdf h32]; omega), List.drop_zero]) (len_map (show List.length ((laC id df dn u lg (s6 + 1)).2.2.take 32) = 32 from by rw [List.length_take, laC_len hdf h32]; omega)) (by decide)) ?_)
    refine WL.storeA [] [(32, (zB 32).map vu8)] [(32, ((laC id df dn u lg (s6 + 1)).2.2.take 32).map vu8)] [] h_107 rfl rfl sizeOf23 Y7 (by decide) rfl rfl rfl rfl rfl rfl (sC (s8 (show List.length ((laC id df dn u lg (s6 + 1)).2.2.take 32) = 32 from by rw [List.length_take, laC_len hdf h32]; omega)) sN) (fun w_135 h_136 => ?_)
    refine qA (vi 0) rfl rfl ?_
    refine WL.nil (thn_n (WP.ret ?_))
    refine ret_of results20 (RV.cell rfl (h_136.loadA (cs := ((laC id df dn u lg (s6 + 1)).2.2.take 32).map vu8) isAgg23 sizeOf23 M7 rfl rfl) (RV.tmp (v := (vi 0)) rfl RV.nil)) ?_
    have h_147 := ((((((((((h_136.up J7).drop rfl).up J7).drop rfl).up J6).up J6).up J6).up J6).up J6).up J6).up J6
    exact ⟨_, _, _, rfl, h_147⟩
end Go.Proofs.YtbhllplbbkmndaaGreat

namespace Go.Proofs.YtbhllplbbkmndaaGreat
open Go.Proofs.Tryz
open Go.Vc Go.Orc Go.Sh Go.RowKit
set_option maxRecDepth 20000

theorem c_rAtM (bk : Nat) (ka : Option Addr) (mn : Nat) (p i : Nat) (hw : p + 8192 ≤ 128 * mn) (hi : i < 256) (hm : mn ≤ 100) (l : List UInt8) (hl : l.length = 128 * mn) (a c x : Nat) (C : List UInt8) (hac : a + C.length = c) (hc : c ≤ 128 * mn) (hx : p + 32 * i = a + x) (hx2 : x + 32 ≤ C.length) (w : World) (hcm : (Ent.blk bk .ro 95 [(1, [(.slice ka (128 * mn) (128 * mn))])]).ok w.heap.size w) (hv : View w ka ((mid l a c C).map vu8)) : Cs Tryz.prog 28 [(.pointer (some ⟨bk, 0, none⟩)), (vu64 (UInt64.ofNat p)), (vi ((i : Nat) : Int))].toArray w (fun v w1 => v = (.agg ⟨((C.drop x).take 32).map vu8⟩) ∧ Chg w w1 []) := by
 have h2 := c_rAt bk ka mn p i hw hi hm _ (mid_len hl hac hc) w hcm hv
 rw [mid_get hl hac hc hx hx2] at h2
 exact h2

theorem c_rLay {w00 : World} {L : List Ent} (id : Bool) (ob : Nat) (ms df : List UInt8) (hms : ms.length = 32) (da : Option Addr) (dn dc u : Nat) (hdf : df.length = 32 * dn) (la : Option Addr) (lc : Nat) (lx : List Value) (lg : Lg) (hu : u ≤ 500000) (hlg : lg.length ≤ 500000) (bk : Nat) (ka : Option Addr) (mn : Nat) (hm : mn ≤ 100) (hm1 : 1 ≤ mn) (p : Nat) (hw : p + 8192 ≤ 128 * mn) (l : List UInt8) (hl : l.length = 128 * mn) (s6 : Nat) (hs6 : s6 = 126) (w : World) (h_0 : HP w00 w (Ent.blk ob .nw 61 [(1, [(.bool id)]), (32, ms.map vu8), (1, [(.slice da dn dc)]), (1, [(vi ((u : Nat) : Int))]), (1, [(.slice la lg.length lc)])] :: Ent.row la lg.length lc 102 67 lx :: Ent.pin (sblks lx) (fun w => Lgs w lx lg) :: Ent.view da (df.map vu8) :: Ent.blk bk .nw 95 [(1, [(.slice ka (128 * mn) (128 * mn))])] :: Ent.row ka (128 * mn) (128 * mn) 5 1 (l.map vu8) :: L)) :
  Cs Tryz.prog 25 [(.pointer (some ⟨ob, 0, none⟩)), (.pointer (some ⟨bk, 0, none⟩)), (vu64 (UInt64.ofNat p))].toArray w (fun v w1 => ∃ la' lc' lx', v = (.agg ⟨((laC id df dn u lg (s6 + 1)).2.2.take 32).map vu8⟩) ∧ HP w00 w1 (Ent.blk ob .nw 61 [(1, [(.bool id)]), (32, ms.map vu8), (1, [(.slice da dn dc)]), (1, [(vi (((laC id df dn u lg (s6 + 1)).1 : Nat) : Int))]), (1, [(.slice la' ((laC id df dn u lg (s6 + 1)).2.1.length) lc')])] :: Ent.row la' ((laC id df dn u lg (s6 + 1)).2.1.length) lc' 102 67 lx' :: Ent.pin (sblks lx') (fun w => Lgs w lx' ((laC id df dn u lg (s6 + 1)).2.1)) :: Ent.view da (df.map vu8) :: Ent.blk bk .nw 95 [(1, [(.slice ka (128 * mn) (128 * mn))])] :: Ent.row ka (128 * mn) (128 * mn) 5 1 ((mid l (p + 64) (p + 8192) (laC id df dn u lg s6).2.2).map vu8) :: L)) := by
 have h32 : ok32 lg := Lgs.ok32 (h_0.ok _ M2).1
 refine Cs.of (n := 51) (args := [(pO ob 0), (pO bk 0), (vu64 (UInt64.ofNat p))]) Tryz.func25 rfl rfl rfl ?_
 refine WP.seq (WP.reg ?_)
 refine WL.alloc (segs := [(32, (zB 32).map vu8)]) h_0 (zv typeInfo23 rfl) rfl (sC (s8 lr) sN) rfl (fun b_1 w_2 h_3 => ?_)
 refine WL.nil (thn_n (WP.seq (WP.seq (WP.reg ?_))))
 refine qA (vi 0) rfl rfl ?_
 refine WL.nil (thn_n (WP.block ?_))
 have h_9 := (((((h_3.up J6).up J6).up J6).up J6).up J6).up J6
 rw [show l = mid l (p + 4096) (p + 4096 + 32 * 0) (laB id df dn u lg 0).2.2 from mid_nil.symm] at h_9
 refine WP.loopG (G := Nat × Option Addr × Nat × List Value) [7, 11, 12, 13, 14, 15, 16, 17, 18, 19, 20, 21, 22] (fun (k, la2, lc2, lx2) => [(7, (vn k))]) (fun (k, la2, lc2, lx2) m w1 => HP w00 w1 (Ent.blk ob .nw 61 [(1, [(.bool id)]), (32, ms.map vu8), (1, [(.slice da dn dc)]), (1, [(vn ((laB id df dn u lg k).1))]), (1, [(.slice la2 ((laB id df dn u lg k).2.1.length) lc2)])] :: Ent.row la2 ((laB id df dn u lg k).2.1.length) lc2 102 67 lx2 :: Ent.pin (sblks lx2) (fun w => Lgs w lx2 ((laB id df dn u lg k).2.1)) :: Ent.view da (df.map vu8) :: Ent.blk bk .nw 95 [(1, [(.slice ka (128 * mn) (128 * mn))])] :: Ent.row ka (128 * mn) (128 * mn) 5 1 ((mid l (p + 4096) (p + 4096 + 32 * k) (laB id df dn u lg k).2.2).map vu8) :: Ent.blk b_1 .nw 23 [(32, (zB 32).map vu8)] :: L) ∧ (k ≤ 128) ∧ m = 128 - k) ⟨(0, la, lc, lx), _, ⟨rfl, trivial⟩, h_9, Nat.zero_le _, rfl⟩ ?_
 rintro ⟨k, la2, lc2, lx2⟩ m_12 J_13 w_10 ⟨h_11, hk, rfl⟩
 have hsu := laB_u (id := id) (df := df) (dn := dn) (u := u) (lg := lg) k
 have hsl := laB_l (id := id) (df := df) (dn := dn) (u := u) (lg := lg) k
 have hs32 := laB_32 (id := id) (u := u) hdf h32 k
 have hBl := laB_len (id := id) (u := u) hdf h32 k
 refine WP.seq (WP.seq (WP.reg ?_))
 refine qM (vn k) rfl rfl (qV rfl (R.bin rfl rfl (bi_lss (r := decide ((((k : Nat) : Int) : Int) < 128)) rfl)) ?_)
 refine WL.nil (thn_n ?_)
 refine WP.cond (b := decide ((((k : Nat) : Int) : Int) < 128)) rfl (fun c_14 => ?_) (fun c_14 => ?_)
 ·have p_15 := of_decide_eq_true c_14
  refine WP.skip (thn_n (WP.seq (WP.block (WP.reg ?_))))
  refine qM (pO bk 0) rfl rfl (qM (vu64 (UInt64.ofNat p)) rfl rfl (qM (vn k) rfl rfl (qV rfl (R.bin rfl rfl (bi_add (c := ((128 + k : Nat) : Int)) (by omega) (by omega))) (qM (pO ob 0) rfl rfl (qM (vn k) rfl rfl ?_)))))
  have h_19 := (((h_11.up J3).up J3).up J3).up J3
  refine WL.call Tryz.call13 rfl rfl (c_rTNone id ob ms df hms da dn dc ((laB id df dn u lg k).1) hdf la2 lc2 lx2 ((laB id df dn u lg k).2.1) (by omega) (by omega) k _ h_19) rfl ?_
  rintro _ w_23 ⟨la_20, lc_21, lx_22, rfl, h_24⟩
  have h_26 := (h_24.up J5).up J5
  refine WL.call Tryz.call52 rfl rfl (c_rput bk ka mn p (128 + k) (by omega) (by omega) (by omega) (mid l (p + 4096) (p + 4096 + 32 * k) (laB id df dn u lg k).2.2) (mid_len hl (by rw [hBl]) (by omega)) (anD id df dn ((laB id df dn u lg k).1) ((laB id df dn u lg k).2.1) (1, (zB 32), 6, leN 8 (UInt64.ofNat k).toNat)) (anD_len hdf hs32) _ h_26) rfl ?_
  rintro _ w_27 ⟨rfl, h_28⟩
  refine WL.nil (inb_n (thn_n (WP.reg ?_)))
  refine qM (vn k) rfl rfl (qV rfl (R.bin rfl rfl (bi_add (c := ((k + 1 : Nat) : Int)) (by omega) (by omega))) (qA (vn (k + 1)) rfl rfl ?_))
  refine WL.nil (thn_n ?_)
  have h_35 := ((((((h_28.up J6).up J2).up J2).up J6).up J6).up J6).up J6
  rw [mid_app (c' := p + 4096 + 32 * (k + 1)) hl (by rw [hBl]) (by omega) (by rw [anD_len hdf hs32]; omega) (by omega)] at h_35
  exact ⟨(k + 1, la_20, lc_21, lx_22), _, (by omega), (Ag.upd rfl (U4 rfl rfl rfl rfl (U4 rfl rfl rfl rfl (U4 rfl rfl rfl rfl (Ag.updL rfl (Ag.mix _ _ _)))))), ⟨rfl, trivial⟩, h_35, (by omega), rfl⟩
 ·have p_36 := of_decide_eq_false c_14
  refine WP.exit (thn_x (thn_x (inb_hit (thn_n (WP.seq ?_)))))
  have hk8 : k = 128 := by omega
  subst hk8
  rw [show mid l (p + 4096) (p + 4096 + 32 * 128) (laB id df dn u lg 128).2.2 = laM id df dn u lg l p 0 from (laM_at (Nat.zero_le 126)).symm] at h_11
  refine WP.reg ?_
  refine qV rfl (R.buildA (vs := []) (cs := (zB 32).map vu8) underlying23 sizeOf5 (zv typeInfo23 rfl) rfl rfl) ?_
  refine WL.alloc (segs := [(32, (zB 32).map vu8)]) h_11 (zv typeInfo23 rfl) rfl (sC (s8 lr) sN) rfl (fun b_37 w_38 h_39 => ?_)
  refine WL.storeA [] [(32, (zB 32).map vu8)] [(32, (zB 32).map vu8)] [] h_39 rfl rfl sizeOf23 At.h (by decide) rfl rfl rfl rfl rfl rfl (sC (s8 lr) sN) (fun w_40 h_41 => ?_)
  refine WL.nil (thn_n (WP.seq (WP.seq (WP.reg ?_))))
  refine qA (vi 127) rfl rfl ?_
  refine WL.nil (thn_n (WP.block ?_))
  have h_48 := ((((((h_41.up J7).up J7).up J7).up J7).up J7).up J7).up J7
  rw [show zB 32 = laR id df dn u lg 0 from (laR_at (Nat.zero_le 126)).symm] at h_48
  refine WP.loopG (G := Nat × Option Addr × Nat × List Value) [9, 10, 24, 25, 26, 27, 28, 29, 30, 31, 32, 33, 34, 35, 36, 37, 38, 39, 40, 41, 42, 43, 44, 45, 46, 47, 48, 49] (fun (t, la3, lc3, lx3) => [(9, (vn (127 - t)))]) (fun (t, la3, lc3, lx3) m w1 => HP w00 w1 (Ent.blk ob .nw 61 [(1, [(.bool id)]), (32, ms.map vu8), (1, [(.slice da dn dc)]), (1, [(vn ((laC id df dn u lg t).1))]), (1, [(.slice la3 ((laC id df dn u lg t).2.1.length) lc3)])] :: Ent.row la3 ((laC id df dn u lg t).2.1.length) lc3 102 67 lx3 :: Ent.pin (sblks lx3) (fun w => Lgs w lx3 ((laC id df dn u lg t).2.1)) :: Ent.view da (df.map vu8) :: Ent.blk bk .nw 95 [(1, [(.slice ka (128 * mn) (128 * mn))])] :: Ent.row ka (128 * mn) (128 * mn) 5 1 ((laM id df dn u lg l p t).map vu8) :: Ent.blk b_1 .nw 23 [(32, (laR id df dn u lg 0).map vu8)] :: Ent.blk b_37 .nw 23 [(32, (laR id df dn u lg t).map vu8)] :: L) ∧ (t ≤ 127) ∧ m = 127 - t) ⟨(0, la2, lc2, lx2), _, ⟨rfl, trivial⟩, h_48, Nat.zero_le _, rfl⟩ ?_
  rintro ⟨t, la3, lc3, lx3⟩ m_51 J_52 w_49 ⟨h_50, ht, rfl⟩
  have hsu := laC_u (id := id) (df := df) (dn := dn) (u := u) (lg := lg) t
  have hsl := laC_l (id := id) (df := df) (dn := dn) (u := u) (lg := lg) t
  have hs32 := laC_32 (id := id) (u := u) hdf h32 t
  have hCl := laC_len (id := id) (u := u) hdf h32 t
  refine WP.seq (WP.seq (WP.reg ?_))
  refine qM (vn (127 - t)) rfl rfl (qV rfl (R.bin rfl rfl (bi_geq (r := decide ((((127 - t : Nat) : Int) : Int) ≥ 1)) rfl)) ?_)
  refine WL.nil (thn_n ?_)
  refine WP.cond (b := decide ((((127 - t : Nat) : Int) : Int) ≥ 1)) rfl (fun c_53 => ?_) (fun c_53 => ?_)
  ·have p_54 := of_decide_eq_true c_53
   refine WP.skip (thn_n (WP.seq (WP.block (WP.seq ?_))))
   have ht6 : t ≤ 126 := by omega
   rw [laM_at ht6, laR_at ht6] at h_50
   refine WP.reg ?_
   refine qM (pO ob 0) rfl rfl (qM (vn (127 - t)) rfl rfl (qM (pO bk 0) rfl rfl (qM (vu64 (UInt64.ofNat p)) rfl rfl (qM (vn (127 - t)) rfl rfl (qV rfl (R.bin rfl rfl (bi_mul (c := ((2 * (127 - t) : Nat) : Int)) (by omega) (by omega))) ?_)))))
   refine WL.call Tryz.call28 rfl rfl (c_rAtM bk ka mn p (2 * (127 - t)) hw (by omega) hm l hl (p + 32 * (128 - t)) (p + 8192) (32 * (126 - t)) (laC id df dn u lg t).2.2 (by omega) hw (by omega) (by omega) _ (h_50.argR M4) (ownView (h_50.ok _ M5))) rfl ?_
   rintro _ w_56 ⟨rfl, hc_55⟩
   have h_57 := h_50.same hc_55
   refine qM (pO bk 0) rfl rfl (qM (vu64 (UInt64.ofNat p)) rfl rfl (qM (vn (127 - t)) rfl rfl (qV rfl (R.bin rfl rfl (bi_mul (c := ((2 * (127 - t) : Nat) : Int)) (by omega) (by omega))) (qV rfl (R.bin rfl rfl (bi_add (c := (((2 * (127 - t)) + 1 : Nat) : Int)) (by omega) (by omega))) ?_))))
   refine WL.call Tryz.call28 rfl rfl (c_rAtM bk ka mn p ((2 * (127 - t)) + 1) hw (by omega) hm l hl (p + 32 * (128 - t)) (p + 8192) (32 * (127 - t)) (laC id df dn u lg t).2.2 (by omega) hw (by omega) (by omega) _ (h_57.argR M4) (ownView (h_57.ok _ M5))) rfl ?_
   rintro _ w_59 ⟨rfl, hc_58⟩
   have h_60 := h_57.same hc_58
   have h_64 := (((h_60.up J3).up J3).up J3).up J3
   refine WL.call Tryz.call19 rfl rfl (c_rTNode id ob ms df hms da dn dc ((laC id df dn u lg t).1) hdf la3 lc3 lx3 ((laC id df dn u lg t).2.1) (by omega) (by omega) (127 - t) (((laC id df dn u lg t).2.2.drop (32 * (126 - t))).take 32) (((laC id df dn u lg t).2.2.drop (32 * (127 - t))).take 32) (subLen (K := 32 * (128 + t)) hCl (by omega)) (subLen (K := 32 * (128 + t)) hCl (by omega)) _ h_64) rfl ?_
   rintro _ w_68 ⟨la_65, lc_66, lx_67, rfl, h_69⟩
   refine WL.alloc (segs := [(32, (zB 32).map vu8)]) h_69 (zv typeInfo23 rfl) rfl (sC (s8 lr) sN) rfl (fun b_70 w_71 h_72 => ?_)
   refine WL.storeA [] [(32, (zB 32).map vu8)] [(32, (anD id df dn ((laC id df dn u lg t).1) ((laC id df dn u lg t).2.1) (1, (zB 32), 5, [leN 8 (UInt64.ofNat (127 - t)).toNat, ((laC id df dn u lg t).2.2.drop (32 * (126 - t))).take 32, ((laC id df dn u lg t).2.2.drop (32 * (127 - t))).take 32].flatten)).map vu8)] [] h_72 rfl rfl sizeOf23 At.h (by decide) rfl rfl rfl rfl rfl rfl (sC (s8 (anD_len hdf hs32)) sN) (fun w_73 h_74 => ?_)
   refine WL.nil (thn_n (WP.seq (WP.reg ?_)))
   refine qM (vn (127 - t)) rfl rfl (qV rfl (R.bin rfl rfl (bi_eql (r := decide ((((127 - t : Nat) : Int) : Int) = 1)) rfl)) ?_)
   refine WL.nil (thn_n ?_)
   refine WP.cond (b := decide ((((127 - t : Nat) : Int) : Int) = 1)) rfl (fun c_75 => ?_) (fun c_75 => ?_)
   ·have p_76 := of_decide_eq_true c_75
    refine WP.reg ?_
    refine qV rfl (R.loadA [] [(32, (anD id df dn ((laC id df dn u lg t).1) ((laC id df dn u lg t).2.1) (1, (zB 32), 5, [leN 8 (UInt64.ofNat (127 - t)).toNat, ((laC id df dn u lg t).2.2.drop (32 * (126 - t))).take 32, ((laC id df dn u lg t).2.2.drop (32 * (127 - t))).take 32].flatten)).map vu8)] [] (cs := (anD id df dn ((laC id df dn u lg t).1) ((laC id df dn u lg t).2.1) (1, (zB 32), 5, [leN 8 (UInt64.ofNat (127 - t)).toNat, ((laC id df dn u lg t).2.2.drop (32 * (126 - t))).take 32, ((laC id df dn u lg t).2.2.drop (32 * (127 - t))).take 32].flatten)).map vu8) rfl isAgg23 sizeOf23 (h_74.ok _ M0) rfl rfl rfl rfl) ?_
    refine WL.storeA [] [(32, (zB 32).map vu8)] [(32, (anD id df dn ((laC id df dn u lg t).1) ((laC id df dn u lg t).2.1) (1, (zB 32), 5, [leN 8 (UInt64.ofNat (127 - t)).toNat, ((laC id df dn u lg t).2.2.drop (32 * (126 - t))).take 32, ((laC id df dn u lg t).2.2.drop (32 * (127 - t))).take 32].flatten)).map vu8)] [] h_74 rfl rfl sizeOf23 Y8 (by decide) rfl rfl rfl rfl rfl rfl (sC (s8 (anD_len hdf hs32)) sN) (fun w_77 h_78 => ?_)
    refine WL.nil (inb_n (thn_n (WP.reg ?_)))
    refine qM (vn (127 - t)) rfl rfl (qV rfl (R.bin rfl rfl (bi_sub (c := ((127 - t - 1 : Nat) : Int)) (by omega) (by omega))) (qA (vn (127 - t - 1)) rfl rfl ?_))
    refine WL.nil (thn_n ?_)
    have h_87 := ((((((((h_78.drop rfl).up J7).up J7).up J7).up J7).up J7).up J7).up J7).up J7
    obtain rfl : t = s6 := by omega
    exact ⟨(t + 1, la_65, lc_66, lx_67), _, (by omega), (Ag.upd rfl (U2 rfl rfl (U4 rfl rfl rfl rfl (U4 rfl rfl rfl rfl (U4 rfl rfl rfl rfl (U4 rfl rfl rfl rfl (U4 rfl rfl rfl rfl (Ag.updL rfl (Ag.mix _ _ _))))))))), ⟨congrArg (fun n : Nat => vi (n : Int)) (by omega), trivial⟩, (by rw [laM_end hs6, laR_end hs6, laC_root hdf h32]; rw [show p + 32 * (128 - t) = p + 64 by omega] at h_87; exact h_87), (by omega), rfl⟩
   ·have p_88 := of_decide_eq_false c_75
    refine WP.reg ?_
    refine qM (pO bk 0) rfl rfl (qM (vu64 (UInt64.ofNat p)) rfl rfl (qM (vn (127 - t)) rfl rfl (qV rfl (R.loadA [] [(32, (anD id df dn ((laC id df dn u lg t).1) ((laC id df dn u lg t).2.1) (1, (zB 32), 5, [leN 8 (UInt64.ofNat (127 - t)).toNat, ((laC id df dn u lg t).2.2.drop (32 * (126 - t))).take 32, ((laC id df dn u lg t).2.2.drop (32 * (127 - t))).take 32].flatten)).map vu8)] [] (cs := (anD id df dn ((laC id df dn u lg t).1) ((laC id df dn u lg t).2.1) (1, (zB 32), 5, [leN 8 (UInt64.ofNat (127 - t)).toNat, ((laC id df dn u lg t).2.2.drop (32 * (126 - t))).take 32, ((laC id df dn u lg t).2.2.drop (32 * (127 - t))).take 32].flatten)).map vu8) rfl isAgg23 sizeOf23 (h_74.ok _ M0) rfl rfl rfl rfl) ?_)))
    have h_90 := (h_74.up J6).up J6
    refine WL.call Tryz.call52 rfl rfl (c_rput bk ka mn p (127 - t) (by omega) (by omega) (by omega) (mid l (p + 32 * (128 - t)) (p + 8192) (laC id df dn u lg t).2.2) (mid_len hl (by omega) hw) (anD id df dn ((laC id df dn u lg t).1) ((laC id df dn u lg t).2.1) (1, (zB 32), 5, [leN 8 (UInt64.ofNat (127 - t)).toNat, ((laC id df dn u lg t).2.2.drop (32 * (126 - t))).take 32, ((laC id df dn u lg t).2.2.drop (32 * (127 - t))).take 32].flatten)) (anD_len hdf hs32) _ h_90) rfl ?_
    rintro _ w_91 ⟨rfl, h_92⟩
    refine WL.nil (inb_n (thn_n (WP.reg ?_)))
    refine qM (vn (127 - t)) rfl rfl (qV rfl (R.bin rfl rfl (bi_sub (c := ((127 - t - 1 : Nat) : Int)) (by omega) (by omega))) (qA (vn (127 - t - 1)) rfl rfl ?_))
    refine WL.nil (thn_n ?_)
    have h_102 := (((((((((h_92.up J2).drop rfl).up J7).up J7).up J3).up J3).up J7).up J7).up J7).up J7
    rw [mid_pre (x' := p + 32 * (128 - (t + 1))) hl (by omega) (by omega) (by rw [anD_len hdf hs32]; omega) (by omega)] at h_102
    exact ⟨(t + 1, la_65, lc_66, lx_67), _, (by omega), (Ag.upd rfl (U2 rfl rfl (U4 rfl rfl rfl rfl (U4 rfl rfl rfl rfl (U4 rfl rfl rfl rfl (U4 rfl rfl rfl rfl (U4 rfl rfl rfl rfl (U4 rfl rfl rfl rfl (Ag.updL rfl (Ag.mix _ _ _)))))))))), ⟨congrArg (fun n : Nat => vi (n : Int)) (by omega), trivial⟩, (by rw [laM_at (t := t + 1) (by omega), laR_at (t := t + 1) (by omega)]; exact h_102), (by omega), rfl⟩
  ·have p_103 := of_decide_eq_false c_53
   refine WP.exit (thn_x (thn_x (inb_hit (thn_n (WP.seq ?_)))))
   obtain rfl : t = s6 + 1 := by omega
   rw [laM_end hs6, laR_end hs6] at h_50
   have hC6 : (laC id df dn u lg s6).2.2.length = 8128 := by rw [laC_len (id := id) (u := u) hdf h32 s6]; omega
   refine WP.reg ?_
   refine qV rfl (R.loadA [] [(32, ((laC id df dn u lg (s6 + 1)).2.2.take 32).map vu8)] [] (cs := ((laC id df dn u lg (s6 + 1)).2.2.take 32).map vu8) rfl isAgg23 sizeOf23 (h_50.ok _ M7) rfl rfl rfl rfl) ?_
   refine WL.storeA [] [(32, (laR id df dn u lg 0).map vu8)] [(32, ((laC id df dn u lg (s6 + 1)).2.2.take 32).map vu8)] [] h_50 rfl rfl sizeOf23 Y6 (by decide) rfl rfl rfl rfl rfl rfl (sC (s8 (by rw [List.length_take, laC_len hdf h32]; omega)) sN) (fun w_104 h_105 => ?_)
   refine WL.nil (thn_n (WP.ret ?_))
   refine ret_of results25 (RV.cell rfl (h_105.loadA (cs := ((laC id df dn u lg (s6 + 1)).2.2.take 32).map vu8) isAgg23 sizeOf23 M6 rfl rfl) RV.nil) ?_
   have h_115 := (((((((((h_105.up J6).drop rfl).up J6).drop rfl).up J5).up J5).up J5).up J5).up J5).up J5
   exact ⟨_, _, _, rfl, h_115⟩

theorem c_LayW (id : Bool) (ob mp : Nat) (ms : List UInt8) (hms : ms.length = 32) (da : Option Addr) (dn dc u : Nat) (la : Option Addr) (ln lc : Nat) (bm : Nat) (ma : Option Addr) (mn : Nat) (hm : mn ≤ 100) (hm1 : 1 ≤ mn) (nd : UInt64) (hwn : wnB mn nd = false) (w : World) (hcb : (Ent.blk ob .ro 106 [(1, [(.bool id)]), (32, ms.map vu8), (1, [(.slice da dn dc)]), (1, [(vi ((u : Nat) : Int))]), (1, [(.map (some mp))]), (1, [(.slice la ln lc)])]).ok w.heap.size w) (hcm : (Ent.blk bm .ro 112 [(1, [(.slice ma mn mn)])]).ok w.heap.size w) :
  Cs Tryz.prog 20 [(.pointer (some ⟨ob, 0, none⟩)), (.pointer (some ⟨bm, 0, none⟩)), (vu64 nd)].toArray w (fun v w1 => v = (.tuple [(.agg ⟨(List.replicate 32 (0 : UInt8)).map vu8⟩), (vi 2)].toArray) ∧ Chg w w1 []) := by
 refine Cs.of (n := 69) (args := [(pO ob 0), (pO bm 0), (vu64 nd)]) Tryz.func20 rfl rfl rfl ?_
 have h_0 := HP.init w
 have h_01 := h_0.oldV hcb rfl (by simp [Ent.mut])
 have h_00 := h_01.oldV hcm rfl (by simp [Ent.mut])
 refine WP.seq (WP.reg ?_)
 refine WL.alloc (segs := [(32, (zB 32).map vu8)]) h_00 (zv typeInfo23 rfl) rfl (sC (s8 lr) sN) rfl (fun b_1 w_2 h_3 => ?_)
 refine qA (vi 0) rfl rfl ?_
 refine WL.nil (thn_n (WP.seq (WP.seq (WP.reg ?_))))
 refine qM (pO ob 0) rfl rfl (qM (pO bm 0) rfl rfl (qM (vu64 nd) rfl rfl ?_))
 refine WL.call Tryz.call46 rfl rfl (c_askG_w id ob mp ms hms da dn dc u la ln lc bm ma mn (by omega) (by omega) 0 (by omega) nd hwn _ (h_3.argR M2) (h_3.argR M1)) rfl ?_
 rintro _ w_5 ⟨rfl, hc_4⟩
 have h_6 := h_3.same hc_4
 refine qA (vi 2) rfl rfl ?_
 refine WL.nil (thn_n (WP.seq (WP.reg ?_)))
 refine qM (vi 2) rfl rfl (qV rfl (R.bin rfl rfl (bi_neq (r := true) (by decide))) ?_)
 refine WL.nil (thn_n ?_)
 refine WP.condT rfl ?_
 refine WP.seq (WP.reg ?_)
 refine qV rfl (R.buildA (vs := []) (cs := (zB 32).map vu8) underlying23 sizeOf5 (zv typeInfo23 rfl) rfl rfl) (qM (vi 2) rfl rfl ?_)
 refine WL.storeA [] [(32, (zB 32).map vu8)] [(32, (zB 32).map vu8)] [] h_6 rfl rfl sizeOf23 At.h (by decide) rfl rfl rfl rfl rfl rfl (sC (s8 lr) sN) (fun w_7 h_8 => ?_)
 refine qA (vi 2) rfl rfl ?_
 refine WL.nil (thn_n (WP.ret (thn_r ?_)))
 refine ret_of results20 (RV.cell rfl (h_8.loadA (cs := (zB 32).map vu8) isAgg23 sizeOf23 M0 rfl rfl) (RV.tmp (v := (vi 2)) rfl RV.nil)) ?_
 exact ⟨rfl, h_8.chgS⟩

theorem c_AtW (bm : Nat) (ma : Option Addr) (mn : Nat) (hm : mn ≤ 100) (hm1 : 1 ≤ mn) (nd : UInt64) (hwn : wnB mn nd = false) (i : Int) (w : World) (hcm : (Ent.blk bm .ro 112 [(1, [(.slice ma mn mn)])]).ok w.heap.size w) :
  Cs Tryz.prog 21 [(.pointer (some ⟨bm, 0, none⟩)), (vu64 nd), (vi i)].toArray w (fun v w1 => v = (.tuple [(.agg ⟨(List.replicate 32 (0 : UInt8)).map vu8⟩), (vi 2)].toArray) ∧ Chg w w1 []) := by
 refine Cs.of (n := 31) (args := [(pO bm 0), (vu64 nd), (vi i)]) Tryz.func21 rfl rfl rfl ?_
 have h_0 := HP.init w
 have h_00 := h_0.old hcm (fun f hf => by cases hf)
 refine WP.seq (WP.reg ?_)
 refine WL.alloc (segs := [(32, (zB 32).map vu8)]) h_00 (zv typeInfo23 rfl) rfl (sC (s8 lr) sN) rfl (fun b_1 w_2 h_3 => ?_)
 refine qA (vi 0) rfl rfl ?_
 refine WL.nil (thn_n (WP.seq (WP.block (WP.seq (WP.reg ?_)))))
 refine qM (pO bm 0) rfl rfl ?_
 refine WL.call Tryz.call49 rfl rfl (c_gran bm ma mn _ (h_3.argR M1)) rfl ?_
 rintro _ w_5 ⟨rfl, hc_4⟩
 have h_6 := h_3.same hc_4
 refine qV rfl (R.bin rfl rfl (bi_eql (r := decide ((((mn : Nat) : Int) : Int) = 0)) rfl)) (qA (.bool (decide ((((mn : Nat) : Int) : Int) = 0))) rfl rfl ?_)
 refine WL.nil (thn_n ?_)
 refine WP.condF (congrArg Value.bool (decide_eq_false (by omega))) ?_
 refine WP.seq (WP.reg ?_)
 refine qM (pO bm 0) rfl rfl (qM (vu64 nd) rfl rfl ?_)
 refine WL.call Tryz.call23 rfl rfl (c_WithinB bm ma mn nd (by omega) _ (h_6.argR M1)) rfl ?_
 rintro _ w_8 ⟨rfl, hc_7⟩
 have h_9 := h_6.same hc_7
 refine qV rfl (R.not (b := false) (congrArg Value.bool hwn)) (qM (.bool true) rfl rfl ?_)
 refine WL.skip rfl rfl rfl ?_
 refine WL.skip rfl rfl rfl ?_
 refine qV rfl (R.pickT (v := (.bool true)) rfl rfl) (qM (.bool true) rfl rfl ?_)
 refine WL.skip rfl rfl rfl ?_
 refine WL.skip rfl rfl rfl ?_
 refine qV rfl (R.pickT (v := (.bool true)) rfl rfl) (qA (.bool true) rfl rfl ?_)
 refine WL.nil (thn_n ?_)
 refine WP.condT rfl ?_
 refine WP.seq (WP.reg ?_)
 refine qV rfl (R.buildA (vs := []) (cs := (zB 32).map vu8) underlying23 sizeOf5 (zv typeInfo23 rfl) rfl rfl) ?_
 refine WL.storeA [] [(32, (zB 32).map vu8)] [(32, (zB 32).map vu8)] [] h_9 rfl rfl sizeOf23 At.h (by decide) rfl rfl rfl rfl rfl rfl (sC (s8 lr) sN) (fun w_10 h_11 => ?_)
 refine qA (vi 2) rfl rfl ?_
 refine WL.nil (thn_n (WP.ret (inb_r (thn_r ?_))))
 refine ret_of results21 (RV.cell rfl (h_11.loadA (cs := (zB 32).map vu8) isAgg23 sizeOf23 M0 rfl rfl) (RV.tmp (v := (vi 2)) rfl RV.nil)) ?_
 exact ⟨rfl, h_11.chgS⟩

theorem c_Atlo (bm : Nat) (ma : Option Addr) (mn : Nat) (hm : mn ≤ 100) (hm1 : 1 ≤ mn) (nd : UInt64) (hwn : wnB mn nd = true) (i : Int) (hi : i < 2) (w : World) (hcm : (Ent.blk bm .ro 112 [(1, [(.slice ma mn mn)])]).ok w.heap.size w) :
  Cs Tryz.prog 21 [(.pointer (some ⟨bm, 0, none⟩)), (vu64 nd), (vi i)].toArray w (fun v w1 => v = (.tuple [(.agg ⟨(List.replicate 32 (0 : UInt8)).map vu8⟩), (vi 2)].toArray) ∧ Chg w w1 []) := by
 refine Cs.of (n := 31) (args := [(pO bm 0), (vu64 nd), (vi i)]) Tryz.func21 rfl rfl rfl ?_
 have h_0 := HP.init w
 have h_00 := h_0.old hcm (fun f hf => by cases hf)
 refine WP.seq (WP.reg ?_)
 refine WL.alloc (segs := [(32, (zB 32).map vu8)]) h_00 (zv typeInfo23 rfl) rfl (sC (s8 lr) sN) rfl (fun b_1 w_2 h_3 => ?_)
 refine qA (vi 0) rfl rfl ?_
 refine WL.nil (thn_n (WP.seq (WP.block (WP.seq (WP.reg ?_)))))
 refine qM (pO bm 0) rfl rfl ?_
 refine WL.call Tryz.call49 rfl rfl (c_gran bm ma mn _ (h_3.argR M1)) rfl ?_
 rintro _ w_5 ⟨rfl, hc_4⟩
 have h_6 := h_3.same hc_4
 refine qV rfl (R.bin rfl rfl (bi_eql (r := decide ((((mn : Nat) : Int) : Int) = 0)) rfl)) (qA (.bool (decide ((((mn : Nat) : Int) : Int) = 0))) rfl rfl ?_)
 refine WL.nil (thn_n ?_)
 refine WP.condF (congrArg Value.bool (decide_eq_false (by omega))) ?_
 refine WP.seq (WP.reg ?_)
 refine qM (pO bm 0) rfl rfl (qM (vu64 nd) rfl rfl ?_)
 refine WL.call Tryz.call23 rfl rfl (c_WithinB bm ma mn nd (by omega) _ (h_6.argR M1)) rfl ?_
 rintro _ w_8 ⟨rfl, hc_7⟩
 have h_9 := h_6.same hc_7
 refine qV rfl (R.not (b := true) (congrArg Value.bool hwn)) (qM (.bool false) rfl rfl ?_)
 refine WL.want rfl rfl ?_
 refine qM (vi i) rfl rfl ?_
 refine WL.want rfl rfl ?_
 refine qV rfl (R.bin rfl rfl (bi_lss (r := decide ((i : Int) < 2)) rfl)) (qV rfl (R.pickF (v := (.bool (decide ((i : Int) < 2)))) rfl rfl) (qM (.bool (decide ((i : Int) < 2))) rfl rfl ?_))
 refine WL.skip rfl (congrArg Value.bool (decide_eq_true (by omega))) rfl ?_
 refine WL.skip rfl (congrArg Value.bool (decide_eq_true (by omega))) rfl ?_
 refine qV rfl (R.pickT (v := (.bool true)) (congrArg Value.bool (decide_eq_true (by omega))) rfl) (qA (.bool true) rfl rfl ?_)
 refine WL.nil (thn_n ?_)
 refine WP.condT rfl ?_
 refine WP.seq (WP.reg ?_)
 refine qV rfl (R.buildA (vs := []) (cs := (zB 32).map vu8) underlying23 sizeOf5 (zv typeInfo23 rfl) rfl rfl) ?_
 refine WL.storeA [] [(32, (zB 32).map vu8)] [(32, (zB 32).map vu8)] [] h_9 rfl rfl sizeOf23 At.h (by decide) rfl rfl rfl rfl rfl rfl (sC (s8 lr) sN) (fun w_10 h_11 => ?_)
 refine qA (vi 2) rfl rfl ?_
 refine WL.nil (thn_n (WP.ret (inb_r (thn_r ?_))))
 refine ret_of results21 (RV.cell rfl (h_11.loadA (cs := (zB 32).map vu8) isAgg23 sizeOf23 M0 rfl rfl) (RV.tmp (v := (vi 2)) rfl RV.nil)) ?_
 exact ⟨rfl, h_11.chgS⟩

theorem c_Athi (bm : Nat) (ma : Option Addr) (mn : Nat) (hm : mn ≤ 100) (hm1 : 1 ≤ mn) (nd : UInt64) (hwn : wnB mn nd = true) (i : Int) (hi : 255 < i) (w : World) (hcm : (Ent.blk bm .ro 112 [(1, [(.slice ma mn mn)])]).ok w.heap.size w) :
  Cs Tryz.prog 21 [(.pointer (some ⟨bm, 0, none⟩)), (vu64 nd), (vi i)].toArray w (fun v w1 => v = (.tuple [(.agg ⟨(List.replicate 32 (0 : UInt8)).map vu8⟩), (vi 2)].toArray) ∧ Chg w w1 []) := by
 refine Cs.of (n := 31) (args := [(pO bm 0), (vu64 nd), (vi i)]) Tryz.func21 rfl rfl rfl ?_
 have h_0 := HP.init w
 have h_00 := h_0.old hcm (fun f hf => by cases hf)
 refine WP.seq (WP.reg ?_)
 refine WL.alloc (segs := [(32, (zB 32).map vu8)]) h_00 (zv typeInfo23 rfl) rfl (sC (s8 lr) sN) rfl (fun b_1 w_2 h_3 => ?_)
 refine qA (vi 0) rfl rfl ?_
 refine WL.nil (thn_n (WP.seq (WP.block (WP.seq (WP.reg ?_)))))
 refine qM (pO bm 0) rfl rfl ?_
 refine WL.call Tryz.call49 rfl rfl (c_gran bm ma mn _ (h_3.argR M1)) rfl ?_
 rintro _ w_5 ⟨rfl, hc_4⟩
 have h_6 := h_3.same hc_4
 refine qV rfl (R.bin rfl rfl (bi_eql (r := decide ((((mn : Nat) : Int) : Int) = 0)) rfl)) (qA (.bool (decide ((((mn : Nat) : Int) : Int) = 0))) rfl rfl ?_)
 refine WL.nil (thn_n ?_)
 refine WP.condF (congrArg Value.bool (decide_eq_false (by omega))) ?_
 refine WP.seq (WP.reg ?_)
 refine qM (pO bm 0) rfl rfl (qM (vu64 nd) rfl rfl ?_)
 refine WL.call Tryz.call23 rfl rfl (c_WithinB bm ma mn nd (by omega) _ (h_6.argR M1)) rfl ?_
 rintro _ w_8 ⟨rfl, hc_7⟩
 have h_9 := h_6.same hc_7
 refine qV rfl (R.not (b := true) (congrArg Value.bool hwn)) (qM (.bool false) rfl rfl ?_)
 refine WL.want rfl rfl ?_
 refine qM (vi i) rfl rfl ?_
 refine WL.want rfl rfl ?_
 refine qV rfl (R.bin rfl rfl (bi_lss (r := decide ((i : Int) < 2)) rfl)) (qV rfl (R.pickF (v := (.bool (decide ((i : Int) < 2)))) rfl rfl) (qM (.bool (decide ((i : Int) < 2))) rfl rfl ?_))
 refine WL.want rfl (congrArg Value.bool (decide_eq_false (by omega))) ?_
 refine qM (vi i) rfl rfl ?_
 refine WL.want rfl (congrArg Value.bool (decide_eq_false (by omega))) ?_
 refine qV rfl (R.bin rfl rfl (bi_gtr (r := decide ((i : Int) > 255)) rfl)) (qV rfl (R.pickF (v := (.bool (decide ((i : Int) > 255)))) (congrArg Value.bool (decide_eq_false (by omega))) rfl) (qA (.bool (decide ((i : Int) > 255))) rfl rfl ?_))
 refine WL.nil (thn_n ?_)
 refine WP.condT (congrArg Value.bool (decide_eq_true (by omega))) ?_
 refine WP.seq (WP.reg ?_)
 refine qV rfl (R.buildA (vs := []) (cs := (zB 32).map vu8) underlying23 sizeOf5 (zv typeInfo23 rfl) rfl rfl) ?_
 refine WL.storeA [] [(32, (zB 32).map vu8)] [(32, (zB 32).map vu8)] [] h_9 rfl rfl sizeOf23 At.h (by decide) rfl rfl rfl rfl rfl rfl (sC (s8 lr) sN) (fun w_10 h_11 => ?_)
 refine qA (vi 2) rfl rfl ?_
 refine WL.nil (thn_n (WP.ret (inb_r (thn_r ?_))))
 refine ret_of results21 (RV.cell rfl (h_11.loadA (cs := (zB 32).map vu8) isAgg23 sizeOf23 M0 rfl rfl) (RV.tmp (v := (vi 2)) rfl RV.nil)) ?_
 exact ⟨rfl, h_11.chgS⟩

theorem c_AtT (bm : Nat) (ma : Option Addr) (mn : Nat) (p i : Nat) (hw : p + 8192 ≤ 128 * mn) (hi : 2 ≤ i ∧ i ≤ 255) (hm1 : 1 ≤ mn) (hm : mn ≤ 100) (l : List UInt8) (hl : l.length = 128 * mn) (hwn : wnB mn (UInt64.ofNat p) = true) (w : World) (hcm : (Ent.blk bm .ro 112 [(1, [(.slice ma mn mn)])]).ok w.heap.size w) (hv : View w ma (l.map vu8)) :
  Cs Tryz.prog 21 [(.pointer (some ⟨bm, 0, none⟩)), (vu64 (UInt64.ofNat p)), (vi ((i : Nat) : Int))].toArray w (fun v w1 => v = (.tuple [(.agg ⟨((l.drop (p + 32 * i)).take 32).map vu8⟩), (vi 0)].toArray) ∧ Chg w w1 []) := by
 refine Cs.of (n := 31) (args := [(pO bm 0), (vu64 (UInt64.ofNat p)), (vn i)]) Tryz.func21 rfl rfl rfl ?_
 have h_0 := HP.init w
 have h_01 := h_0.oldV (View.arg hv) rfl (by simp [Ent.mut])
 have h_00 := h_01.oldV hcm rfl (by simp [Ent.mut])
 refine WP.seq (WP.reg ?_)
 refine WL.alloc (segs := [(32, (zB 32).map vu8)]) h_00 (zv typeInfo23 rfl) rfl (sC (s8 lr) sN) rfl (fun b_1 w_2 h_3 => ?_)
 refine qA (vi 0) rfl rfl ?_
 refine WL.nil (thn_n (WP.seq (WP.block (WP.seq (WP.reg ?_)))))
 refine qM (pO bm 0) rfl rfl ?_
 refine WL.call Tryz.call49 rfl rfl (c_gran bm ma mn _ (h_3.argR M1)) rfl ?_
 rintro _ w_5 ⟨rfl, hc_4⟩
 have h_6 := h_3.same hc_4
 refine qV rfl (R.bin rfl rfl (bi_eql (r := decide ((((mn : Nat) : Int) : Int) = 0)) rfl)) (qA (.bool (decide ((((mn : Nat) : Int) : Int) = 0))) rfl rfl ?_)
 refine WL.nil (thn_n ?_)
 refine WP.condF (congrArg Value.bool (decide_eq_false (by omega))) ?_
 refine WP.seq (WP.reg ?_)
 refine qM (pO bm 0) rfl rfl (qM (vu64 (UInt64.ofNat p)) rfl rfl ?_)
 refine WL.call Tryz.call23 rfl rfl (c_WithinB bm ma mn (UInt64.ofNat p) (by omega) _ (h_6.argR M1)) rfl ?_
 rintro _ w_8 ⟨rfl, hc_7⟩
 have h_9 := h_6.same hc_7
 refine qV rfl (R.not (b := true) (congrArg Value.bool hwn)) (qM (.bool false) rfl rfl ?_)
 refine WL.want rfl rfl ?_
 refine qM (vn i) rfl rfl ?_
 refine WL.want rfl rfl ?_
 refine qV rfl (R.bin rfl rfl (bi_lss (r := decide ((((i : Nat) : Int) : Int) < 2)) rfl)) (qV rfl (R.pickF (v := (.bool (decide ((((i : Nat) : Int) : Int) < 2)))) rfl rfl) (qM (.bool (decide ((((i : Nat) : Int) : Int) < 2))) rfl rfl ?_))
 refine WL.want rfl (congrArg Value.bool (decide_eq_false (by omega))) ?_
 refine qM (vn i) rfl rfl ?_
 refine WL.want rfl (congrArg Value.bool (decide_eq_false (by omega))) ?_
 refine qV rfl (R.bin rfl rfl (bi_gtr (r := decide ((((i : Nat) : Int) : Int) > 255)) rfl)) (qV rfl (R.pickF (v := (.bool (decide ((((i : Nat) : Int) : Int) > 255)))) (congrArg Value.bool (decide_eq_false (by omega))) rfl) (qA (.bool (decide ((((i : Nat) : Int) : Int) > 255))) rfl rfl ?_))
 refine WL.nil (thn_n ?_)
 refine WP.condF (congrArg Value.bool (decide_eq_false (by omega))) ?_
 refine WP.skip (inb_n (thn_n (WP.seq (WP.reg ?_))))
 refine qM (pO bm 0) rfl rfl (qM (vu64 (UInt64.ofNat p)) rfl rfl (qM (vn i) rfl rfl ?_))
 refine WL.call Tryz.call50 rfl rfl (c_at bm ma mn p i (by omega) (by omega) (by omega) l hl _ (h_9.argR M1) (viewV (h_9.ok _ M2))) rfl ?_
 rintro _ w_11 ⟨rfl, hc_10⟩
 have h_12 := h_9.same hc_10
 refine WL.storeA [] [(32, (zB 32).map vu8)] [(32, ((l.drop (p + 32 * i)).take 32).map vu8)] [] h_12 rfl rfl sizeOf23 At.h (by decide) rfl rfl rfl rfl rfl rfl (sC (s8 (subLen (K := 128 * mn) hl (by omega) : List.length ((l.drop (p + 32 * i)).take 32) = 32)) sN) (fun w_13 h_14 => ?_)
 refine qA (vi 0) rfl rfl ?_
 refine WL.nil (thn_n (WP.ret ?_))
 refine ret_of results21 (RV.cell rfl (h_14.loadA (cs := ((l.drop (p + 32 * i)).take 32).map vu8) isAgg23 sizeOf23 M0 rfl rfl) (RV.tmp (v := (vi 0)) rfl RV.nil)) ?_
 exact ⟨rfl, h_14.chgS⟩
end Go.Proofs.YtbhllplbbkmndaaGreat
