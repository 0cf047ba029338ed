/- Rules for walks and contracts of the functions that the law reaches, one behind the other. Conditions: none beyond what each theorem states. -/
import Derived.Test.YtnhppjimimhlkaaZ3AttestIssues
set_option linter.unusedVariables false
set_option linter.unusedSimpArgs false
set_option linter.unusedSectionVars false
namespace Go.Orc
open Go.Vc Go.RowKit
theorem Lgs.lt {w : World} {xs : List Value} {l : Lg} (h : Lgs w xs l) : ∀ b ∈ sblks xs, b < w.heap.size := by
  induction h with
  | nil => intro b hb; cases hb
  | @snoc a n c q d xs l r hq hd hl hc hv ih =>
    intro b hb
    rw [sblks_append] at hb
    rcases List.mem_append.1 hb with hb | hb
    · exact ih b hb
    · refine sblk_lt (c := c) hl hv b ?_
      simp only [aC, flat, sblks_append, List.mem_append] at hb
      rcases hb with hb | hb | hb | hb | hb
      · simp [sblks, sblk] at hb
      · exact absurd hb (sblks_u8 _ _)
      · simp [sblks, sblk] at hb
      · simpa [sblks] using hb
      · exact absurd hb (sblks_u8 _ _)
theorem Lgs.same {w w' : World} {xs : List Value} {l : Lg} (h : Lgs w xs l) (hs : ∀ b ∈ sblks xs, w'.heap[b]? = w.heap[b]?) : Lgs w' xs l := by
  induction h with
  | nil => exact .nil
  | @snoc a n c q d xs l r hq hd hl hc hv ih =>
    refine .snoc (ih fun b hb => hs b (by rw [sblks_append]; exact List.mem_append.2 (.inl hb))) hq hd hl hc (sblk_view (c := c) hl hv fun b hb => hs b ?_)
    rw [sblks_append]
    refine List.mem_append.2 (.inr ?_)
    simp only [aC, flat, sblks_append]
    exact List.mem_append.2 (.inr (List.mem_append.2 (.inr (List.mem_append.2 (.inr (List.mem_append.2 (.inl (by simpa [sblks] using hb))))))))
theorem Lgs.pin {B : Nat} {w : World} {xs : List Value} {l : Lg} (h : Lgs w xs l) : (Ent.pin (sblks xs) (fun w => Lgs w xs l)).ok B w := ⟨h, h.lt, fun _ hs => h.same hs⟩
section
variable {w w' w0 : World} {L : List Ent}
theorem HP_logPush {xs : List Value} {l : Lg} {a : Option Addr} {n c : Nat} {E : TypeId} {q : Qn} {d : List UInt8} (h : HP w0 w (.row a n c E 1 (q.2.2.2.map vu8) :: .pin (sblks xs) (fun w => Lgs w xs l) :: L)) (hq : okQ q) (hd : d.length = 32) (hl : q.2.2.2.length = n) :
    HP w0 w (.pin (sblks (xs ++ aC q (.slice a n c) d)) (fun w => Lgs w (xs ++ aC q (.slice a n c) d) (l ++ [(q, d)])) :: .view a (q.2.2.2.map vu8) :: .pin (sblks xs) (fun w => Lgs w xs l) :: L) := by
  have hcap := (h.own (List.mem_cons_self ..)).2.2.1
  have h1 := h.rowView
  have hm1 : Ent.pin (sblks xs) (fun w => Lgs w xs l) ∈ (.view a (q.2.2.2.map vu8) :: .pin (sblks xs) (fun w => Lgs w xs l) :: L) := List.mem_cons_of_mem _ (List.mem_cons_self ..)
  have hm2 : Ent.view a (q.2.2.2.map vu8) ∈ (.view a (q.2.2.2.map vu8) :: .pin (sblks xs) (fun w => Lgs w xs l) :: L) := List.mem_cons_self ..
  have hs : Lgs w xs l := (h1.ok _ hm1).1
  have hv := viewV (h1.ok _ hm2)
  refine h1.within2 hm1 hm2 rfl rfl (Lgs.pin (.snoc hs hq hd hl hcap hv)) rfl rfl fun b hb => ?_
  simp only [Ent.blocks] at hb
  rw [sblks_append] at hb
  rcases List.mem_append.1 hb with hb | hb
  · exact .inl hb
  · right
    simp only [aC, flat, sblks_append, List.mem_append] at hb
    rcases hb with hb | hb | hb | hb | hb
    · simp [sblks, sblk] at hb
    · exact absurd hb (sblks_u8 _ _)
    · simp [sblks, sblk] at hb
    · have hb' : b ∈ sblk (.slice a n c) := by simpa [sblks] using hb
      exact sblk_in_view hl b hb'
    · exact absurd hb (sblks_u8 _ _)
theorem HP_logNil (h : HP w0 w L) : HP w0 w (.pin (sblks []) (fun w => Lgs w [] []) :: L) := h.add (Lgs.pin .nil) rfl fun f _ _ b hb _ => by cases hb
end
theorem aC_drop {q : Qn} {s : Value} {d : List UInt8} (h : q.2.1.length = 32) : (aC q s d).drop 35 = d.map vu8 := by
  have e : aC q s d = ([vi q.1] ++ (q.2.1.map vu8 ++ ([vi q.2.2.1] ++ [s]))) ++ d.map vu8 := by simp [aC, flat]
  rw [e, List.drop_append_of_le_length (by simp [h])]
  simp [h]
theorem Lgs.ans {w : World} {xs : List Value} {l : Lg} (h : Lgs w xs l) {i : Nat} {z : Qn × List UInt8} (hi : i < l.length) : (xs.drop (i * 67 + 35)).take 32 = (l.getD i z).2.map vu8 ∧ (l.getD i z).2.length = 32 := by
  obtain ⟨a, n, c, h1, h2, _⟩ := h.get hi
  have hq := h.ok (l[i]) (List.getElem_mem hi)
  have e : l.getD i z = l[i] := by simp [hi]
  rw [e]
  refine ⟨?_, h2⟩
  have h3 := congrArg (fun x => x.drop 35) h1
  change ((xs.drop (67 * i)).take 67).drop 35 = (aC _ _ _).drop 35 at h3
  rw [aC_drop hq.1, List.drop_take, List.drop_drop, show 67 * i + 35 = i * 67 + 35 by omega, show 67 - 35 = 32 from rfl] at h3
  exact h3
theorem fill_1 {s : Nat} {z : Array Value} {zc cs : List Value} (hz : z = ⟨zc⟩) (ok : SsOk [(s, zc)]) (okc : SsOk [(s, cs)]) : Instr.fill (fun i => some (i * s, s)) z [(0, .agg ⟨cs⟩)] = some ⟨cs⟩ := by
  subst hz
  exact (fill_of (pl := fun i => some (i * s, s)) (segs := [(s, zc)]) (parts := [(0, .agg ⟨cs⟩)]) (out := [(s, cs)]) (FillR.cons [] [(s, zc)] [(s, cs)] [] (by rw [Nat.zero_mul]; rfl) rfl rfl rfl okc rfl rfl rfl FillR.nil) ok).1
theorem aC_ok {q : Qn} {s : Value} {d : List UInt8} (h : q.2.1.length = 32) (hd : d.length = 32) (hs : s.oneCell' = true) : SsOk [(67, aC q s d)] := by
  refine SsOk.cons ⟨aC_len h hd, fun v hv => ?_⟩ SsOk.nil
  exact SsOk.one (SsOk.cons (SOk.v rfl) (SsOk.cons (SOk.u8 h) (SsOk.cons (SOk.v rfl) (SsOk.cons (SOk.v hs) (SsOk.cons (SOk.u8 hd) SsOk.nil))))) v hv
def drawF (df : List UInt8) (dn n : Nat) : List UInt8 := if n < dn then (df.drop (n * 32)).take 32 else leN 8 n ++ (List.replicate 23 0 ++ [1])
theorem drawF_len {df : List UInt8} {dn n : Nat} (h : df.length = 32 * dn) : (drawF df dn n).length = 32 := by
  rw [drawF]; split
  · rw [List.length_take, List.length_drop]; omega
  · simp [leN_len]
def ansD (df : List UInt8) (dn u : Nat) (l : Lg) (q : Qn) : List UInt8 := match fdq q l 0 with
  | some i => (l.getD i (q, [])).2
  | none => drawF df dn u
def ansU (u : Nat) (l : Lg) (q : Qn) : Nat := match fdq q l 0 with
  | some _ => u
  | none => u + 1
def ansL (df : List UInt8) (dn u : Nat) (l : Lg) (q : Qn) : Lg := match fdq q l 0 with
  | some _ => l
  | none => l ++ [(q, drawF df dn u)]
section
variable {df : List UInt8} {dn u : Nat} {l : Lg} {q : Qn} {i : Nat}
end
end Go.Orc
namespace Go.Orc
open Go.Vc Go.RowKit
theorem draw_tail {u : Nat} (h : u < 18446744073709551616) : ((leN 8 (UInt64.ofNat u).toNat) ++ (List.replicate 32 (0 : UInt8)).drop 8).set 31 1 = leN 8 u ++ (List.replicate 23 0 ++ [1]) := by
  have e : (UInt64.ofNat u).toNat = u := by simp; omega
  have hl := leN_len 8 u
  rw [e, List.set_append, if_neg (by omega), hl]
  congr 1
theorem log_hit {P : Program} {K : TypeId} {m h i : Nat} {q : Qn} {l : Lg} (hk : P.keyTypeAt m K = true) (hm : Nat.ble m 10000 = true) (hu : aggB P K = true) (hT : ∀ q, okQ q → Typ P h K (kC q)) (hq : okQ q) (hl : ∀ p ∈ l, okQ p.1) (hf : fdq q l 0 = some i) :
    Fk P K (.agg ⟨kC q⟩) (mArr l).toList (some (i, vi (i : Int))) := by
  have := log_find hk hm hu hT hq hl
  rwa [hf] at this
theorem log_miss {P : Program} {K : TypeId} {m h : Nat} {q : Qn} {l : Lg} (hk : P.keyTypeAt m K = true) (hm : Nat.ble m 10000 = true) (hu : aggB P K = true) (hT : ∀ q, okQ q → Typ P h K (kC q)) (hq : okQ q) (hl : ∀ p ∈ l, okQ p.1) (hf : fdq q l 0 = none) :
    Fk P K (.agg ⟨kC q⟩) (mArr l).toList none := by
  have := log_find hk hm hu hT hq hl
  rwa [hf] at this
theorem snoc_len {l : Lg} {p : Qn × List UInt8} : (l ++ [p]).length = l.length + 1 := by simp
end Go.Orc
namespace Go.Orc
open Go.Vc Go.RowKit
section
variable {w w' w0 : World} {L : List Ent}
theorem HP_viewNil (h : HP w0 w L) : HP w0 w (.view none (([] : List UInt8).map vu8) :: L) :=
  h.add ⟨View.nil _ _, fun ad h => by cases h⟩ rfl fun f _ _ b hb _ => by simp [Ent.blocks] at hb
end
def sS (df : List UInt8) (dn : Nat) (key : List UInt8) (dm : Int) (data : List UInt8) (u : Nat) (lg : Lg) : Nat → Nat × Lg × List UInt8
  | 0 => (u, lg, [])
  | k + 1 => (ansU (sS df dn key dm data u lg k).1 (sS df dn key dm data u lg k).2.1 (4, key, dm, data ++ leN 8 k), ansL df dn (sS df dn key dm data u lg k).1 (sS df dn key dm data u lg k).2.1 (4, key, dm, data ++ leN 8 k), (sS df dn key dm data u lg k).2.2 ++ ansD df dn (sS df dn key dm data u lg k).1 (sS df dn key dm data u lg k).2.1 (4, key, dm, data ++ leN 8 k))
def ok32 (l : Lg) : Prop := ∀ p ∈ l, p.2.length = 32
theorem Lgs.ok32 {w : World} {xs : List Value} {l : Lg} (h : Lgs w xs l) : ok32 l := by
  induction h with
  | nil => intro p hp; cases hp
  | snoc r hq hd hl hc hv ih =>
    intro p hp
    rcases List.mem_append.1 hp with hp | hp
    · exact ih p hp
    · rw [List.mem_singleton] at hp; subst hp; exact hd
section
variable {df : List UInt8} {dn : Nat} {key : List UInt8} {dm : Int} {data : List UInt8} {u : Nat} {lg : Lg}
end
end Go.Orc

namespace Go.Orc
open Go.Vc
def gx (a b : List UInt8) : List UInt8 := List.zipWith (fun x y => x ^^^ y) a b
def pcB (pg : Nat) (ct : UInt64) : List UInt8 := [leN 8 (UInt64.ofNat pg).toNat, leN 8 ct.toNat].flatten
def onesL (x : UInt8) : List UInt8 := List.replicate 32 x
end Go.Orc

namespace Go.Proofs.Ytnhppjimimhlkaa
open Go.Vc Go.Orc Go.Sh Go.RowKit
set_option maxRecDepth 20000
theorem el24 : ElT Try.prog 24 23 32 32 := ElT.mk' Try.underlying24 (i := Try.t23) rfl rfl rfl rfl rfl rfl
theorem c_oword (x : UInt64) (w : World) :
  Cs Try.prog 107 [(vu64 x)].toArray w (fun v w1 => ∃ a cap, v = .slice a 8 cap ∧ Chg w w1 [] ∧ Own w.heap.size w1 5 1 a 8 cap ((leN 8 x.toNat).map vu8)) := by
 refine Cs.of (n := 11) (args := [(vu64 x)]) Try.func107 rfl rfl rfl ?_
 have h_0 := HP.init w
 refine WP.seq (WP.reg ?_)
 refine qA (.slice none 0 0) rfl rfl ?_
 refine WL.nil (thn_n (WP.seq (WP.reg ?_)))
 refine qM (vu64 x) rfl rfl ?_
 refine WL.call Try.call76 rfl rfl (c_Put_b x 8 rfl _) rfl ?_
 rintro _ w_3 ⟨a_1, cap_2, rfl, hc_4, ho_5⟩
 have h_6 := h_0.gotRow hc_4 ho_5
 refine qM (.tuple [(.slice a_1 8 cap_2), (vi 0)].toArray) rfl rfl (qV rfl (R.extract rfl rfl) (qV rfl (R.extract rfl rfl) (qA (.slice a_1 8 cap_2) rfl rfl (qA (vi 0) rfl rfl ?_))))
 refine WL.nil (thn_n (WP.seq (WP.reg ?_)))
 refine qM (.slice a_1 8 cap_2) rfl rfl (qA (.slice a_1 8 cap_2) rfl rfl ?_)
 refine WL.nil (thn_n (WP.ret ?_))
 refine ret_of Try.results107 (RV.tmp (v := (.slice a_1 8 cap_2)) rfl RV.nil) ?_
 exact ⟨_, _, rfl, h_6.chgS, h_6.ok _ M0⟩

theorem c_CloneD (a : Option Addr) (n cap : Nat) (df : List UInt8) (hl : df.length = 32 * n) (hn : n ≤ 1000000000) (w : World) (hv : View w a (df.map vu8)) :
  Cs Try.prog 50 [(.slice a n cap)].toArray w (fun v w1 => ∃ a cap, v = .slice a n cap ∧ Chg w w1 [] ∧ Own w.heap.size w1 23 32 a n cap (df.map vu8)) := by
 refine Cs.of (n := 8) (args := [(.slice a n cap)]) Try.func50 rfl rfl rfl ?_
 have h_0 := HP.init w
 have h_00 := h_0.old (View.arg hv) (fun f hf => by cases hf)
 refine WP.seq (WP.reg ?_)
 refine qA (.slice none 0 0) rfl rfl ?_
 refine WL.nil (thn_n (WP.seq (WP.seq (WP.reg ?_))))
 refine qM (.slice a n cap) rfl rfl (qV rfl (R.eqNilS rfl rfl Try.underlying24) ?_)
 refine WL.nil (thn_n ?_)
 refine WP.cond (b := a.isNone) rfl (fun c_1 => ?_) (fun c_1 => ?_)
 ·refine WP.seq (WP.reg ?_)
  refine qA (.slice none 0 0) rfl rfl ?_
  refine WL.nil (thn_n (WP.ret (thn_r ?_)))
  refine ret_of Try.results50 (RV.tmp (v := (.slice none 0 0)) rfl RV.nil) ?_
  obtain rfl : df = [] := view_none c_1 hv
  obtain rfl : n = 0 := by simp at hl; omega
  exact ⟨none, 0, rfl, h_00.chgS, Own.nil ..⟩
 ·refine WP.skip (thn_n (WP.seq (WP.reg ?_)))
  refine WL.buildSl0 h_00 Try.underlying24 Try.sizeOf23 rfl (fun b_2 w_3 h_4 => ?_)
  refine qM (.slice a n cap) rfl rfl ?_
  refine WL.append (km := n) (xs := []) (ys := df.map vu8) (zs := df.map vu8) h_4 rfl rfl el24 (viewV (h_4.ok _ M1)) ((len_map hl).trans (by omega)) (one_u8 _) rfl (by omega) (by omega) (by omega) (fun _ _ => At.h) rfl (fun a_5 c_6 w_7 h_8 => ?_)
  refine qA (.slice a_5 n c_6) rfl rfl ?_
  refine WL.nil (thn_n (WP.ret ?_))
  refine ret_of Try.results50 (RV.tmp (v := (.slice a_5 n c_6)) rfl RV.nil) ?_
  exact ⟨_, _, rfl, h_8.chgS, h_8.ok _ M0⟩

theorem c_draw {w00 : World} {L : List Ent} (id : Bool) (ob mp : Nat) (ms df : List UInt8) (hms : ms.length = 32) (da : Option Addr) (dn dc u : Nat) (hdf : df.length = 32 * dn) (la : Option Addr) (lc : Nat) (lx : List Value) (lg : Lg) (hu : u ≤ 1000000) (hlg : lg.length ≤ 1000000) (w : World) (h_0 : HP w00 w (Ent.blk ob .nw 50 [(1, [(.bool id)]), (32, ms.map vu8), (1, [(.slice da dn dc)]), (1, [(vi ((u : Nat) : Int))]), (1, [(.map (some mp))]), (1, [(.slice la lg.length lc)])] :: Ent.view da (df.map vu8) :: L)) :
  Cs Try.prog 96 [(.pointer (some ⟨ob, 0, none⟩))].toArray w (fun v w1 => v = (.agg ⟨(drawF df dn u).map vu8⟩) ∧ HP w00 w1 (Ent.blk ob .nw 50 [(1, [(.bool id)]), (32, ms.map vu8), (1, [(.slice da dn dc)]), (1, [(vi (((u + 1) : Nat) : Int))]), (1, [(.map (some mp))]), (1, [(.slice la lg.length lc)])] :: Ent.view da (df.map vu8) :: L)) := by
 refine Cs.of (n := 37) (args := [(pO ob 0)]) Try.func96 rfl rfl rfl ?_
 refine WP.seq (WP.reg ?_)
 refine WL.alloc (segs := [(32, (List.replicate 32 (0 : UInt8)).map vu8)]) h_0 (zv Try.typeInfo23 rfl) rfl (SsOk.cons (SOk.u8 lr) SsOk.nil) rfl (fun b_1 w_2 h_3 => ?_)
 refine WL.nil (thn_n (WP.seq (WP.reg ?_)))
 refine qM (pO ob 0) rfl rfl (qV rfl (R.nilCheck rfl) (qV rfl (R.fieldAddr (b := ob) (off := 0) (off' := 34) rfl Try.underlying50 rfl Try.sizeOf3 rfl rfl) (qV rfl (R.load1 (b := ob) (off := 34) (v := (vn u)) rfl Try.isAgg3 (h_3.ok _ M1) (Sg.t rfl (Sg.t rfl (Sg.t rfl Sg.h)))) (qA (vn u) rfl rfl ?_))))
 refine WL.nil (thn_n (WP.seq (WP.reg ?_)))
 refine qM (pO ob 0) rfl rfl (qV rfl (R.nilCheck rfl) (qV rfl (R.fieldAddr (b := ob) (off := 0) (off' := 34) rfl Try.underlying50 rfl Try.sizeOf3 rfl rfl) (qV rfl (R.load1 (b := ob) (off := 34) (v := (vn u)) rfl Try.isAgg3 (h_3.ok _ M1) (Sg.t rfl (Sg.t rfl (Sg.t rfl Sg.h)))) (qV rfl (R.bin rfl rfl (bi_add (c := ((u + 1 : Nat) : Int)) (by omega) (by omega))) (qV rfl (R.nilCheck rfl) (qV rfl (R.fieldAddr (b := ob) (off := 0) (off' := 34) rfl Try.underlying50 rfl Try.sizeOf3 rfl rfl) ?_))))))
 refine WL.store1 (b := ob) (off := 34) (v := (vn (u + 1))) h_3 rfl rfl Try.sizeOf3 rfl Y1 (by decide) (Sg.t rfl (Sg.t rfl (Sg.t rfl Sg.h))) (fun w_4 h_5 => ?_)
 refine WL.nil (thn_n (WP.seq (WP.seq (WP.reg ?_))))
 refine qM (vn u) rfl rfl (qM (pO ob 0) rfl rfl (qV rfl (R.nilCheck rfl) (qV rfl (R.fieldAddr (b := ob) (off := 0) (off' := 33) rfl Try.underlying50 rfl Try.sizeOf24 rfl rfl) (qV rfl (R.load1 (b := ob) (off := 33) (v := (.slice da dn dc)) rfl Try.isAgg24 (h_5.ok _ M1) (Sg.t rfl (Sg.t rfl Sg.h))) (qV rfl (R.lenS (a := da) (m := dn) rfl rfl Try.underlying24) (qV rfl (R.bin rfl rfl (bi_lss (r := decide ((((u : Nat) : Int) : Int) < ((dn : Nat) : Int))) rfl)) ?_))))))
 refine WL.nil (thn_n ?_)
 refine WP.cond (b := decide ((((u : Nat) : Int) : Int) < ((dn : Nat) : Int))) rfl (fun c_6 => ?_) (fun c_6 => ?_)
 ·have p_7 := of_decide_eq_true c_6
  refine WP.seq (WP.reg ?_)
  refine qM (pO ob 0) rfl rfl (qV rfl (R.nilCheck rfl) (qV rfl (R.fieldAddr (b := ob) (off := 0) (off' := 33) rfl Try.underlying50 rfl Try.sizeOf24 rfl rfl) (qV rfl (R.load1 (b := ob) (off := 33) (v := (.slice da dn dc)) rfl Try.isAgg24 (h_5.ok _ M1) (Sg.t rfl (Sg.t rfl Sg.h))) (qM (vn u) rfl rfl (qV rfl (R.indexS (a := da) (i := u) (off := u * 32) (xs := df.map vu8) rfl rfl rfl (by omega) (viewV (h_5.ok _ M2)) (lt_len (K := 32 * dn) (len_map hdf) (by omega)) Try.underlying24 Try.sizeOf23 rfl) (qV rfl (R.loadGA (a := da) (i := u * 32) (xs := df.map vu8) (cs := (((df).drop (u * 32)).take 32).map vu8) rfl (viewV (h_5.ok _ M2)) Try.isAgg23 Try.sizeOf23 (by rw [List.map_take, List.map_drop]) (len_map (subLen (K := 32 * dn) hdf (by omega) : List.length (((df).drop (u * 32)).take 32) = 32)) (by decide)) ?_))))))
  refine WL.storeA (b := b_1) (off := 0) [] [(32, (List.replicate 32 (0 : UInt8)).map vu8)] [(32, (((df).drop (u * 32)).take 32).map vu8)] [] (ys := (((df).drop (u * 32)).take 32).map vu8) h_5 rfl rfl Try.sizeOf23 At.h (by decide) rfl rfl rfl rfl rfl rfl (SsOk.cons (SOk.u8 (subLen (K := 32 * dn) hdf (by omega) : List.length (((df).drop (u * 32)).take 32) = 32)) SsOk.nil) (fun w_8 h_9 => ?_)
  refine WL.nil (thn_n (WP.ret (thn_r ?_)))
  refine ret_of Try.results96 (RV.cell rfl (h_9.loadA (cs := (((df).drop (u * 32)).take 32).map vu8) Try.isAgg23 Try.sizeOf23 M0 rfl rfl) RV.nil) ?_
  have h_12 := ((h_9.drop rfl).up J1).up J1
  exact ⟨by rw [drawF, if_pos (by omega)]; rfl, h_12⟩
 ·have p_13 := of_decide_eq_false c_6
  refine WP.skip (thn_n (WP.seq (WP.reg ?_)))
  refine WL.alloc (segs := [(32, (List.replicate 32 (0 : UInt8)).map vu8)]) h_5 (zv Try.typeInfo23 rfl) rfl (SsOk.cons (SOk.u8 lr) SsOk.nil) rfl (fun b_14 w_15 h_16 => ?_)
  refine WL.nil (thn_n (WP.seq ?_))
  refine WP.drawT (SL w00.heap.size [.blk b_1 .nw 23 [(32, (List.replicate 32 (0 : UInt8)).map vu8)], .blk ob .nw 50 [(1, [(.bool id)]), (32, ms.map vu8), (1, [(.slice da dn dc)]), (1, [(vn (u + 1))]), (1, [(.map (some mp))]), (1, [(.slice la lg.length lc)])], .view da (df.map vu8)]) (.q 0 (.q 1 (.q 2 (.s 3 (.s 4 .nil))))) (by kernel_rfl) (by kernel_rfl) rfl (by kernel_rfl) (fun w_17 hc_19 => (SL.cons ((h_16.same hc_19).ok _ M1) (SL.cons ((h_16.same hc_19).ok _ M2) (SL.cons ((h_16.same hc_19).ok _ M3) (SL.nil _ _))))) (fun w_17 hc_19 => ?_)
  have h_18 := h_16.same hc_19
  refine qT rfl rfl (fun wq hS => R.sliceA (b := b_14) (off := 0) (off' := 0) (l := 0) (h := 32) rfl EvB.dflt EvB.dflt (by decide) (by decide) Try.underlying23 Try.sizeOf5 rfl) ?_
  refine qT rfl rfl (fun wq hS => R.move (v := (vn u)) rfl) ?_
  refine qT rfl rfl (fun wq hS => R.conv (b := ((UInt64.ofNat u) : UInt64).toNat) rfl Try.underlying3 Try.underlying28 (w64_nat u)) ?_
  refine WT.s (Op1.one rfl (Wn.no rfl) ?_)
  refine WL.call Try.call107 rfl rfl (c_oword (UInt64.ofNat u) _) rfl ?_
  rintro _ w_22 ⟨a_20, cap_21, rfl, hc_23, ho_24⟩
  have h_25 := h_18.gotRow hc_23 ho_24
  refine WL.nil ?_
  refine ⟨(SL.cons (h_25.ok _ M2) (SL.cons (h_25.ok _ M3) (SL.cons (h_25.ok _ M4) (SL.nil _ _)))), ?_⟩
  refine WT.s (Op1.one rfl (Wn.no rfl) ?_)
  refine WL.copy (q := 8) (i := 0) (ys := (leN 8 (UInt64.ofNat u).toNat).map vu8) (cs' := ((leN 8 (UInt64.ofNat u).toNat) ++ (List.replicate 32 (0 : UInt8)).drop 8).map vu8) h_25 rfl rfl Try.underlying37 Try.sizeOf5 (ownView (h_25.ok _ M0)) (len_map (leN_len ..)) (one_u8 _) Y1 (by decide) Sg.h rfl (by decide) (by rw [len_map lr]; decide) (cpPre (leN_len ..)) rfl (fun w_26 h_27 => ?_)
  refine WL.nil ?_
  refine ⟨(SL.cons (h_27.ok _ M2) (SL.cons (h_27.ok _ M3) (SL.cons (h_27.ok _ M4) (SL.nil _ _)))), ?_⟩
  refine WT.nil (thn_n (WP.seq (WP.reg ?_)))
  refine qV rfl (R.indexA (b := b_14) (off := 0) (off' := 31) (i := 31) rfl rfl rfl (by decide) Try.underlying23 Try.sizeOf5 rfl) ?_
  refine WL.storeE (b := b_14) (off := 31) (i := 31) (v := (vu8 1)) (cs' := (((leN 8 (UInt64.ofNat u).toNat) ++ (List.replicate 32 (0 : UInt8)).drop 8).set 31 1).map vu8) h_27 rfl rfl Try.sizeOf5 rfl Y1 (by decide) Sg.h rfl (lt_len (K := 32) (len_map (cpLen (leN_len ..) lr (by decide))) (by decide)) (set_u8 _ _ _) (fun w_28 h_29 => ?_)
  refine WL.nil (thn_n (WP.seq (WP.reg ?_)))
  refine qV rfl (R.loadA (b := b_14) (off := 0) [] [(32, (((leN 8 (UInt64.ofNat u).toNat) ++ (List.replicate 32 (0 : UInt8)).drop 8).set 31 1).map vu8)] [] (cs := (((leN 8 (UInt64.ofNat u).toNat) ++ (List.replicate 32 (0 : UInt8)).drop 8).set 31 1).map vu8) rfl Try.isAgg23 Try.sizeOf23 (h_29.ok _ M1) rfl rfl rfl rfl) ?_
  refine WL.storeA (b := b_1) (off := 0) [] [(32, (List.replicate 32 (0 : UInt8)).map vu8)] [(32, (((leN 8 (UInt64.ofNat u).toNat) ++ (List.replicate 32 (0 : UInt8)).drop 8).set 31 1).map vu8)] [] (ys := (((leN 8 (UInt64.ofNat u).toNat) ++ (List.replicate 32 (0 : UInt8)).drop 8).set 31 1).map vu8) h_29 rfl rfl Try.sizeOf23 Y2 (by decide) rfl rfl rfl rfl rfl rfl (SsOk.cons (SOk.u8 (len_set (cpLen (leN_len ..) lr (by decide)) _ _)) SsOk.nil) (fun w_30 h_31 => ?_)
  refine WL.nil (thn_n (WP.ret ?_))
  refine ret_of Try.results96 (RV.cell rfl (h_31.loadA (cs := (((leN 8 (UInt64.ofNat u).toNat) ++ (List.replicate 32 (0 : UInt8)).drop 8).set 31 1).map vu8) Try.isAgg23 Try.sizeOf23 M2 rfl rfl) RV.nil) ?_
  have h_36 := ((((h_31.drop rfl).drop rfl).drop rfl).up J1).up J1
  exact ⟨by rw [drawF, if_neg (by omega), ← draw_tail (by omega)]; rfl, h_36⟩
end Go.Proofs.Ytnhppjimimhlkaa

namespace Go.Orc
open Go.Vc Go.RowKit
section
variable {w w' w0 : World} {L : List Ent}
end
end Go.Orc

namespace Go.Orc
open Go.Vc Go.RowKit
end Go.Orc
namespace Go.Orc
open Go.Vc Go.RowKit
end Go.Orc
namespace Go.Orc
open Go.Vc Go.RowKit
end Go.Orc

namespace Go.Orc
open Go.Vc Go.RowKit
def i2u8 (x : Int) : UInt8 := UInt8.ofNat x.toNat
theorem i2u8_w {x : Int} (h : 0 ≤ x) : IntKind.u8.wrap x = ((i2u8 x).toNat : Int) := by
  obtain ⟨n, rfl⟩ := Int.eq_ofNat_of_zero_le h
  rw [w8_nat, i2u8]; rfl
def cT (q : Qn) : List UInt8 := ([i2u8 q.1] ++ q.2.1) ++ [i2u8 q.2.2.1] ++ q.2.2.2
theorem cT_len {q : Qn} {n : Nat} (hq : okQ q) (h : q.2.2.2.length = n) : (cT q).length = 34 + n := by
  obtain ⟨k, key, d, data⟩ := q
  have := hq.1
  simp [cT] at *
  omega
def cF (q : Qn) : List UInt8 := if q.1 = 1 then Go.Sh.sumL (cT q) else Go.Sh.tagL q.2.1 (cT q)
theorem cF_len (q : Qn) : (cF q).length = 32 := by
  unfold cF; split
  · exact Go.Sh.sumL_len _
  · exact Go.Sh.tagL_len _ _
def mF (id : Bool) (df : List UInt8) (dn u : Nat) (q : Qn) : List UInt8 := bif id then drawF df dn u else cF q
theorem mF_len {id : Bool} {df : List UInt8} {dn u : Nat} {q : Qn} (h : df.length = 32 * dn) : (mF id df dn u q).length = 32 := by
  cases id
  · exact cF_len q
  · exact drawF_len h
def anD (id : Bool) (df : List UInt8) (dn u : Nat) (l : Lg) (q : Qn) : List UInt8 := match fdq q l 0 with
  | some i => (l.getD i (q, [])).2
  | none => mF id df dn u q
def anU (id : Bool) (u : Nat) (l : Lg) (q : Qn) : Nat := match fdq q l 0 with
  | some _ => u
  | none => bif id then u + 1 else u
def anL (id : Bool) (df : List UInt8) (dn u : Nat) (l : Lg) (q : Qn) : Lg := match fdq q l 0 with
  | some _ => l
  | none => l ++ [(q, mF id df dn u q)]
section
variable {id : Bool} {df : List UInt8} {dn u : Nat} {l : Lg} {q : Qn} {i : Nat}
theorem anD_hit (h : fdq q l 0 = some i) : anD id df dn u l q = (l.getD i (q, [])).2 := by rw [anD, h]
theorem anU_hit (h : fdq q l 0 = some i) : anU id u l q = u := by rw [anU, h]
theorem anL_hit (h : fdq q l 0 = some i) : anL id df dn u l q = l := by rw [anL, h]
theorem anD_miss (h : fdq q l 0 = none) : anD id df dn u l q = mF id df dn u q := by rw [anD, h]
theorem anU_miss (h : fdq q l 0 = none) : anU id u l q = bif id then u + 1 else u := by rw [anU, h]
theorem anL_miss (h : fdq q l 0 = none) : anL id df dn u l q = l ++ [(q, mF id df dn u q)] := by rw [anL, h]
theorem anU_le (id : Bool) (u : Nat) (l : Lg) (q : Qn) : anU id u l q ≤ u + 1 := by
  rw [anU]; split
  · omega
  · cases id
    · exact Nat.le_succ u
    · exact Nat.le_refl _
theorem anL_le (id : Bool) (df : List UInt8) (dn u : Nat) (l : Lg) (q : Qn) : (anL id df dn u l q).length ≤ l.length + 1 := by
  rw [anL]; split
  · omega
  · rw [snoc_len]; exact Nat.le_refl _
theorem anD_len (h : df.length = 32 * dn) (hl : ok32 l) : (anD id df dn u l q).length = 32 := by
  rw [anD]
  split
  · rename_i i hi
    have := fdq_lt hi
    have hlt : i < l.length := by omega
    have e : l.getD i (q, []) = l[i] := by simp [hlt]
    rw [e]; exact hl _ (List.getElem_mem hlt)
  · exact mF_len h
theorem anL_32 (h : df.length = 32 * dn) (hl : ok32 l) : ok32 (anL id df dn u l q) := by
  rw [anL]
  split
  · exact hl
  · intro p hp
    rcases List.mem_append.1 hp with hp | hp
    · exact hl p hp
    · rw [List.mem_singleton] at hp; subst hp; exact mF_len h
end
end Go.Orc

namespace Go.Proofs.Ytnhppjimimhlkaa
open Go.Vc Go.Orc Go.Sh Go.RowKit
set_option maxRecDepth 20000
theorem ce5 : Try.prog.cellsOf 5 = 1 := by kernel_rfl
theorem ce9 : Try.prog.cellsOf 9 = 1 := by kernel_rfl
theorem ce23 : Try.prog.cellsOf 23 = 32 := by kernel_rfl
theorem ce56 : Try.prog.cellsOf 56 = 1 := by kernel_rfl
theorem ce101 : Try.prog.cellsOf 101 = 1 := by kernel_rfl
theorem ce157 : Try.prog.cellsOf 157 = 35 := by kernel_rfl
theorem el48 : ElT Try.prog 48 111 67 104 := ElT.mk' Try.underlying48 (i := Try.t111) rfl rfl rfl rfl rfl rfl
theorem kt157 : Try.prog.keyTypeAt 3 157 = true := by kernel_rfl
theorem ag157 : aggB Try.prog 157 = true := by unfold aggB; rw [Try.underlying157]
theorem pl111 : ∀ fs, Try.prog.underlying 111 = some (.struct fs) → Places Try.prog fs [(0, 35), (35, 32)] := by
 intro fs h w; rw [Try.underlying111] at h; cases h; simp
theorem pl157 : ∀ fs, Try.prog.underlying 157 = some (.struct fs) → Places Try.prog fs [(0, 1), (1, 32), (33, 1), (34, 1)] := by
 intro fs h w; rw [Try.underlying157] at h; cases h; simp
theorem typQ (q : Qn) (h : okQ q) : Typ Try.prog 3 157 (kC q) := by
 obtain ⟨h0, h1, h2, h3⟩ := h
 have h : okQ q := ⟨h0, h1, h2, h3⟩
 exact (Typ.struct (h := 2) (r := [(1, [(vi q.1)]), (32, q.2.1.map vu8), (1, [(vi q.2.2.1)]), (1, [(.string (bstr q.2.2.2))])]) (cs := flat [(1, [(vi q.1)]), (32, q.2.1.map vu8), (1, [(vi q.2.2.1)]), (1, [(.string (bstr q.2.2.2))])]) Try.underlying157 (TypF.cons (k := 1) rfl rfl (by decide) rfl (Typ.int Try.underlying101 ce101 (WalkArith.wf_i64 (by omega))) (TypF.cons (k := 32) rfl rfl (by decide) (len_map h.1) (Typ.u8s Try.underlying23 ce23 Try.underlying5 ce5 h.1) (TypF.cons (k := 1) rfl rfl (by decide) rfl (Typ.int Try.underlying56 ce56 (WalkArith.wf_i64 (by omega))) (TypF.cons (k := 1) rfl rfl (by decide) rfl (Typ.str Try.underlying9 ce9 (by rw [bstr_size]; simp only [maxLen]; omega)) TypF.nil)))) rfl (((SsOk.cons (SOk.v rfl) (SsOk.cons (SOk.u8 h.1) (SsOk.cons (SOk.v rfl) (SsOk.cons (SOk.v rfl) SsOk.nil))))).len.trans ce157.symm))

theorem c_oText (kd dm : Int) (key data : List UInt8) (qa : Option Addr) (qn qc : Nat) (hq : okQ (kd, key, dm, data)) (hdl : data.length = qn) (w : World) (hv : View w qa (data.map vu8)) :
  Cs Try.prog 82 [(.agg ⟨flat [(1, [(vi kd)]), (32, key.map vu8), (1, [(vi dm)]), (1, [(.slice qa qn qc)])]⟩)].toArray w (fun v w1 => ∃ a cap, v = .slice a (34 + qn) cap ∧ Chg w w1 [] ∧ Own w.heap.size w1 5 1 a (34 + qn) cap ((cT (kd, key, dm, data)).map vu8)) := by
 have hk1 : 1 ≤ kd ∧ kd ≤ 4 := hq.2.1
 have hd1 : 1 ≤ dm ∧ dm ≤ 16 := hq.2.2.1
 have hqn : data.length ≤ 1000000000 := hq.2.2.2
 refine Cs.of (n := 20) (args := [(.agg ⟨flat [(1, [(vi kd)]), (32, key.map vu8), (1, [(vi dm)]), (1, [(.slice qa qn qc)])]⟩)]) Try.func82 rfl rfl rfl ?_
 have h_0 := HP.init w
 have h_00 := h_0.old (View.arg hv) (fun f hf => by cases hf)
 refine WP.seq (WP.reg ?_)
 refine WL.box (v := (.agg ⟨flat [(1, [(vi kd)]), (32, key.map vu8), (1, [(vi dm)]), (1, [(.slice qa qn qc)])]⟩)) (segs := [(1, [(vi kd)]), (32, key.map vu8), (1, [(vi dm)]), (1, [(.slice qa qn qc)])]) h_00 rfl rfl (SsOk.cons (SOk.v rfl) (SsOk.cons (SOk.u8 hq.1) (SsOk.cons (SOk.v rfl) (SsOk.cons (SOk.v rfl) SsOk.nil)))) rfl (fun b_1 w_2 h_3 => ?_)
 refine qA (.slice none 0 0) rfl rfl ?_
 refine WL.nil (thn_n (WP.seq ?_))
 refine WP.drawT (SL w.heap.size [.blk b_1 .nw 103 [(1, [(vi kd)]), (32, key.map vu8), (1, [(vi dm)]), (1, [(.slice qa qn qc)])], .view qa (data.map vu8)]) (.q 0 (.q 1 (.q 2 (.q 4 (.q 5 (.s 3 (.s 6 (.q 7 .nil)))))))) (by kernel_rfl) (by kernel_rfl) rfl (by kernel_rfl) (fun w_4 hc_6 => (SL.cons ((h_3.same hc_6).ok _ M0) (SL.cons ((h_3.same hc_6).ok _ M1) (SL.nil _ _)))) (fun w_4 hc_6 => ?_)
 have h_5 := h_3.same hc_6
 refine qT rfl rfl (fun wq hS => R.fieldAddr (b := b_1) (off := 0) (off' := 0) rfl Try.underlying103 rfl Try.sizeOf101 rfl rfl) ?_
 refine qT rfl rfl (fun wq hS => R.load1 (b := b_1) (off := 0) (v := (vi kd)) rfl Try.isAgg101 (hS _ M0) Sg.h) ?_
 refine qT rfl rfl (fun wq hS => R.conv (b := ((i2u8 kd) : UInt8).toNat) rfl Try.underlying101 Try.underlying5 (i2u8_w (by omega))) ?_
 refine qT rfl rfl (fun wq hS => R.fieldAddr (b := b_1) (off := 0) (off' := 1) rfl Try.underlying103 rfl Try.sizeOf23 rfl rfl) ?_
 refine qT rfl rfl (fun wq hS => R.sliceA (b := b_1) (off := 1) (off' := 1) (l := 0) (h := 32) rfl EvB.dflt EvB.dflt (by decide) (by decide) Try.underlying23 Try.sizeOf5 rfl) ?_
 refine WT.s (Op1.one rfl (Wn.no rfl) ?_)
 refine WL.buildSl (vs := [(0, (vu8 (i2u8 kd)))]) (cs := ([i2u8 kd] : List UInt8).map vu8) h_5 Try.underlying37 Try.sizeOf5 (zv Try.typeInfo5 rfl) rfl rfl (by kernel_rfl) rfl (one_u8 _) rfl rfl (fun b_7 w_8 h_9 => ?_)
 refine WL.nil ?_
 refine ⟨(SL.cons (h_9.ok _ M1) (SL.cons (h_9.ok _ M2) (SL.nil _ _))), ?_⟩
 refine WT.s (Op1.one rfl (Wn.no rfl) ?_)
 have h_10 := HP.blkRow (m := 1) (s := 1) h_9 At.h rfl (by simp only [maxLen]; decide)
 refine WL.append (km := 33) (xs := ([i2u8 kd] : List UInt8).map vu8) (ys := key.map vu8) (zs := (([i2u8 kd] : List UInt8) ++ key).map vu8) h_10 rfl rfl el37 (viewB (h_10.ok _ M1) (Sg.t rfl Sg.h)) ((len_map hq.1).trans (Nat.mul_one _).symm) (one_u8 _) (by simp only [List.map_append, List.map_nil]) rfl (by omega) (by omega) (fun _ _ => At.h) rfl (fun a_11 c_12 w_13 h_14 => ?_)
 refine WL.nil ?_
 refine ⟨(SL.cons (h_14.ok _ M1) (SL.cons (h_14.ok _ M2) (SL.nil _ _))), ?_⟩
 refine qT rfl rfl (fun wq hS => R.assign (v := (.slice a_11 33 c_12)) rfl) ?_
 refine WT.nil (thn_n (WP.seq ?_))
 refine WP.drawT (SL w.heap.size [.blk b_1 .nw 103 [(1, [(vi kd)]), (32, key.map vu8), (1, [(vi dm)]), (1, [(.slice qa qn qc)])], .view qa (data.map vu8)]) (.q 0 (.q 1 (.q 2 (.q 3 (.q 6 (.q 7 (.s 4 (.s 5 (.s 8 (.q 9 .nil)))))))))) (by kernel_rfl) (by kernel_rfl) rfl (by kernel_rfl) (fun w_15 hc_17 => (SL.cons ((h_14.same hc_17).ok _ M1) (SL.cons ((h_14.same hc_17).ok _ M2) (SL.nil _ _)))) (fun w_15 hc_17 => ?_)
 have h_16 := h_14.same hc_17
 refine qT rfl rfl (fun wq hS => R.move (v := (.slice a_11 33 c_12)) rfl) ?_
 refine qT rfl rfl (fun wq hS => R.fieldAddr (b := b_1) (off := 0) (off' := 33) rfl Try.underlying103 rfl Try.sizeOf56 rfl rfl) ?_
 refine qT rfl rfl (fun wq hS => R.load1 (b := b_1) (off := 33) (v := (vi dm)) rfl Try.isAgg56 (hS _ M0) (Sg.t rfl (Sg.t rfl Sg.h))) ?_
 refine qT rfl rfl (fun wq hS => R.conv (b := ((i2u8 dm) : UInt8).toNat) rfl Try.underlying56 Try.underlying5 (i2u8_w (by omega))) ?_
 refine qT rfl rfl (fun wq hS => R.fieldAddr (b := b_1) (off := 0) (off' := 34) rfl Try.underlying103 rfl Try.sizeOf37 rfl rfl) ?_
 refine qT rfl rfl (fun wq hS => R.load1 (b := b_1) (off := 34) (v := (.slice qa qn qc)) rfl Try.isAgg37 (hS _ M0) (Sg.t rfl (Sg.t rfl (Sg.t rfl Sg.h)))) ?_
 refine WT.s (Op1.one rfl (Wn.no rfl) ?_)
 refine WL.buildSl (vs := [(0, (vu8 (i2u8 dm)))]) (cs := ([i2u8 dm] : List UInt8).map vu8) h_16 Try.underlying37 Try.sizeOf5 (zv Try.typeInfo5 rfl) rfl rfl (by kernel_rfl) rfl (one_u8 _) rfl rfl (fun b_18 w_19 h_20 => ?_)
 refine WL.nil ?_
 refine ⟨(SL.cons (h_20.ok _ M2) (SL.cons (h_20.ok _ M3) (SL.nil _ _))), ?_⟩
 refine WT.s (Op1.one rfl (Wn.no rfl) ?_)
 refine WL.append (km := 34) (xs := (([i2u8 kd] : List UInt8) ++ key).map vu8) (ys := ([i2u8 dm] : List UInt8).map vu8) (zs := ((([i2u8 kd] : List UInt8) ++ key) ++ ([i2u8 dm] : List UInt8)).map vu8) h_20 rfl rfl el37 (viewB (h_20.ok _ M0) Sg.h) ((len_map (rfl : List.length ([i2u8 dm] : List UInt8) = 1)).trans (Nat.mul_one _).symm) (one_u8 _) (by simp only [List.map_append, List.map_nil]) rfl (by omega) (by omega) (fun _ _ => Y1) rfl (fun a_21 c_22 w_23 h_24 => ?_)
 refine WL.nil ?_
 refine ⟨(SL.cons (h_24.ok _ M2) (SL.cons (h_24.ok _ M3) (SL.nil _ _))), ?_⟩
 refine WT.s (Op1.one rfl (Wn.no rfl) ?_)
 refine WL.append (km := 34 + qn) (xs := ((([i2u8 kd] : List UInt8) ++ key) ++ ([i2u8 dm] : List UInt8)).map vu8) (ys := data.map vu8) (zs := (((([i2u8 kd] : List UInt8) ++ key) ++ ([i2u8 dm] : List UInt8)) ++ data).map vu8) h_24 rfl rfl el37 (viewV (h_24.ok _ M3)) ((len_map hdl).trans (Nat.mul_one _).symm) (one_u8 _) (by simp only [List.map_append, List.map_nil]) (by omega) (by omega) (by omega) (fun _ _ => Y1) rfl (fun a_25 c_26 w_27 h_28 => ?_)
 refine WL.nil ?_
 refine ⟨(SL.cons (h_28.ok _ M2) (SL.cons (h_28.ok _ M3) (SL.nil _ _))), ?_⟩
 refine qT rfl rfl (fun wq hS => R.assign (v := (.slice a_25 (34 + qn) c_26)) rfl) ?_
 refine WT.nil (thn_n (WP.ret ?_))
 refine ret_of Try.results82 (RV.tmp (v := (.slice a_25 (34 + qn) c_26)) rfl RV.nil) ?_
 exact ⟨_, _, by first | rfl | exact congrArg (fun n => Value.slice _ n _) (by omega), h_28.chgS, by first | exact h_28.ok _ M1 | (have hx := h_28.own M1; rwa [show 34 + qn = 34 + qn by omega] at hx)⟩

theorem c_oCl (kd dm : Int) (key data : List UInt8) (qa : Option Addr) (qn qc : Nat) (hq : okQ (kd, key, dm, data)) (hdl : data.length = qn) (bq : Nat) (w : World) (hv : View w qa (data.map vu8)) (hcb : (Ent.blk bq .ro 103 [(1, [(vi kd)]), (32, key.map vu8), (1, [(vi dm)]), (1, [(.slice qa qn qc)])]).ok w.heap.size w) :
  Cs Try.prog 80 [(.pointer (some ⟨bq, 0, none⟩))].toArray w (fun v w1 => v = (.agg ⟨(cF (kd, key, dm, data)).map vu8⟩) ∧ Chg w w1 []) := by
 have hk1 : 1 ≤ kd ∧ kd ≤ 4 := hq.2.1
 have hd1 : 1 ≤ dm ∧ dm ≤ 16 := hq.2.2.1
 have hqn : data.length ≤ 1000000000 := hq.2.2.2
 refine Cs.of (n := 13) (args := [(pO bq 0)]) Try.func80 rfl rfl rfl ?_
 have h_0 := HP.init w
 have h_01 := h_0.oldV (View.arg hv) rfl (by simp [Ent.mut])
 have h_00 := h_01.oldV hcb rfl (by simp [Ent.mut])
 refine WP.seq (WP.reg ?_)
 refine WL.alloc (segs := [(32, (List.replicate 32 (0 : UInt8)).map vu8)]) h_00 (zv Try.typeInfo23 rfl) rfl (SsOk.cons (SOk.u8 lr) SsOk.nil) rfl (fun b_1 w_2 h_3 => ?_)
 refine WL.nil (thn_n (WP.seq (WP.seq (WP.reg ?_))))
 refine qV rfl (R.fieldAddr (b := bq) (off := 0) (off' := 0) rfl Try.underlying103 rfl Try.sizeOf101 rfl rfl) (qV rfl (R.load1 (b := bq) (off := 0) (v := (vi kd)) rfl Try.isAgg101 (h_3.ok _ M1) Sg.h) (qV rfl (R.bin rfl rfl (bi_eql (r := decide ((kd : Int) = 1)) rfl)) ?_))
 refine WL.nil (thn_n ?_)
 refine WP.cond (b := decide ((kd : Int) = 1)) rfl (fun c_4 => ?_) (fun c_4 => ?_)
 ·have p_5 := of_decide_eq_true c_4
  refine WP.seq (WP.reg ?_)
  refine qV rfl (R.loadA (b := bq) (off := 0) [] [(1, [(vi kd)]), (32, key.map vu8), (1, [(vi dm)]), (1, [(.slice qa qn qc)])] [] (cs := flat [(1, [(vi kd)]), (32, key.map vu8), (1, [(vi dm)]), (1, [(.slice qa qn qc)])]) rfl Try.isAgg103 Try.sizeOf103 (h_3.ok _ M1) rfl rfl rfl rfl) ?_
  refine WL.call Try.call82 rfl rfl (c_oText kd dm key data qa qn qc hq hdl _ (viewV (h_3.ok _ M2))) rfl ?_
  rintro _ w_8 ⟨a_6, cap_7, rfl, hc_9, ho_10⟩
  have h_11 := h_3.gotRow hc_9 ho_10
  refine WL.call Try.call81 rfl rfl (c_Sum a_6 (34 + qn) cap_7 (cT (kd, key, dm, data)) (cT_len hq hdl) (by omega) (h_11.own M0).2.2.1 _ (ownView (h_11.ok _ M0))) rfl ?_
  rintro _ w_13 ⟨rfl, hc_12⟩
  have h_14 := h_11.same hc_12
  refine WL.storeA (b := b_1) (off := 0) [] [(32, (List.replicate 32 (0 : UInt8)).map vu8)] [(32, (sumL (cT (kd, key, dm, data))).map vu8)] [] (ys := (sumL (cT (kd, key, dm, data))).map vu8) h_14 rfl rfl Try.sizeOf23 Y1 (by decide) rfl rfl rfl rfl rfl rfl (SsOk.cons (SOk.u8 (sumL_len _)) SsOk.nil) (fun w_15 h_16 => ?_)
  refine WL.nil (thn_n (WP.ret (thn_r ?_)))
  refine ret_of Try.results80 (RV.cell rfl (h_16.loadA (cs := (sumL (cT (kd, key, dm, data))).map vu8) Try.isAgg23 Try.sizeOf23 M1 rfl rfl) RV.nil) ?_
  exact ⟨by rw [cF, if_pos p_5]; rfl, h_16.chgS⟩
 ·have p_17 := of_decide_eq_false c_4
  refine WP.skip (thn_n (WP.seq ?_))
  refine WP.drawZ 5 (SL w.heap.size [.blk b_1 .nw 23 [(32, (List.replicate 32 (0 : UInt8)).map vu8)], .blk bq .ro 103 [(1, [(vi kd)]), (32, key.map vu8), (1, [(vi dm)]), (1, [(.slice qa qn qc)])], .view qa (data.map vu8)]) (.q 0 (.q 1 (.q 2 (.s 3 (.s 4 (.s 5 .nil)))))) (by kernel_rfl) (by kernel_rfl) rfl (by kernel_rfl) (fun w_18 hc_20 => (SL.cons ((h_3.same hc_20).ok _ M0) (SL.cons ((h_3.same hc_20).ok _ M1) (SL.cons ((h_3.same hc_20).ok _ M2) (SL.nil _ _))))) (fun w_18 hc_20 => ?_)
  have h_19 := h_3.same hc_20
  refine ZT.q rfl (Wn.no rfl) rfl rfl (fun wq hS => R.fieldAddr (b := bq) (off := 0) (off' := 1) rfl Try.underlying103 rfl Try.sizeOf23 rfl rfl) ?_
  refine ZT.q rfl (Wn.no rfl) rfl rfl (fun wq hS => R.sliceA (b := bq) (off := 1) (off' := 1) (l := 0) (h := 32) rfl EvB.dflt EvB.dflt (by decide) (by decide) Try.underlying23 Try.sizeOf5 rfl) ?_
  refine ZT.q rfl (Wn.no rfl) rfl rfl (fun wq hS => R.loadA (b := bq) (off := 0) [] [(1, [(vi kd)]), (32, key.map vu8), (1, [(vi dm)]), (1, [(.slice qa qn qc)])] [] (cs := flat [(1, [(vi kd)]), (32, key.map vu8), (1, [(vi dm)]), (1, [(.slice qa qn qc)])]) rfl Try.isAgg103 Try.sizeOf103 (hS _ M1) rfl rfl rfl rfl) ?_
  refine ZT.s ?_
  refine OpZ.one rfl (Wn.no rfl) ?_
  refine WL.call Try.call82 rfl rfl (c_oText kd dm key data qa qn qc hq hdl _ (viewV (h_19.ok _ M2))) rfl ?_
  rintro _ w_23 ⟨a_21, cap_22, rfl, hc_24, ho_25⟩
  have h_26 := h_19.gotRow hc_24 ho_25
  refine WL.nil ?_
  refine ⟨(SL.cons (h_26.ok _ M1) (SL.cons (h_26.ok _ M2) (SL.cons (h_26.ok _ M3) (SL.nil _ _)))), ?_⟩
  refine ZT.s ?_
  refine OpZ.one rfl (Wn.no rfl) ?_
  refine WL.call Try.call83 rfl rfl (c_Tag (some ⟨bq, 1, none⟩) 32 32 key hq.1 (by decide) (by decide) a_21 (34 + qn) cap_22 (cT (kd, key, dm, data)) (cT_len hq hdl) (h_26.own M0).2.2.1 (by omega) _ (viewB (h_26.ok _ M2) (Sg.t rfl Sg.h)) (ownView (h_26.ok _ M0))) rfl ?_
  rintro _ w_28 ⟨rfl, hc_27⟩
  have h_29 := h_26.same hc_27
  refine WL.nil ?_
  refine ⟨(SL.cons (h_29.ok _ M1) (SL.cons (h_29.ok _ M2) (SL.cons (h_29.ok _ M3) (SL.nil _ _)))), ?_⟩
  refine ZT.s ?_
  refine OpZ.last rfl (Wn.no rfl) ?_
  refine WL.storeA (b := b_1) (off := 0) [] [(32, (List.replicate 32 (0 : UInt8)).map vu8)] [(32, (tagL key (cT (kd, key, dm, data))).map vu8)] [] (ys := (tagL key (cT (kd, key, dm, data))).map vu8) h_29 rfl rfl Try.sizeOf23 Y1 (by decide) rfl rfl rfl rfl rfl rfl (SsOk.cons (SOk.u8 (tagL_len _ _)) SsOk.nil) (fun w_30 h_31 => ?_)
  refine WL.nil (ZT.nil (thn_n (WP.ret ?_)))
  refine ret_of Try.results80 (RV.cell rfl (h_31.loadA (cs := (tagL key (cT (kd, key, dm, data))).map vu8) Try.isAgg23 Try.sizeOf23 M1 rfl rfl) RV.nil) ?_
  exact ⟨by rw [cF, if_neg p_17]; rfl, h_31.chgS⟩

theorem c_ans_hit {w00 : World} {L : List Ent} (id : Bool) (ob mp : Nat) (ms df : List UInt8) (hms : ms.length = 32) (da : Option Addr) (dn dc u : Nat) (hdf : df.length = 32 * dn) (la : Option Addr) (lc : Nat) (lx : List Value) (lg : Lg) (hu : u ≤ 1000000) (hlg : lg.length ≤ 1000000) (kd dm : Int) (key data : List UInt8) (qa : Option Addr) (qn qc : Nat) (hq : okQ (kd, key, dm, data)) (hdl : data.length = qn) (cv : Value) (i : Nat) (hfd : fdq (kd, key, dm, data) lg 0 = some i) (w : World) (h_0 : HP w00 w (Ent.blk ob .nw 50 [(1, [(.bool id)]), (32, ms.map vu8), (1, [(.slice da dn dc)]), (1, [(vi ((u : Nat) : Int))]), (1, [(.map (some mp))]), (1, [(.slice la lg.length lc)])] :: Ent.row la lg.length lc 111 67 lx :: Ent.obj mp .nw (.map (mArr lg) lg.length) :: Ent.pin (sblks lx) (fun w => Lgs w lx lg) :: Ent.view da (df.map vu8) :: Ent.view qa (data.map vu8) :: L)) :
  Cs Try.prog 79 [(.pointer (some ⟨ob, 0, none⟩)), (.agg ⟨flat [(1, [(vi kd)]), (32, key.map vu8), (1, [(vi dm)]), (1, [(.slice qa qn qc)])]⟩), cv].toArray w (fun v w1 => ∃ la' lc' lx', v = (.agg ⟨(anD id df dn u lg (kd, key, dm, data)).map vu8⟩) ∧ HP w00 w1 (Ent.blk ob .nw 50 [(1, [(.bool id)]), (32, ms.map vu8), (1, [(.slice da dn dc)]), (1, [(vi (((anU id u lg (kd, key, dm, data)) : Nat) : Int))]), (1, [(.map (some mp))]), (1, [(.slice la' ((anL id df dn u lg (kd, key, dm, data)).length) lc')])] :: Ent.row la' ((anL id df dn u lg (kd, key, dm, data)).length) lc' 111 67 lx' :: Ent.obj mp .nw (.map (mArr (anL id df dn u lg (kd, key, dm, data))) ((anL id df dn u lg (kd, key, dm, data)).length)) :: Ent.pin (sblks lx') (fun w => Lgs w lx' (anL id df dn u lg (kd, key, dm, data))) :: Ent.view da (df.map vu8) :: Ent.view qa (data.map vu8) :: L)) := by
 have hlgs : Lgs w lx lg := (h_0.ok _ M3).1
 have hlo := hlgs.ok
 have hqn : data.length ≤ 1000000000 := hq.2.2.2
 have hil : i < lg.length := by have := fdq_lt hfd; omega
 refine Cs.of (n := 74) (args := [(pO ob 0), (.agg ⟨flat [(1, [(vi kd)]), (32, key.map vu8), (1, [(vi dm)]), (1, [(.slice qa qn qc)])]⟩), cv]) Try.func79 rfl rfl rfl ?_
 refine WP.seq (WP.reg ?_)
 refine WL.box (v := (.agg ⟨flat [(1, [(vi kd)]), (32, key.map vu8), (1, [(vi dm)]), (1, [(.slice qa qn qc)])]⟩)) (segs := [(1, [(vi kd)]), (32, key.map vu8), (1, [(vi dm)]), (1, [(.slice qa qn qc)])]) h_0 rfl rfl (SsOk.cons (SOk.v rfl) (SsOk.cons (SOk.u8 hq.1) (SsOk.cons (SOk.v rfl) (SsOk.cons (SOk.v rfl) SsOk.nil)))) rfl (fun b_1 w_2 h_3 => ?_)
 refine WL.alloc (segs := [(32, (List.replicate 32 (0 : UInt8)).map vu8)]) h_3 (zv Try.typeInfo23 rfl) rfl (SsOk.cons (SOk.u8 lr) SsOk.nil) rfl (fun b_4 w_5 h_6 => ?_)
 refine WL.nil (thn_n (WP.seq (WP.reg ?_)))
 refine qV rfl (R.fieldAddr (b := b_1) (off := 0) (off' := 0) rfl Try.underlying103 rfl Try.sizeOf101 rfl rfl) (qV rfl (R.load1 (b := b_1) (off := 0) (v := (vi kd)) rfl Try.isAgg101 (h_6.ok _ M1) Sg.h) (qV rfl (R.fieldAddr (b := b_1) (off := 0) (off' := 1) rfl Try.underlying103 rfl Try.sizeOf23 rfl rfl) (qV rfl (R.loadA (b := b_1) (off := 1) [(1, [(vi kd)])] [(32, key.map vu8)] [(1, [(vi dm)]), (1, [(.slice qa qn qc)])] (cs := key.map vu8) rfl Try.isAgg23 Try.sizeOf23 (h_6.ok _ M1) rfl rfl rfl rfl) (qV rfl (R.fieldAddr (b := b_1) (off := 0) (off' := 33) rfl Try.underlying103 rfl Try.sizeOf56 rfl rfl) (qV rfl (R.load1 (b := b_1) (off := 33) (v := (vi dm)) rfl Try.isAgg56 (h_6.ok _ M1) (Sg.t rfl (Sg.t rfl Sg.h))) (qV rfl (R.fieldAddr (b := b_1) (off := 0) (off' := 34) rfl Try.underlying103 rfl Try.sizeOf37 rfl rfl) (qV rfl (R.load1 (b := b_1) (off := 34) (v := (.slice qa qn qc)) rfl Try.isAgg37 (h_6.ok _ M1) (Sg.t rfl (Sg.t rfl (Sg.t rfl Sg.h)))) (qV rfl (R.toStr (bs := data) rfl Try.underlying37 Try.underlying5 Try.underlying9 (viewV (h_6.ok _ M7)) hdl) (qV rfl (R.buildS (pl := [(0, 1), (1, 32), (33, 1), (34, 1)]) (zs := [(1, [(vi 0)]), (32, (List.replicate 32 (0 : UInt8)).map vu8), (1, [(vi 0)]), (1, [(.string (bstr ([] : List UInt8)))])]) (vs := [(0, (vi kd)), (1, (.agg ⟨key.map vu8⟩)), (2, (vi dm)), (3, (.string (bstr data)))]) (out := [(1, [(vi kd)]), (32, key.map vu8), (1, [(vi dm)]), (1, [(.string (bstr data))])]) (cs := flat [(1, [(vi kd)]), (32, key.map vu8), (1, [(vi dm)]), (1, [(.string (bstr data))])]) Try.underlying157 (zv Try.typeInfo157 rfl) rfl (SsOk.cons (SOk.v rfl) (SsOk.cons (SOk.u8 lr) (SsOk.cons (SOk.v rfl) (SsOk.cons (SOk.v rfl) SsOk.nil)))) (pl157 _ Try.underlying157) rfl (FillR.cons [] [(1, [(vi 0)])] [(1, [(vi kd)])] [(32, (List.replicate 32 (0 : UInt8)).map vu8), (1, [(vi 0)]), (1, [(.string (bstr ([] : List UInt8)))])] rfl rfl rfl rfl (SsOk.cons (SOk.v rfl) SsOk.nil) rfl rfl rfl (FillR.cons [(1, [(vi kd)])] [(32, (List.replicate 32 (0 : UInt8)).map vu8)] [(32, key.map vu8)] [(1, [(vi 0)]), (1, [(.string (bstr ([] : List UInt8)))])] rfl rfl rfl rfl (SsOk.cons (SOk.u8 hq.1) SsOk.nil) rfl rfl rfl (FillR.cons [(1, [(vi kd)]), (32, key.map vu8)] [(1, [(vi 0)])] [(1, [(vi dm)])] [(1, [(.string (bstr ([] : List UInt8)))])] rfl rfl rfl rfl (SsOk.cons (SOk.v rfl) SsOk.nil) rfl rfl rfl (FillR.cons [(1, [(vi kd)]), (32, key.map vu8), (1, [(vi dm)])] [(1, [(.string (bstr ([] : List UInt8)))])] [(1, [(.string (bstr data))])] [] rfl rfl rfl rfl (SsOk.cons (SOk.v rfl) SsOk.nil) rfl rfl rfl FillR.nil)))) rfl) ?_)))))))))
 refine WL.alloc (segs := [(1, [(vi 0)]), (32, (List.replicate 32 (0 : UInt8)).map vu8), (1, [(vi 0)]), (1, [(.string (bstr ([] : List UInt8)))])]) h_6 (zv Try.typeInfo157 rfl) rfl (SsOk.cons (SOk.v rfl) (SsOk.cons (SOk.u8 lr) (SsOk.cons (SOk.v rfl) (SsOk.cons (SOk.v rfl) SsOk.nil)))) rfl (fun b_8 w_9 h_10 => ?_)
 refine WL.storeA (b := b_8) (off := 0) [] [(1, [(vi 0)]), (32, (List.replicate 32 (0 : UInt8)).map vu8), (1, [(vi 0)]), (1, [(.string (bstr ([] : List UInt8)))])] [(1, [(vi kd)]), (32, key.map vu8), (1, [(vi dm)]), (1, [(.string (bstr data))])] [] (ys := flat [(1, [(vi kd)]), (32, key.map vu8), (1, [(vi dm)]), (1, [(.string (bstr data))])]) h_10 rfl rfl Try.sizeOf157 At.h (by decide) rfl rfl rfl rfl rfl rfl (SsOk.cons (SOk.v rfl) (SsOk.cons (SOk.u8 hq.1) (SsOk.cons (SOk.v rfl) (SsOk.cons (SOk.v rfl) SsOk.nil)))) (fun w_11 h_12 => ?_)
 refine WL.nil (thn_n (WP.seq (WP.seq ?_)))
 refine WP.drawT (SL w00.heap.size [.blk b_8 .nw 157 [(1, [(vi kd)]), (32, key.map vu8), (1, [(vi dm)]), (1, [(.string (bstr data))])], .blk b_4 .nw 23 [(32, (List.replicate 32 (0 : UInt8)).map vu8)], .blk b_1 .nw 103 [(1, [(vi kd)]), (32, key.map vu8), (1, [(vi dm)]), (1, [(.slice qa qn qc)])], .blk ob .nw 50 [(1, [(.bool id)]), (32, ms.map vu8), (1, [(.slice da dn dc)]), (1, [(vn u)]), (1, [(.map (some mp))]), (1, [(.slice la lg.length lc)])], .row la lg.length lc 111 67 lx, .obj mp .nw (.map (mArr lg) lg.length), .pin (sblks lx) (fun w => Lgs w lx lg), .view da (df.map vu8), .view qa (data.map vu8)]) (.q 0 (.q 1 (.q 2 (.q 3 (.q 4 (.s 5 (.q 6 (.q 7 (.q 8 (.q 9 (.q 10 .nil))))))))))) (by kernel_rfl) (by kernel_rfl) rfl (by kernel_rfl) (fun w_13 hc_15 => (SL.cons ((h_12.same hc_15).ok _ M0) (SL.cons ((h_12.same hc_15).ok _ M1) (SL.cons ((h_12.same hc_15).ok _ M2) (SL.cons ((h_12.same hc_15).ok _ M3) (SL.cons ((h_12.same hc_15).ok _ M4) (SL.cons ((h_12.same hc_15).ok _ M5) (SL.cons ((h_12.same hc_15).ok _ M6) (SL.cons ((h_12.same hc_15).ok _ M7) (SL.cons ((h_12.same hc_15).ok _ M8) (SL.nil _ _))))))))))) (fun w_13 hc_15 => ?_)
 have h_14 := h_12.same hc_15
 refine qT rfl rfl (fun wq hS => R.move (v := (pO ob 0)) rfl) ?_
 refine qT rfl rfl (fun wq hS => R.nilCheck rfl) ?_
 refine qT rfl rfl (fun wq hS => R.fieldAddr (b := ob) (off := 0) (off' := 35) rfl Try.underlying50 rfl Try.sizeOf47 rfl rfl) ?_
 refine qT rfl rfl (fun wq hS => R.load1 (b := ob) (off := 35) (v := (.map (some mp))) rfl Try.isAgg47 (hS _ M3) (Sg.t rfl (Sg.t rfl (Sg.t rfl (Sg.t rfl Sg.h))))) ?_
 refine qT rfl rfl (fun wq hS => R.loadA (b := b_8) (off := 0) [] [(1, [(vi kd)]), (32, key.map vu8), (1, [(vi dm)]), (1, [(.string (bstr data))])] [] (cs := flat [(1, [(vi kd)]), (32, key.map vu8), (1, [(vi dm)]), (1, [(.string (bstr data))])]) rfl Try.isAgg157 Try.sizeOf157 (hS _ M0) rfl rfl rfl rfl) ?_
 refine WT.s (Op1.one rfl (Wn.no rfl) ?_)
 refine qV rfl (R.lookup (r := some (i, vi (i : Int))) (z := (vi 0)) (v := (vn i)) (ok := true) rfl rfl Try.underlying47 (h_14.ok _ M5) (Ck.agg kt157 (by decide) ag157 (typQ (kd, key, dm, data) hq)) (log_hit kt157 (by decide) ag157 typQ hq hlo hfd) (zv Try.typeInfo3 rfl) rfl rfl) ?_
 refine WL.nil ?_
 refine ⟨(SL.cons (h_14.ok _ M0) (SL.cons (h_14.ok _ M1) (SL.cons (h_14.ok _ M2) (SL.cons (h_14.ok _ M3) (SL.cons (h_14.ok _ M4) (SL.cons (h_14.ok _ M5) (SL.cons (h_14.ok _ M6) (SL.cons (h_14.ok _ M7) (SL.cons (h_14.ok _ M8) (SL.nil _ _)))))))))), ?_⟩
 refine qT rfl rfl (fun wq hS => R.move (v := (.tuple [(vn i), (.bool true)].toArray)) rfl) ?_
 refine qT rfl rfl (fun wq hS => R.extract rfl rfl) ?_
 refine qT rfl rfl (fun wq hS => R.extract rfl rfl) ?_
 refine qT rfl rfl (fun wq hS => R.assign (v := (vn i)) rfl) ?_
 refine qT rfl rfl (fun wq hS => R.assign (v := (.bool true)) rfl) ?_
 refine WT.nil (thn_n (WP.seq (WP.reg ?_)))
 refine qM (.bool true) rfl rfl ?_
 refine WL.nil (thn_n ?_)
 refine WP.condT rfl ?_
 refine WP.seq (WP.reg ?_)
 refine qM (pO ob 0) rfl rfl (qV rfl (R.nilCheck rfl) (qV rfl (R.fieldAddr (b := ob) (off := 0) (off' := 36) rfl Try.underlying50 rfl Try.sizeOf48 rfl rfl) (qV rfl (R.load1 (b := ob) (off := 36) (v := (.slice la lg.length lc)) rfl Try.isAgg48 (h_14.ok _ M3) (Sg.t rfl (Sg.t rfl (Sg.t rfl (Sg.t rfl (Sg.t rfl Sg.h)))))) (qM (vn i) rfl rfl (qV rfl (R.indexS (a := la) (i := i) (off := i * 67) (xs := lx) rfl rfl rfl (by omega) (ownView (h_14.ok _ M4)) (by rw [Lgs.len hlgs]; omega) Try.underlying48 Try.sizeOf111 rfl) (qV rfl (R.fieldG (a := la) (i := i * 67) (off' := i * 67 + 35) rfl Try.underlying111 rfl Try.sizeOf23 rfl rfl) (qV rfl (R.loadGA (a := la) (i := i * 67 + 35) (xs := lx) (cs := ((lg.getD i ((kd, key, dm, data), [])).2).map vu8) rfl (ownView (h_14.ok _ M4)) Try.isAgg23 Try.sizeOf23 (Lgs.ans (z := ((kd, key, dm, data), [])) hlgs (i := i) hil).1 (len_map (Lgs.ans (z := ((kd, key, dm, data), [])) hlgs (i := i) hil).2) (by decide)) ?_)))))))
 refine WL.storeA (b := b_4) (off := 0) [] [(32, (List.replicate 32 (0 : UInt8)).map vu8)] [(32, ((lg.getD i ((kd, key, dm, data), [])).2).map vu8)] [] (ys := ((lg.getD i ((kd, key, dm, data), [])).2).map vu8) h_14 rfl rfl Try.sizeOf23 Y1 (by decide) rfl rfl rfl rfl rfl rfl (SsOk.cons (SOk.u8 ((Lgs.ans (z := ((kd, key, dm, data), [])) hlgs (i := i) hil).2)) SsOk.nil) (fun w_16 h_17 => ?_)
 refine WL.nil (thn_n (WP.ret (thn_r ?_)))
 refine ret_of Try.results79 (RV.cell rfl (h_17.loadA (cs := ((lg.getD i ((kd, key, dm, data), [])).2).map vu8) Try.isAgg23 Try.sizeOf23 M1 rfl rfl) RV.nil) ?_
 have h_26 := ((((((((h_17.drop rfl).drop rfl).drop rfl).up J5).up J5).up J5).up J5).up J5).up J5
 exact ⟨la, lc, lx, by rw [anD_hit hfd]; rfl, by rw [anU_hit hfd, anL_hit hfd]; exact h_26⟩

theorem c_ans_missT {w00 : World} {L : List Ent} (ob mp : Nat) (ms df : List UInt8) (hms : ms.length = 32) (da : Option Addr) (dn dc u : Nat) (hdf : df.length = 32 * dn) (la : Option Addr) (lc : Nat) (lx : List Value) (lg : Lg) (hu : u ≤ 1000000) (hlg : lg.length ≤ 1000000) (kd dm : Int) (key data : List UInt8) (qa : Option Addr) (qn qc : Nat) (hq : okQ (kd, key, dm, data)) (hdl : data.length = qn) (cv : Value) (hfd : fdq (kd, key, dm, data) lg 0 = none) (w : World) (h_0 : HP w00 w (Ent.blk ob .nw 50 [(1, [(.bool true)]), (32, ms.map vu8), (1, [(.slice da dn dc)]), (1, [(vi ((u : Nat) : Int))]), (1, [(.map (some mp))]), (1, [(.slice la lg.length lc)])] :: Ent.row la lg.length lc 111 67 lx :: Ent.obj mp .nw (.map (mArr lg) lg.length) :: Ent.pin (sblks lx) (fun w => Lgs w lx lg) :: Ent.view da (df.map vu8) :: Ent.view qa (data.map vu8) :: L)) :
  Cs Try.prog 79 [(.pointer (some ⟨ob, 0, none⟩)), (.agg ⟨flat [(1, [(vi kd)]), (32, key.map vu8), (1, [(vi dm)]), (1, [(.slice qa qn qc)])]⟩), cv].toArray w (fun v w1 => ∃ la' lc' lx', v = (.agg ⟨(anD true df dn u lg (kd, key, dm, data)).map vu8⟩) ∧ HP w00 w1 (Ent.blk ob .nw 50 [(1, [(.bool true)]), (32, ms.map vu8), (1, [(.slice da dn dc)]), (1, [(vi (((anU true u lg (kd, key, dm, data)) : Nat) : Int))]), (1, [(.map (some mp))]), (1, [(.slice la' ((anL true df dn u lg (kd, key, dm, data)).length) lc')])] :: Ent.row la' ((anL true df dn u lg (kd, key, dm, data)).length) lc' 111 67 lx' :: Ent.obj mp .nw (.map (mArr (anL true df dn u lg (kd, key, dm, data))) ((anL true df dn u lg (kd, key, dm, data)).length)) :: Ent.pin (sblks lx') (fun w => Lgs w lx' (anL true df dn u lg (kd, key, dm, data))) :: Ent.view da (df.map vu8) :: Ent.view qa (data.map vu8) :: L)) := by
 have hlgs : Lgs w lx lg := (h_0.ok _ M3).1
 have hlo := hlgs.ok
 have hqn : data.length ≤ 1000000000 := hq.2.2.2
 refine Cs.of (n := 74) (args := [(pO ob 0), (.agg ⟨flat [(1, [(vi kd)]), (32, key.map vu8), (1, [(vi dm)]), (1, [(.slice qa qn qc)])]⟩), cv]) Try.func79 rfl rfl rfl ?_
 refine WP.seq (WP.reg ?_)
 refine WL.box (v := (.agg ⟨flat [(1, [(vi kd)]), (32, key.map vu8), (1, [(vi dm)]), (1, [(.slice qa qn qc)])]⟩)) (segs := [(1, [(vi kd)]), (32, key.map vu8), (1, [(vi dm)]), (1, [(.slice qa qn qc)])]) h_0 rfl rfl (SsOk.cons (SOk.v rfl) (SsOk.cons (SOk.u8 hq.1) (SsOk.cons (SOk.v rfl) (SsOk.cons (SOk.v rfl) SsOk.nil)))) rfl (fun b_1 w_2 h_3 => ?_)
 refine WL.alloc (segs := [(32, (List.replicate 32 (0 : UInt8)).map vu8)]) h_3 (zv Try.typeInfo23 rfl) rfl (SsOk.cons (SOk.u8 lr) SsOk.nil) rfl (fun b_4 w_5 h_6 => ?_)
 refine WL.nil (thn_n (WP.seq (WP.reg ?_)))
 refine qV rfl (R.fieldAddr (b := b_1) (off := 0) (off' := 0) rfl Try.underlying103 rfl Try.sizeOf101 rfl rfl) (qV rfl (R.load1 (b := b_1) (off := 0) (v := (vi kd)) rfl Try.isAgg101 (h_6.ok _ M1) Sg.h) (qV rfl (R.fieldAddr (b := b_1) (off := 0) (off' := 1) rfl Try.underlying103 rfl Try.sizeOf23 rfl rfl) (qV rfl (R.loadA (b := b_1) (off := 1) [(1, [(vi kd)])] [(32, key.map vu8)] [(1, [(vi dm)]), (1, [(.slice qa qn qc)])] (cs := key.map vu8) rfl Try.isAgg23 Try.sizeOf23 (h_6.ok _ M1) rfl rfl rfl rfl) (qV rfl (R.fieldAddr (b := b_1) (off := 0) (off' := 33) rfl Try.underlying103 rfl Try.sizeOf56 rfl rfl) (qV rfl (R.load1 (b := b_1) (off := 33) (v := (vi dm)) rfl Try.isAgg56 (h_6.ok _ M1) (Sg.t rfl (Sg.t rfl Sg.h))) (qV rfl (R.fieldAddr (b := b_1) (off := 0) (off' := 34) rfl Try.underlying103 rfl Try.sizeOf37 rfl rfl) (qV rfl (R.load1 (b := b_1) (off := 34) (v := (.slice qa qn qc)) rfl Try.isAgg37 (h_6.ok _ M1) (Sg.t rfl (Sg.t rfl (Sg.t rfl Sg.h)))) (qV rfl (R.toStr (bs := data) rfl Try.underlying37 Try.underlying5 Try.underlying9 (viewV (h_6.ok _ M7)) hdl) (qV rfl (R.buildS (pl := [(0, 1), (1, 32), (33, 1), (34, 1)]) (zs := [(1, [(vi 0)]), (32, (List.replicate 32 (0 : UInt8)).map vu8), (1, [(vi 0)]), (1, [(.string (bstr ([] : List UInt8)))])]) (vs := [(0, (vi kd)), (1, (.agg ⟨key.map vu8⟩)), (2, (vi dm)), (3, (.string (bstr data)))]) (out := [(1, [(vi kd)]), (32, key.map vu8), (1, [(vi dm)]), (1, [(.string (bstr data))])]) (cs := flat [(1, [(vi kd)]), (32, key.map vu8), (1, [(vi dm)]), (1, [(.string (bstr data))])]) Try.underlying157 (zv Try.typeInfo157 rfl) rfl (SsOk.cons (SOk.v rfl) (SsOk.cons (SOk.u8 lr) (SsOk.cons (SOk.v rfl) (SsOk.cons (SOk.v rfl) SsOk.nil)))) (pl157 _ Try.underlying157) rfl (FillR.cons [] [(1, [(vi 0)])] [(1, [(vi kd)])] [(32, (List.replicate 32 (0 : UInt8)).map vu8), (1, [(vi 0)]), (1, [(.string (bstr ([] : List UInt8)))])] rfl rfl rfl rfl (SsOk.cons (SOk.v rfl) SsOk.nil) rfl rfl rfl (FillR.cons [(1, [(vi kd)])] [(32, (List.replicate 32 (0 : UInt8)).map vu8)] [(32, key.map vu8)] [(1, [(vi 0)]), (1, [(.string (bstr ([] : List UInt8)))])] rfl rfl rfl rfl (SsOk.cons (SOk.u8 hq.1) SsOk.nil) rfl rfl rfl (FillR.cons [(1, [(vi kd)]), (32, key.map vu8)] [(1, [(vi 0)])] [(1, [(vi dm)])] [(1, [(.string (bstr ([] : List UInt8)))])] rfl rfl rfl rfl (SsOk.cons (SOk.v rfl) SsOk.nil) rfl rfl rfl (FillR.cons [(1, [(vi kd)]), (32, key.map vu8), (1, [(vi dm)])] [(1, [(.string (bstr ([] : List UInt8)))])] [(1, [(.string (bstr data))])] [] rfl rfl rfl rfl (SsOk.cons (SOk.v rfl) SsOk.nil) rfl rfl rfl FillR.nil)))) rfl) ?_)))))))))
 refine WL.alloc (segs := [(1, [(vi 0)]), (32, (List.replicate 32 (0 : UInt8)).map vu8), (1, [(vi 0)]), (1, [(.string (bstr ([] : List UInt8)))])]) h_6 (zv Try.typeInfo157 rfl) rfl (SsOk.cons (SOk.v rfl) (SsOk.cons (SOk.u8 lr) (SsOk.cons (SOk.v rfl) (SsOk.cons (SOk.v rfl) SsOk.nil)))) rfl (fun b_8 w_9 h_10 => ?_)
 refine WL.storeA (b := b_8) (off := 0) [] [(1, [(vi 0)]), (32, (List.replicate 32 (0 : UInt8)).map vu8), (1, [(vi 0)]), (1, [(.string (bstr ([] : List UInt8)))])] [(1, [(vi kd)]), (32, key.map vu8), (1, [(vi dm)]), (1, [(.string (bstr data))])] [] (ys := flat [(1, [(vi kd)]), (32, key.map vu8), (1, [(vi dm)]), (1, [(.string (bstr data))])]) h_10 rfl rfl Try.sizeOf157 At.h (by decide) rfl rfl rfl rfl rfl rfl (SsOk.cons (SOk.v rfl) (SsOk.cons (SOk.u8 hq.1) (SsOk.cons (SOk.v rfl) (SsOk.cons (SOk.v rfl) SsOk.nil)))) (fun w_11 h_12 => ?_)
 refine WL.nil (thn_n (WP.seq (WP.seq ?_)))
 refine WP.drawT (SL w00.heap.size [.blk b_8 .nw 157 [(1, [(vi kd)]), (32, key.map vu8), (1, [(vi dm)]), (1, [(.string (bstr data))])], .blk b_4 .nw 23 [(32, (List.replicate 32 (0 : UInt8)).map vu8)], .blk b_1 .nw 103 [(1, [(vi kd)]), (32, key.map vu8), (1, [(vi dm)]), (1, [(.slice qa qn qc)])], .blk ob .nw 50 [(1, [(.bool true)]), (32, ms.map vu8), (1, [(.slice da dn dc)]), (1, [(vn u)]), (1, [(.map (some mp))]), (1, [(.slice la lg.length lc)])], .row la lg.length lc 111 67 lx, .obj mp .nw (.map (mArr lg) lg.length), .pin (sblks lx) (fun w => Lgs w lx lg), .view da (df.map vu8), .view qa (data.map vu8)]) (.q 0 (.q 1 (.q 2 (.q 3 (.q 4 (.s 5 (.q 6 (.q 7 (.q 8 (.q 9 (.q 10 .nil))))))))))) (by kernel_rfl) (by kernel_rfl) rfl (by kernel_rfl) (fun w_13 hc_15 => (SL.cons ((h_12.same hc_15).ok _ M0) (SL.cons ((h_12.same hc_15).ok _ M1) (SL.cons ((h_12.same hc_15).ok _ M2) (SL.cons ((h_12.same hc_15).ok _ M3) (SL.cons ((h_12.same hc_15).ok _ M4) (SL.cons ((h_12.same hc_15).ok _ M5) (SL.cons ((h_12.same hc_15).ok _ M6) (SL.cons ((h_12.same hc_15).ok _ M7) (SL.cons ((h_12.same hc_15).ok _ M8) (SL.nil _ _))))))))))) (fun w_13 hc_15 => ?_)
 have h_14 := h_12.same hc_15
 refine qT rfl rfl (fun wq hS => R.move (v := (pO ob 0)) rfl) ?_
 refine qT rfl rfl (fun wq hS => R.nilCheck rfl) ?_
 refine qT rfl rfl (fun wq hS => R.fieldAddr (b := ob) (off := 0) (off' := 35) rfl Try.underlying50 rfl Try.sizeOf47 rfl rfl) ?_
 refine qT rfl rfl (fun wq hS => R.load1 (b := ob) (off := 35) (v := (.map (some mp))) rfl Try.isAgg47 (hS _ M3) (Sg.t rfl (Sg.t rfl (Sg.t rfl (Sg.t rfl Sg.h))))) ?_
 refine qT rfl rfl (fun wq hS => R.loadA (b := b_8) (off := 0) [] [(1, [(vi kd)]), (32, key.map vu8), (1, [(vi dm)]), (1, [(.string (bstr data))])] [] (cs := flat [(1, [(vi kd)]), (32, key.map vu8), (1, [(vi dm)]), (1, [(.string (bstr data))])]) rfl Try.isAgg157 Try.sizeOf157 (hS _ M0) rfl rfl rfl rfl) ?_
 refine WT.s (Op1.one rfl (Wn.no rfl) ?_)
 refine qV rfl (R.lookup (r := none) (z := (vi 0)) (v := (vi 0)) (ok := false) rfl rfl Try.underlying47 (h_14.ok _ M5) (Ck.agg kt157 (by decide) ag157 (typQ (kd, key, dm, data) hq)) (log_miss kt157 (by decide) ag157 typQ hq hlo hfd) (zv Try.typeInfo3 rfl) rfl rfl) ?_
 refine WL.nil ?_
 refine ⟨(SL.cons (h_14.ok _ M0) (SL.cons (h_14.ok _ M1) (SL.cons (h_14.ok _ M2) (SL.cons (h_14.ok _ M3) (SL.cons (h_14.ok _ M4) (SL.cons (h_14.ok _ M5) (SL.cons (h_14.ok _ M6) (SL.cons (h_14.ok _ M7) (SL.cons (h_14.ok _ M8) (SL.nil _ _)))))))))), ?_⟩
 refine qT rfl rfl (fun wq hS => R.move (v := (.tuple [(vi 0), (.bool false)].toArray)) rfl) ?_
 refine qT rfl rfl (fun wq hS => R.extract rfl rfl) ?_
 refine qT rfl rfl (fun wq hS => R.extract rfl rfl) ?_
 refine qT rfl rfl (fun wq hS => R.assign (v := (vi 0)) rfl) ?_
 refine qT rfl rfl (fun wq hS => R.assign (v := (.bool false)) rfl) ?_
 refine WT.nil (thn_n (WP.seq (WP.reg ?_)))
 refine qM (.bool false) rfl rfl ?_
 refine WL.nil (thn_n ?_)
 refine WP.condF rfl ?_
 refine WP.skip (thn_n (WP.seq (WP.reg ?_)))
 refine WL.alloc (segs := [(32, (List.replicate 32 (0 : UInt8)).map vu8)]) h_14 (zv Try.typeInfo23 rfl) rfl (SsOk.cons (SOk.u8 lr) SsOk.nil) rfl (fun b_16 w_17 h_18 => ?_)
 refine WL.nil (thn_n (WP.seq (WP.seq (WP.reg ?_))))
 refine qM (pO ob 0) rfl rfl (qV rfl (R.nilCheck rfl) (qV rfl (R.fieldAddr (b := ob) (off := 0) (off' := 0) rfl Try.underlying50 rfl Try.sizeOf4 rfl rfl) (qV rfl (R.load1 (b := ob) (off := 0) (v := (.bool true)) rfl Try.isAgg4 (h_18.ok _ M4) Sg.h) ?_)))
 refine WL.nil (thn_n ?_)
 refine WP.condT rfl ?_
 refine WP.reg ?_
 refine qM (pO ob 0) rfl rfl ?_
 have h_20 := (h_18.up J8).up J5
 refine WL.call Try.call96 rfl rfl (c_draw true ob mp ms df hms da dn dc u hdf la lc lx lg (by omega) (by omega) _ h_20) rfl ?_
 rintro _ w_21 ⟨rfl, h_22⟩
 refine WL.storeA (b := b_16) (off := 0) [] [(32, (List.replicate 32 (0 : UInt8)).map vu8)] [(32, (drawF df dn u).map vu8)] [] (ys := (drawF df dn u).map vu8) h_22 rfl rfl Try.sizeOf23 Y2 (by decide) rfl rfl rfl rfl rfl rfl (SsOk.cons (SOk.u8 (drawF_len hdf)) SsOk.nil) (fun w_23 h_24 => ?_)
 refine WL.nil (thn_n (WP.seq (WP.reg ?_)))
 refine qV rfl (R.fieldAddr (b := b_1) (off := 0) (off' := 34) rfl Try.underlying103 rfl Try.sizeOf37 rfl rfl) (qV rfl (R.load1 (b := b_1) (off := 34) (v := (.slice qa qn qc)) rfl Try.isAgg37 (h_24.ok _ M5) (Sg.t rfl (Sg.t rfl (Sg.t rfl Sg.h)))) ?_)
 refine WL.call Try.call58 rfl rfl (c_Clone qa qn qc data hdl (by omega) _ (viewV (h_24.ok _ M9))) rfl ?_
 rintro _ w_27 ⟨a_25, cap_26, rfl, hc_28, ho_29⟩
 have h_30 := h_24.gotRow hc_28 ho_29
 refine qV rfl (R.fieldAddr (b := b_1) (off := 0) (off' := 34) rfl Try.underlying103 rfl Try.sizeOf37 rfl rfl) ?_
 refine WL.store1 (b := b_1) (off := 34) (v := (.slice a_25 qn cap_26)) h_30 rfl rfl Try.sizeOf37 rfl Y6 (by decide) (Sg.t rfl (Sg.t rfl (Sg.t rfl Sg.h))) (fun w_31 h_32 => ?_)
 refine WL.nil (thn_n (WP.seq ?_))
 refine WP.drawT (SL w00.heap.size [.row a_25 qn cap_26 5 1 (data.map vu8), .blk ob .nw 50 [(1, [(.bool true)]), (32, ms.map vu8), (1, [(.slice da dn dc)]), (1, [(vn ((u + 1)))]), (1, [(.map (some mp))]), (1, [(.slice la lg.length lc)])], .view da (df.map vu8), .blk b_16 .nw 23 [(32, (drawF df dn u).map vu8)], .blk b_8 .nw 157 [(1, [(vi kd)]), (32, key.map vu8), (1, [(vi dm)]), (1, [(.string (bstr data))])], .blk b_4 .nw 23 [(32, (List.replicate 32 (0 : UInt8)).map vu8)], .blk b_1 .nw 103 [(1, [(vi kd)]), (32, key.map vu8), (1, [(vi dm)]), (1, [(.slice a_25 qn cap_26)])], .row la lg.length lc 111 67 lx, .pin (sblks lx) (fun w => Lgs w lx lg), .view qa (data.map vu8)]) (.q 0 (.q 1 (.q 2 (.q 3 (.q 4 (.q 5 (.q 6 (.q 7 (.q 8 (.q 9 (.s 10 .nil))))))))))) (by kernel_rfl) (by kernel_rfl) rfl (by kernel_rfl) (fun w_33 hc_35 => (SL.cons ((h_32.same hc_35).ok _ M0) (SL.cons ((h_32.same hc_35).ok _ M1) (SL.cons ((h_32.same hc_35).ok _ M2) (SL.cons ((h_32.same hc_35).ok _ M3) (SL.cons ((h_32.same hc_35).ok _ M4) (SL.cons ((h_32.same hc_35).ok _ M5) (SL.cons ((h_32.same hc_35).ok _ M6) (SL.cons ((h_32.same hc_35).ok _ M7) (SL.cons ((h_32.same hc_35).ok _ M9) (SL.cons ((h_32.same hc_35).ok _ M10) (SL.nil _ _)))))))))))) (fun w_33 hc_35 => ?_)
 have h_34 := h_32.same hc_35
 refine qT rfl rfl (fun wq hS => R.move (v := (pO ob 0)) rfl) ?_
 refine qT rfl rfl (fun wq hS => R.nilCheck rfl) ?_
 refine qT rfl rfl (fun wq hS => R.fieldAddr (b := ob) (off := 0) (off' := 35) rfl Try.underlying50 rfl Try.sizeOf47 rfl rfl) ?_
 refine qT rfl rfl (fun wq hS => R.load1 (b := ob) (off := 35) (v := (.map (some mp))) rfl Try.isAgg47 (hS _ M1) (Sg.t rfl (Sg.t rfl (Sg.t rfl (Sg.t rfl Sg.h))))) ?_
 refine qT rfl rfl (fun wq hS => R.loadA (b := b_8) (off := 0) [] [(1, [(vi kd)]), (32, key.map vu8), (1, [(vi dm)]), (1, [(.string (bstr data))])] [] (cs := flat [(1, [(vi kd)]), (32, key.map vu8), (1, [(vi dm)]), (1, [(.string (bstr data))])]) rfl Try.isAgg157 Try.sizeOf157 (hS _ M4) rfl rfl rfl rfl) ?_
 refine qT rfl rfl (fun wq hS => R.move (v := (pO ob 0)) rfl) ?_
 refine qT rfl rfl (fun wq hS => R.nilCheck rfl) ?_
 refine qT rfl rfl (fun wq hS => R.fieldAddr (b := ob) (off := 0) (off' := 36) rfl Try.underlying50 rfl Try.sizeOf48 rfl rfl) ?_
 refine qT rfl rfl (fun wq hS => R.load1 (b := ob) (off := 36) (v := (.slice la lg.length lc)) rfl Try.isAgg48 (hS _ M1) (Sg.t rfl (Sg.t rfl (Sg.t rfl (Sg.t rfl (Sg.t rfl Sg.h)))))) ?_
 refine qT rfl rfl (fun wq hS => R.lenS (a := la) (m := lg.length) rfl rfl Try.underlying48) ?_
 refine WT.s (Op1.one rfl (Wn.no rfl) ?_)
 refine WL.mapUpdate (k := (.agg ⟨flat [(1, [(vi kd)]), (32, key.map vu8), (1, [(vi dm)]), (1, [(.string (bstr data))])]⟩)) (v := (vn (lg.length))) h_34 rfl rfl rfl Try.underlying47 Y8 (by decide) (Ck.agg kt157 (by decide) ag157 (typQ (kd, key, dm, data) hq)) (log_miss kt157 (by decide) ag157 typQ hq hlo hfd) (fun w_36 h_37 => ?_)
 refine WL.nil ?_
 refine ⟨(SL.cons (h_37.ok _ M0) (SL.cons (h_37.ok _ M1) (SL.cons (h_37.ok _ M2) (SL.cons (h_37.ok _ M3) (SL.cons (h_37.ok _ M4) (SL.cons (h_37.ok _ M5) (SL.cons (h_37.ok _ M6) (SL.cons (h_37.ok _ M7) (SL.cons (h_37.ok _ M9) (SL.cons (h_37.ok _ M10) (SL.nil _ _))))))))))), ?_⟩
 refine WT.nil (thn_n (WP.seq ?_))
 refine WP.cutG (G := Nat × Option Addr × Nat) [61, 62, 63, 64, 65, 66, 67, 68, 69, 70, 71, 72] (fun (bY11Y8Y0Y0, aY11Y9Y0Y0, cY11Y9Y0Y0) => [(61, (pO ob 0)), (62, (pO ob 0)), (63, (pO ob 0)), (64, (pO ob 36)), (66, (.agg ⟨flat [(1, [(vi kd)]), (32, key.map vu8), (1, [(vi dm)]), (1, [(.slice a_25 qn cap_26)])]⟩)), (67, (.agg ⟨(drawF df dn u).map vu8⟩)), (68, (.agg ⟨flat [(1, [(vi kd)]), (32, key.map vu8), (1, [(vi dm)]), (1, [(.slice a_25 qn cap_26)]), (32, (drawF df dn u).map vu8)]⟩)), (65, (.slice la lg.length lc)), (69, (.slice (some ⟨bY11Y8Y0Y0, 0, none⟩) 1 1)), (70, (.slice aY11Y9Y0Y0 (lg.length + 1) cY11Y9Y0Y0)), (71, (pO ob 0)), (72, (pO ob 36))]) (fun (bY11Y8Y0Y0, aY11Y9Y0Y0, cY11Y9Y0Y0) w1 => HP w00 w1 (Ent.blk bY11Y8Y0Y0 .nw 111 [(67, aC (kd, key, dm, data) (.slice a_25 qn cap_26) (drawF df dn u))] :: Ent.row a_25 qn cap_26 5 1 (data.map vu8) :: Ent.blk ob .nw 50 [(1, [(.bool true)]), (32, ms.map vu8), (1, [(.slice da dn dc)]), (1, [(vn ((u + 1)))]), (1, [(.map (some mp))]), (1, [(.slice aY11Y9Y0Y0 (lg.length + 1) cY11Y9Y0Y0)])] :: Ent.view da (df.map vu8) :: Ent.blk b_16 .nw 23 [(32, (drawF df dn u).map vu8)] :: Ent.blk b_8 .nw 157 [(1, [(vi kd)]), (32, key.map vu8), (1, [(vi dm)]), (1, [(.string (bstr data))])] :: Ent.blk b_4 .nw 23 [(32, (List.replicate 32 (0 : UInt8)).map vu8)] :: Ent.blk b_1 .nw 103 [(1, [(vi kd)]), (32, key.map vu8), (1, [(vi dm)]), (1, [(.slice a_25 qn cap_26)])] :: Ent.row aY11Y9Y0Y0 (lg.length + 1) cY11Y9Y0Y0 111 67 (lx ++ aC (kd, key, dm, data) (.slice a_25 qn cap_26) (drawF df dn u)) :: Ent.obj mp .nw (.map ((mArr lg).push { key := (.agg ⟨flat [(1, [(vi kd)]), (32, key.map vu8), (1, [(vi dm)]), (1, [(.string (bstr data))])]⟩), val := (vn (lg.length)), born := lg.length }) (lg.length + 1)) :: Ent.pin (sblks lx) (fun w => Lgs w lx lg) :: Ent.view qa (data.map vu8) :: L)) ?_ ?_
 ·refine WP.drawT (SL w00.heap.size [.row a_25 qn cap_26 5 1 (data.map vu8), .view da (df.map vu8), .blk b_16 .nw 23 [(32, (drawF df dn u).map vu8)], .blk b_8 .nw 157 [(1, [(vi kd)]), (32, key.map vu8), (1, [(vi dm)]), (1, [(.string (bstr data))])], .blk b_4 .nw 23 [(32, (List.replicate 32 (0 : UInt8)).map vu8)], .blk b_1 .nw 103 [(1, [(vi kd)]), (32, key.map vu8), (1, [(vi dm)]), (1, [(.slice a_25 qn cap_26)])], .obj mp .nw (.map ((mArr lg).push { key := (.agg ⟨flat [(1, [(vi kd)]), (32, key.map vu8), (1, [(vi dm)]), (1, [(.string (bstr data))])]⟩), val := (vn (lg.length)), born := lg.length }) (lg.length + 1)), .pin (sblks lx) (fun w => Lgs w lx lg), .view qa (data.map vu8)]) (.q 0 (.q 1 (.q 2 (.q 3 (.q 5 (.q 6 (.q 7 (.s2 4 8 (.s 8 (.s 9 (.q 10 (.q 11 (.s 12 .nil))))) (.s 4 (.s 9 (.q 10 (.q 11 (.s 12 .nil))))))))))))) (by kernel_rfl) (by kernel_rfl) rfl (by kernel_rfl) (fun w_38 hc_40 => (SL.cons ((h_37.same hc_40).ok _ M0) (SL.cons ((h_37.same hc_40).ok _ M2) (SL.cons ((h_37.same hc_40).ok _ M3) (SL.cons ((h_37.same hc_40).ok _ M4) (SL.cons ((h_37.same hc_40).ok _ M5) (SL.cons ((h_37.same hc_40).ok _ M6) (SL.cons ((h_37.same hc_40).ok _ M8) (SL.cons ((h_37.same hc_40).ok _ M9) (SL.cons ((h_37.same hc_40).ok _ M10) (SL.nil _ _))))))))))) (fun w_38 hc_40 => ?_)
  have h_39 := h_37.same hc_40
  refine qT rfl rfl (fun wq hS => R.move (v := (pO ob 0)) rfl) ?_
  refine qT rfl rfl (fun wq hS => R.move (v := (pO ob 0)) rfl) ?_
  refine qT rfl rfl (fun wq hS => R.nilCheck rfl) ?_
  refine qT rfl rfl (fun wq hS => R.fieldAddr (b := ob) (off := 0) (off' := 36) rfl Try.underlying50 rfl Try.sizeOf48 rfl rfl) ?_
  refine qT rfl rfl (fun wq hS => R.loadA (b := b_1) (off := 0) [] [(1, [(vi kd)]), (32, key.map vu8), (1, [(vi dm)]), (1, [(.slice a_25 qn cap_26)])] [] (cs := flat [(1, [(vi kd)]), (32, key.map vu8), (1, [(vi dm)]), (1, [(.slice a_25 qn cap_26)])]) rfl Try.isAgg103 Try.sizeOf103 (hS _ M5) rfl rfl rfl rfl) ?_
  refine qT rfl rfl (fun wq hS => R.loadA (b := b_16) (off := 0) [] [(32, (drawF df dn u).map vu8)] [] (cs := (drawF df dn u).map vu8) rfl Try.isAgg23 Try.sizeOf23 (hS _ M2) rfl rfl rfl rfl) ?_
  refine qT rfl rfl (fun wq hS => R.buildS (pl := [(0, 35), (35, 32)]) (zs := [(1, [(vi 0)]), (32, (List.replicate 32 (0 : UInt8)).map vu8), (1, [(vi 0)]), (1, [(.slice none 0 0)]), (32, (List.replicate 32 (0 : UInt8)).map vu8)]) (vs := [(0, (.agg ⟨flat [(1, [(vi kd)]), (32, key.map vu8), (1, [(vi dm)]), (1, [(.slice a_25 qn cap_26)])]⟩)), (1, (.agg ⟨(drawF df dn u).map vu8⟩))]) (out := [(1, [(vi kd)]), (32, key.map vu8), (1, [(vi dm)]), (1, [(.slice a_25 qn cap_26)]), (32, (drawF df dn u).map vu8)]) (cs := flat [(1, [(vi kd)]), (32, key.map vu8), (1, [(vi dm)]), (1, [(.slice a_25 qn cap_26)]), (32, (drawF df dn u).map vu8)]) Try.underlying111 (zv Try.typeInfo111 rfl) rfl (SsOk.cons (SOk.v rfl) (SsOk.cons (SOk.u8 lr) (SsOk.cons (SOk.v rfl) (SsOk.cons (SOk.v rfl) (SsOk.cons (SOk.u8 lr) SsOk.nil))))) (pl111 _ Try.underlying111) rfl (FillR.cons [] [(1, [(vi 0)]), (32, (List.replicate 32 (0 : UInt8)).map vu8), (1, [(vi 0)]), (1, [(.slice none 0 0)])] [(1, [(vi kd)]), (32, key.map vu8), (1, [(vi dm)]), (1, [(.slice a_25 qn cap_26)])] [(32, (List.replicate 32 (0 : UInt8)).map vu8)] rfl rfl rfl rfl (SsOk.cons (SOk.v rfl) (SsOk.cons (SOk.u8 hq.1) (SsOk.cons (SOk.v rfl) (SsOk.cons (SOk.v rfl) SsOk.nil)))) rfl rfl rfl (FillR.cons [(1, [(vi kd)]), (32, key.map vu8), (1, [(vi dm)]), (1, [(.slice a_25 qn cap_26)])] [(32, (List.replicate 32 (0 : UInt8)).map vu8)] [(32, (drawF df dn u).map vu8)] [] rfl rfl rfl rfl (SsOk.cons (SOk.u8 (drawF_len hdf)) SsOk.nil) rfl rfl rfl FillR.nil)) rfl) ?_
  refine WT.s2 ?_ ?_
  ·refine Op1.one rfl (Wn.no rfl) ?_
   refine qV rfl (R.load1 (b := ob) (off := 36) (v := (.slice la lg.length lc)) rfl Try.isAgg48 (h_39.ok _ M1) (Sg.t rfl (Sg.t rfl (Sg.t rfl (Sg.t rfl (Sg.t rfl Sg.h)))))) ?_
   refine WL.nil ?_
   refine ⟨(SL.cons (h_39.ok _ M0) (SL.cons (h_39.ok _ M2) (SL.cons (h_39.ok _ M3) (SL.cons (h_39.ok _ M4) (SL.cons (h_39.ok _ M5) (SL.cons (h_39.ok _ M6) (SL.cons (h_39.ok _ M8) (SL.cons (h_39.ok _ M9) (SL.cons (h_39.ok _ M10) (SL.nil _ _)))))))))), ?_⟩
   refine WT.s (Op1.one rfl (Wn.no rfl) ?_)
   refine WL.buildSl (vs := [(0, (.agg ⟨flat [(1, [(vi kd)]), (32, key.map vu8), (1, [(vi dm)]), (1, [(.slice a_25 qn cap_26)]), (32, (drawF df dn u).map vu8)]⟩))]) (cs := aC (kd, key, dm, data) (.slice a_25 qn cap_26) (drawF df dn u)) h_39 Try.underlying48 Try.sizeOf111 (zv Try.typeInfo111 rfl) rfl rfl (fill_1 (zc := flat [(1, [vi 0]), (32, List.replicate 32 (vu8 0)), (1, [vi 0]), (1, [.slice none 0 0]), (32, List.replicate 32 (vu8 0))]) (by kernel_rfl) (SsOk.cons (s := (67, flat [(1, [vi 0]), (32, List.replicate 32 (vu8 0)), (1, [vi 0]), (1, [.slice none 0 0]), (32, List.replicate 32 (vu8 0))])) ⟨by decide, SsOk.one (SsOk.cons (SOk.v rfl) (SsOk.cons (SOk.rep rfl) (SsOk.cons (SOk.v rfl) (SsOk.cons (SOk.v rfl) (SsOk.cons (SOk.rep rfl) SsOk.nil)))))⟩ SsOk.nil) (aC_ok (q := (kd, key, dm, data)) (s := (.slice a_25 qn cap_26)) (d := drawF df dn u) hq.1 (drawF_len hdf) rfl)) ((aC_ok (q := (kd, key, dm, data)) (s := (.slice a_25 qn cap_26)) (d := drawF df dn u) hq.1 (drawF_len hdf) rfl)).head.len ((aC_ok (q := (kd, key, dm, data)) (s := (.slice a_25 qn cap_26)) (d := drawF df dn u) hq.1 (drawF_len hdf) rfl)).head.one rfl rfl (fun b_42 w_43 h_44 => ?_)
   refine WL.nil ?_
   refine ⟨(SL.cons (h_44.ok _ M1) (SL.cons (h_44.ok _ M3) (SL.cons (h_44.ok _ M4) (SL.cons (h_44.ok _ M5) (SL.cons (h_44.ok _ M6) (SL.cons (h_44.ok _ M7) (SL.cons (h_44.ok _ M9) (SL.cons (h_44.ok _ M10) (SL.cons (h_44.ok _ M11) (SL.nil _ _)))))))))), ?_⟩
   refine WT.s (Op1.one rfl (Wn.no rfl) ?_)
   refine WL.append (km := lg.length + 1) (xs := lx) (ys := aC (kd, key, dm, data) (.slice a_25 qn cap_26) (drawF df dn u)) (zs := lx ++ aC (kd, key, dm, data) (.slice a_25 qn cap_26) (drawF df dn u)) h_44 rfl rfl el48 (viewB (h_44.ok _ M0) Sg.h) ((aC_ok (q := (kd, key, dm, data)) (s := (.slice a_25 qn cap_26)) (d := drawF df dn u) hq.1 (drawF_len hdf) rfl)).head.len ((aC_ok (q := (kd, key, dm, data)) (s := (.slice a_25 qn cap_26)) (d := drawF df dn u) hq.1 (drawF_len hdf) rfl)).head.one rfl (by omega) (by omega) (by omega) (fun _ _ => Y8) rfl (fun a_45 c_46 w_47 h_48 => ?_)
   refine WL.nil ?_
   refine ⟨(SL.cons (h_48.ok _ M1) (SL.cons (h_48.ok _ M3) (SL.cons (h_48.ok _ M4) (SL.cons (h_48.ok _ M5) (SL.cons (h_48.ok _ M6) (SL.cons (h_48.ok _ M7) (SL.cons (h_48.ok _ M9) (SL.cons (h_48.ok _ M10) (SL.cons (h_48.ok _ M11) (SL.nil _ _)))))))))), ?_⟩
   refine qT rfl rfl (fun wq hS => R.nilCheck rfl) ?_
   refine qT rfl rfl (fun wq hS => R.fieldAddr (b := ob) (off := 0) (off' := 36) rfl Try.underlying50 rfl Try.sizeOf48 rfl rfl) ?_
   refine WT.s (Op1.one rfl (Wn.no rfl) ?_)
   refine WL.store1 (b := ob) (off := 36) (v := (.slice a_45 (lg.length + 1) c_46)) h_48 rfl rfl Try.sizeOf48 rfl Y2 (by decide) (Sg.t rfl (Sg.t rfl (Sg.t rfl (Sg.t rfl (Sg.t rfl Sg.h))))) (fun w_49 h_50 => ?_)
   refine WL.nil ?_
   refine ⟨(SL.cons (h_50.ok _ M1) (SL.cons (h_50.ok _ M3) (SL.cons (h_50.ok _ M4) (SL.cons (h_50.ok _ M5) (SL.cons (h_50.ok _ M6) (SL.cons (h_50.ok _ M7) (SL.cons (h_50.ok _ M9) (SL.cons (h_50.ok _ M10) (SL.cons (h_50.ok _ M11) (SL.nil _ _)))))))))), ?_⟩
   refine WT.nil (thn_n ?_)
   exact ⟨(b_42, a_45, c_46), (U4 rfl rfl rfl rfl (U4 rfl rfl rfl rfl (U4 rfl rfl rfl rfl (Ag.refl _ _)))), ⟨rfl, rfl, rfl, rfl, rfl, rfl, rfl, rfl, rfl, rfl, rfl, rfl, trivial⟩, h_50⟩
  ·refine Op1.one rfl (Wn.no rfl) ?_
   refine WL.buildSl (vs := [(0, (.agg ⟨flat [(1, [(vi kd)]), (32, key.map vu8), (1, [(vi dm)]), (1, [(.slice a_25 qn cap_26)]), (32, (drawF df dn u).map vu8)]⟩))]) (cs := aC (kd, key, dm, data) (.slice a_25 qn cap_26) (drawF df dn u)) h_39 Try.underlying48 Try.sizeOf111 (zv Try.typeInfo111 rfl) rfl rfl (fill_1 (zc := flat [(1, [vi 0]), (32, List.replicate 32 (vu8 0)), (1, [vi 0]), (1, [.slice none 0 0]), (32, List.replicate 32 (vu8 0))]) (by kernel_rfl) (SsOk.cons (s := (67, flat [(1, [vi 0]), (32, List.replicate 32 (vu8 0)), (1, [vi 0]), (1, [.slice none 0 0]), (32, List.replicate 32 (vu8 0))])) ⟨by decide, SsOk.one (SsOk.cons (SOk.v rfl) (SsOk.cons (SOk.rep rfl) (SsOk.cons (SOk.v rfl) (SsOk.cons (SOk.v rfl) (SsOk.cons (SOk.rep rfl) SsOk.nil)))))⟩ SsOk.nil) (aC_ok (q := (kd, key, dm, data)) (s := (.slice a_25 qn cap_26)) (d := drawF df dn u) hq.1 (drawF_len hdf) rfl)) ((aC_ok (q := (kd, key, dm, data)) (s := (.slice a_25 qn cap_26)) (d := drawF df dn u) hq.1 (drawF_len hdf) rfl)).head.len ((aC_ok (q := (kd, key, dm, data)) (s := (.slice a_25 qn cap_26)) (d := drawF df dn u) hq.1 (drawF_len hdf) rfl)).head.one rfl rfl (fun b_51 w_52 h_53 => ?_)
   refine WL.nil ?_
   refine ⟨(SL.cons (h_53.ok _ M1) (SL.cons (h_53.ok _ M3) (SL.cons (h_53.ok _ M4) (SL.cons (h_53.ok _ M5) (SL.cons (h_53.ok _ M6) (SL.cons (h_53.ok _ M7) (SL.cons (h_53.ok _ M9) (SL.cons (h_53.ok _ M10) (SL.cons (h_53.ok _ M11) (SL.nil _ _)))))))))), ?_⟩
   refine WT.s (Op1.one rfl (Wn.no rfl) ?_)
   refine qV rfl (R.load1 (b := ob) (off := 36) (v := (.slice la lg.length lc)) rfl Try.isAgg48 (h_53.ok _ M2) (Sg.t rfl (Sg.t rfl (Sg.t rfl (Sg.t rfl (Sg.t rfl Sg.h)))))) ?_
   refine WL.nil ?_
   refine ⟨(SL.cons (h_53.ok _ M1) (SL.cons (h_53.ok _ M3) (SL.cons (h_53.ok _ M4) (SL.cons (h_53.ok _ M5) (SL.cons (h_53.ok _ M6) (SL.cons (h_53.ok _ M7) (SL.cons (h_53.ok _ M9) (SL.cons (h_53.ok _ M10) (SL.cons (h_53.ok _ M11) (SL.nil _ _)))))))))), ?_⟩
   refine WT.s (Op1.one rfl (Wn.no rfl) ?_)
   refine WL.append (km := lg.length + 1) (xs := lx) (ys := aC (kd, key, dm, data) (.slice a_25 qn cap_26) (drawF df dn u)) (zs := lx ++ aC (kd, key, dm, data) (.slice a_25 qn cap_26) (drawF df dn u)) h_53 rfl rfl el48 (viewB (h_53.ok _ M0) Sg.h) ((aC_ok (q := (kd, key, dm, data)) (s := (.slice a_25 qn cap_26)) (d := drawF df dn u) hq.1 (drawF_len hdf) rfl)).head.len ((aC_ok (q := (kd, key, dm, data)) (s := (.slice a_25 qn cap_26)) (d := drawF df dn u) hq.1 (drawF_len hdf) rfl)).head.one rfl (by omega) (by omega) (by omega) (fun _ _ => Y8) rfl (fun a_54 c_55 w_56 h_57 => ?_)
   refine WL.nil ?_
   refine ⟨(SL.cons (h_57.ok _ M1) (SL.cons (h_57.ok _ M3) (SL.cons (h_57.ok _ M4) (SL.cons (h_57.ok _ M5) (SL.cons (h_57.ok _ M6) (SL.cons (h_57.ok _ M7) (SL.cons (h_57.ok _ M9) (SL.cons (h_57.ok _ M10) (SL.cons (h_57.ok _ M11) (SL.nil _ _)))))))))), ?_⟩
   refine qT rfl rfl (fun wq hS => R.nilCheck rfl) ?_
   refine qT rfl rfl (fun wq hS => R.fieldAddr (b := ob) (off := 0) (off' := 36) rfl Try.underlying50 rfl Try.sizeOf48 rfl rfl) ?_
   refine WT.s (Op1.one rfl (Wn.no rfl) ?_)
   refine WL.store1 (b := ob) (off := 36) (v := (.slice a_54 (lg.length + 1) c_55)) h_57 rfl rfl Try.sizeOf48 rfl Y2 (by decide) (Sg.t rfl (Sg.t rfl (Sg.t rfl (Sg.t rfl (Sg.t rfl Sg.h))))) (fun w_58 h_59 => ?_)
   refine WL.nil ?_
   refine ⟨(SL.cons (h_59.ok _ M1) (SL.cons (h_59.ok _ M3) (SL.cons (h_59.ok _ M4) (SL.cons (h_59.ok _ M5) (SL.cons (h_59.ok _ M6) (SL.cons (h_59.ok _ M7) (SL.cons (h_59.ok _ M9) (SL.cons (h_59.ok _ M10) (SL.cons (h_59.ok _ M11) (SL.nil _ _)))))))))), ?_⟩
   refine WT.nil (thn_n ?_)
   exact ⟨(b_51, a_54, c_55), (U4 rfl rfl rfl rfl (U4 rfl rfl rfl rfl (U4 rfl rfl rfl rfl (Ag.refl _ _)))), ⟨rfl, rfl, rfl, rfl, rfl, rfl, rfl, rfl, rfl, rfl, rfl, rfl, trivial⟩, h_59⟩
 ·rintro ⟨b_63, a_64, c_65⟩ J_60 w_61 h_62
  refine thn_n (WP.seq (WP.reg ?_))
  refine qV rfl (R.loadA (b := b_16) (off := 0) [] [(32, (drawF df dn u).map vu8)] [] (cs := (drawF df dn u).map vu8) rfl Try.isAgg23 Try.sizeOf23 (h_62.ok _ M4) rfl rfl rfl rfl) ?_
  refine WL.storeA (b := b_4) (off := 0) [] [(32, (List.replicate 32 (0 : UInt8)).map vu8)] [(32, (drawF df dn u).map vu8)] [] (ys := (drawF df dn u).map vu8) h_62 rfl rfl Try.sizeOf23 Y6 (by decide) rfl rfl rfl rfl rfl rfl (SsOk.cons (SOk.u8 (drawF_len hdf)) SsOk.nil) (fun w_66 h_67 => ?_)
  refine WL.nil (thn_n (WP.ret ?_))
  refine ret_of Try.results79 (RV.cell rfl (h_67.loadA (cs := (drawF df dn u).map vu8) Try.isAgg23 Try.sizeOf23 M6 rfl rfl) RV.nil) ?_
  have h_83 := (((((((((((((((h_67.drop rfl).up J3).drop rfl).up J3).drop rfl).up J3).drop rfl).up J3).drop rfl).up J6).up J3).up J5).up J5).up J5).up J6).up J6
  have h_84 := HP_logPush (q := (kd, key, dm, data)) (d := drawF df dn u) h_83 hq (drawF_len hdf) hdl
  have h_95 := (((((((((h_84.up J1).drop rfl).up J1).drop rfl).up J5).up J5).up J2).up J5).up J5).up J5
  have hse : lg.length + 1 = (lg ++ [((kd, key, dm, data), drawF df dn u)]).length := snoc_len.symm
  have hme := mArr_push lg (kd, key, dm, data) (drawF df dn u)
  have h_85 := h_95
  rw [hse] at h_85
  exact ⟨_, _, _, by rw [anD_miss hfd]; rfl, by rw [anU_miss hfd, anL_miss hfd]; show HP _ _ (_ :: _ :: .obj _ _ (.map (mArr (lg ++ [((kd, key, dm, data), drawF df dn u)])) _) :: _); rw [hme]; exact h_85⟩

theorem c_ans_missF {w00 : World} {L : List Ent} (ob mp : Nat) (ms df : List UInt8) (hms : ms.length = 32) (da : Option Addr) (dn dc u : Nat) (hdf : df.length = 32 * dn) (la : Option Addr) (lc : Nat) (lx : List Value) (lg : Lg) (hu : u ≤ 1000000) (hlg : lg.length ≤ 1000000) (kd dm : Int) (key data : List UInt8) (qa : Option Addr) (qn qc : Nat) (hq : okQ (kd, key, dm, data)) (hdl : data.length = qn) (bq : Nat) (hfd : fdq (kd, key, dm, data) lg 0 = none) (w : World) (h_0 : HP w00 w (Ent.blk ob .nw 50 [(1, [(.bool false)]), (32, ms.map vu8), (1, [(.slice da dn dc)]), (1, [(vi ((u : Nat) : Int))]), (1, [(.map (some mp))]), (1, [(.slice la lg.length lc)])] :: Ent.row la lg.length lc 111 67 lx :: Ent.obj mp .nw (.map (mArr lg) lg.length) :: Ent.pin (sblks lx) (fun w => Lgs w lx lg) :: Ent.view da (df.map vu8) :: Ent.view qa (data.map vu8) :: Ent.blk bq .nw 103 [(1, [(vi kd)]), (32, key.map vu8), (1, [(vi dm)]), (1, [(.slice qa qn qc)])] :: L)) :
  Cs Try.prog 79 [(.pointer (some ⟨ob, 0, none⟩)), (.agg ⟨flat [(1, [(vi kd)]), (32, key.map vu8), (1, [(vi dm)]), (1, [(.slice qa qn qc)])]⟩), (Value.func (Fn.func 80) [].toArray [(Value.pointer (some ⟨bq, 0, none⟩))].toArray)].toArray w (fun v w1 => ∃ la' lc' lx', v = (.agg ⟨(anD false df dn u lg (kd, key, dm, data)).map vu8⟩) ∧ HP w00 w1 (Ent.blk ob .nw 50 [(1, [(.bool false)]), (32, ms.map vu8), (1, [(.slice da dn dc)]), (1, [(vi (((anU false u lg (kd, key, dm, data)) : Nat) : Int))]), (1, [(.map (some mp))]), (1, [(.slice la' ((anL false df dn u lg (kd, key, dm, data)).length) lc')])] :: Ent.row la' ((anL false df dn u lg (kd, key, dm, data)).length) lc' 111 67 lx' :: Ent.obj mp .nw (.map (mArr (anL false df dn u lg (kd, key, dm, data))) ((anL false df dn u lg (kd, key, dm, data)).length)) :: Ent.pin (sblks lx') (fun w => Lgs w lx' (anL false df dn u lg (kd, key, dm, data))) :: Ent.view da (df.map vu8) :: Ent.view qa (data.map vu8) :: Ent.blk bq .nw 103 [(1, [(vi kd)]), (32, key.map vu8), (1, [(vi dm)]), (1, [(.slice qa qn qc)])] :: L)) := by
 have hlgs : Lgs w lx lg := (h_0.ok _ M3).1
 have hlo := hlgs.ok
 have hqn : data.length ≤ 1000000000 := hq.2.2.2
 refine Cs.of (n := 74) (args := [(pO ob 0), (.agg ⟨flat [(1, [(vi kd)]), (32, key.map vu8), (1, [(vi dm)]), (1, [(.slice qa qn qc)])]⟩), (Value.func (Fn.func 80) [].toArray [(Value.pointer (some ⟨bq, 0, none⟩))].toArray)]) Try.func79 rfl rfl rfl ?_
 refine WP.seq (WP.reg ?_)
 refine WL.box (v := (.agg ⟨flat [(1, [(vi kd)]), (32, key.map vu8), (1, [(vi dm)]), (1, [(.slice qa qn qc)])]⟩)) (segs := [(1, [(vi kd)]), (32, key.map vu8), (1, [(vi dm)]), (1, [(.slice qa qn qc)])]) h_0 rfl rfl (SsOk.cons (SOk.v rfl) (SsOk.cons (SOk.u8 hq.1) (SsOk.cons (SOk.v rfl) (SsOk.cons (SOk.v rfl) SsOk.nil)))) rfl (fun b_1 w_2 h_3 => ?_)
 refine WL.alloc (segs := [(32, (List.replicate 32 (0 : UInt8)).map vu8)]) h_3 (zv Try.typeInfo23 rfl) rfl (SsOk.cons (SOk.u8 lr) SsOk.nil) rfl (fun b_4 w_5 h_6 => ?_)
 refine WL.nil (thn_n (WP.seq (WP.reg ?_)))
 refine qV rfl (R.fieldAddr (b := b_1) (off := 0) (off' := 0) rfl Try.underlying103 rfl Try.sizeOf101 rfl rfl) (qV rfl (R.load1 (b := b_1) (off := 0) (v := (vi kd)) rfl Try.isAgg101 (h_6.ok _ M1) Sg.h) (qV rfl (R.fieldAddr (b := b_1) (off := 0) (off' := 1) rfl Try.underlying103 rfl Try.sizeOf23 rfl rfl) (qV rfl (R.loadA (b := b_1) (off := 1) [(1, [(vi kd)])] [(32, key.map vu8)] [(1, [(vi dm)]), (1, [(.slice qa qn qc)])] (cs := key.map vu8) rfl Try.isAgg23 Try.sizeOf23 (h_6.ok _ M1) rfl rfl rfl rfl) (qV rfl (R.fieldAddr (b := b_1) (off := 0) (off' := 33) rfl Try.underlying103 rfl Try.sizeOf56 rfl rfl) (qV rfl (R.load1 (b := b_1) (off := 33) (v := (vi dm)) rfl Try.isAgg56 (h_6.ok _ M1) (Sg.t rfl (Sg.t rfl Sg.h))) (qV rfl (R.fieldAddr (b := b_1) (off := 0) (off' := 34) rfl Try.underlying103 rfl Try.sizeOf37 rfl rfl) (qV rfl (R.load1 (b := b_1) (off := 34) (v := (.slice qa qn qc)) rfl Try.isAgg37 (h_6.ok _ M1) (Sg.t rfl (Sg.t rfl (Sg.t rfl Sg.h)))) (qV rfl (R.toStr (bs := data) rfl Try.underlying37 Try.underlying5 Try.underlying9 (viewV (h_6.ok _ M7)) hdl) (qV rfl (R.buildS (pl := [(0, 1), (1, 32), (33, 1), (34, 1)]) (zs := [(1, [(vi 0)]), (32, (List.replicate 32 (0 : UInt8)).map vu8), (1, [(vi 0)]), (1, [(.string (bstr ([] : List UInt8)))])]) (vs := [(0, (vi kd)), (1, (.agg ⟨key.map vu8⟩)), (2, (vi dm)), (3, (.string (bstr data)))]) (out := [(1, [(vi kd)]), (32, key.map vu8), (1, [(vi dm)]), (1, [(.string (bstr data))])]) (cs := flat [(1, [(vi kd)]), (32, key.map vu8), (1, [(vi dm)]), (1, [(.string (bstr data))])]) Try.underlying157 (zv Try.typeInfo157 rfl) rfl (SsOk.cons (SOk.v rfl) (SsOk.cons (SOk.u8 lr) (SsOk.cons (SOk.v rfl) (SsOk.cons (SOk.v rfl) SsOk.nil)))) (pl157 _ Try.underlying157) rfl (FillR.cons [] [(1, [(vi 0)])] [(1, [(vi kd)])] [(32, (List.replicate 32 (0 : UInt8)).map vu8), (1, [(vi 0)]), (1, [(.string (bstr ([] : List UInt8)))])] rfl rfl rfl rfl (SsOk.cons (SOk.v rfl) SsOk.nil) rfl rfl rfl (FillR.cons [(1, [(vi kd)])] [(32, (List.replicate 32 (0 : UInt8)).map vu8)] [(32, key.map vu8)] [(1, [(vi 0)]), (1, [(.string (bstr ([] : List UInt8)))])] rfl rfl rfl rfl (SsOk.cons (SOk.u8 hq.1) SsOk.nil) rfl rfl rfl (FillR.cons [(1, [(vi kd)]), (32, key.map vu8)] [(1, [(vi 0)])] [(1, [(vi dm)])] [(1, [(.string (bstr ([] : List UInt8)))])] rfl rfl rfl rfl (SsOk.cons (SOk.v rfl) SsOk.nil) rfl rfl rfl (FillR.cons [(1, [(vi kd)]), (32, key.map vu8), (1, [(vi dm)])] [(1, [(.string (bstr ([] : List UInt8)))])] [(1, [(.string (bstr data))])] [] rfl rfl rfl rfl (SsOk.cons (SOk.v rfl) SsOk.nil) rfl rfl rfl FillR.nil)))) rfl) ?_)))))))))
 refine WL.alloc (segs := [(1, [(vi 0)]), (32, (List.replicate 32 (0 : UInt8)).map vu8), (1, [(vi 0)]), (1, [(.string (bstr ([] : List UInt8)))])]) h_6 (zv Try.typeInfo157 rfl) rfl (SsOk.cons (SOk.v rfl) (SsOk.cons (SOk.u8 lr) (SsOk.cons (SOk.v rfl) (SsOk.cons (SOk.v rfl) SsOk.nil)))) rfl (fun b_8 w_9 h_10 => ?_)
 refine WL.storeA (b := b_8) (off := 0) [] [(1, [(vi 0)]), (32, (List.replicate 32 (0 : UInt8)).map vu8), (1, [(vi 0)]), (1, [(.string (bstr ([] : List UInt8)))])] [(1, [(vi kd)]), (32, key.map vu8), (1, [(vi dm)]), (1, [(.string (bstr data))])] [] (ys := flat [(1, [(vi kd)]), (32, key.map vu8), (1, [(vi dm)]), (1, [(.string (bstr data))])]) h_10 rfl rfl Try.sizeOf157 At.h (by decide) rfl rfl rfl rfl rfl rfl (SsOk.cons (SOk.v rfl) (SsOk.cons (SOk.u8 hq.1) (SsOk.cons (SOk.v rfl) (SsOk.cons (SOk.v rfl) SsOk.nil)))) (fun w_11 h_12 => ?_)
 refine WL.nil (thn_n (WP.seq (WP.seq ?_)))
 refine WP.drawT (SL w00.heap.size [.blk b_8 .nw 157 [(1, [(vi kd)]), (32, key.map vu8), (1, [(vi dm)]), (1, [(.string (bstr data))])], .blk b_4 .nw 23 [(32, (List.replicate 32 (0 : UInt8)).map vu8)], .blk b_1 .nw 103 [(1, [(vi kd)]), (32, key.map vu8), (1, [(vi dm)]), (1, [(.slice qa qn qc)])], .blk ob .nw 50 [(1, [(.bool false)]), (32, ms.map vu8), (1, [(.slice da dn dc)]), (1, [(vn u)]), (1, [(.map (some mp))]), (1, [(.slice la lg.length lc)])], .row la lg.length lc 111 67 lx, .obj mp .nw (.map (mArr lg) lg.length), .pin (sblks lx) (fun w => Lgs w lx lg), .view da (df.map vu8), .view qa (data.map vu8), .blk bq .nw 103 [(1, [(vi kd)]), (32, key.map vu8), (1, [(vi dm)]), (1, [(.slice qa qn qc)])]]) (.q 0 (.q 1 (.q 2 (.q 3 (.q 4 (.s 5 (.q 6 (.q 7 (.q 8 (.q 9 (.q 10 .nil))))))))))) (by kernel_rfl) (by kernel_rfl) rfl (by kernel_rfl) (fun w_13 hc_15 => (SL.cons ((h_12.same hc_15).ok _ M0) (SL.cons ((h_12.same hc_15).ok _ M1) (SL.cons ((h_12.same hc_15).ok _ M2) (SL.cons ((h_12.same hc_15).ok _ M3) (SL.cons ((h_12.same hc_15).ok _ M4) (SL.cons ((h_12.same hc_15).ok _ M5) (SL.cons ((h_12.same hc_15).ok _ M6) (SL.cons ((h_12.same hc_15).ok _ M7) (SL.cons ((h_12.same hc_15).ok _ M8) (SL.cons ((h_12.same hc_15).ok _ M9) (SL.nil _ _)))))))))))) (fun w_13 hc_15 => ?_)
 have h_14 := h_12.same hc_15
 refine qT rfl rfl (fun wq hS => R.move (v := (pO ob 0)) rfl) ?_
 refine qT rfl rfl (fun wq hS => R.nilCheck rfl) ?_
 refine qT rfl rfl (fun wq hS => R.fieldAddr (b := ob) (off := 0) (off' := 35) rfl Try.underlying50 rfl Try.sizeOf47 rfl rfl) ?_
 refine qT rfl rfl (fun wq hS => R.load1 (b := ob) (off := 35) (v := (.map (some mp))) rfl Try.isAgg47 (hS _ M3) (Sg.t rfl (Sg.t rfl (Sg.t rfl (Sg.t rfl Sg.h))))) ?_
 refine qT rfl rfl (fun wq hS => R.loadA (b := b_8) (off := 0) [] [(1, [(vi kd)]), (32, key.map vu8), (1, [(vi dm)]), (1, [(.string (bstr data))])] [] (cs := flat [(1, [(vi kd)]), (32, key.map vu8), (1, [(vi dm)]), (1, [(.string (bstr data))])]) rfl Try.isAgg157 Try.sizeOf157 (hS _ M0) rfl rfl rfl rfl) ?_
 refine WT.s (Op1.one rfl (Wn.no rfl) ?_)
 refine qV rfl (R.lookup (r := none) (z := (vi 0)) (v := (vi 0)) (ok := false) rfl rfl Try.underlying47 (h_14.ok _ M5) (Ck.agg kt157 (by decide) ag157 (typQ (kd, key, dm, data) hq)) (log_miss kt157 (by decide) ag157 typQ hq hlo hfd) (zv Try.typeInfo3 rfl) rfl rfl) ?_
 refine WL.nil ?_
 refine ⟨(SL.cons (h_14.ok _ M0) (SL.cons (h_14.ok _ M1) (SL.cons (h_14.ok _ M2) (SL.cons (h_14.ok _ M3) (SL.cons (h_14.ok _ M4) (SL.cons (h_14.ok _ M5) (SL.cons (h_14.ok _ M6) (SL.cons (h_14.ok _ M7) (SL.cons (h_14.ok _ M8) (SL.cons (h_14.ok _ M9) (SL.nil _ _))))))))))), ?_⟩
 refine qT rfl rfl (fun wq hS => R.move (v := (.tuple [(vi 0), (.bool false)].toArray)) rfl) ?_
 refine qT rfl rfl (fun wq hS => R.extract rfl rfl) ?_
 refine qT rfl rfl (fun wq hS => R.extract rfl rfl) ?_
 refine qT rfl rfl (fun wq hS => R.assign (v := (vi 0)) rfl) ?_
 refine qT rfl rfl (fun wq hS => R.assign (v := (.bool false)) rfl) ?_
 refine WT.nil (thn_n (WP.seq (WP.reg ?_)))
 refine qM (.bool false) rfl rfl ?_
 refine WL.nil (thn_n ?_)
 refine WP.condF rfl ?_
 refine WP.skip (thn_n (WP.seq (WP.reg ?_)))
 refine WL.alloc (segs := [(32, (List.replicate 32 (0 : UInt8)).map vu8)]) h_14 (zv Try.typeInfo23 rfl) rfl (SsOk.cons (SOk.u8 lr) SsOk.nil) rfl (fun b_16 w_17 h_18 => ?_)
 refine WL.nil (thn_n (WP.seq (WP.seq (WP.reg ?_))))
 refine qM (pO ob 0) rfl rfl (qV rfl (R.nilCheck rfl) (qV rfl (R.fieldAddr (b := ob) (off := 0) (off' := 0) rfl Try.underlying50 rfl Try.sizeOf4 rfl rfl) (qV rfl (R.load1 (b := ob) (off := 0) (v := (.bool false)) rfl Try.isAgg4 (h_18.ok _ M4) Sg.h) ?_)))
 refine WL.nil (thn_n ?_)
 refine WP.condF rfl ?_
 refine WP.reg ?_
 refine qM (Value.func (Fn.func 80) [].toArray [(Value.pointer (some ⟨bq, 0, none⟩))].toArray) rfl rfl ?_
 refine WL.call Try.call80 rfl rfl (c_oCl kd dm key data qa qn qc hq hdl bq _ (viewV (h_18.ok _ M9)) (h_18.argR M10)) rfl ?_
 rintro _ w_20 ⟨rfl, hc_19⟩
 have h_21 := h_18.same hc_19
 refine WL.storeA (b := b_16) (off := 0) [] [(32, (List.replicate 32 (0 : UInt8)).map vu8)] [(32, (cF (kd, key, dm, data)).map vu8)] [] (ys := (cF (kd, key, dm, data)).map vu8) h_21 rfl rfl Try.sizeOf23 At.h (by decide) rfl rfl rfl rfl rfl rfl (SsOk.cons (SOk.u8 (cF_len _)) SsOk.nil) (fun w_22 h_23 => ?_)
 refine WL.nil (thn_n (WP.seq (WP.reg ?_)))
 refine qV rfl (R.fieldAddr (b := b_1) (off := 0) (off' := 34) rfl Try.underlying103 rfl Try.sizeOf37 rfl rfl) (qV rfl (R.load1 (b := b_1) (off := 34) (v := (.slice qa qn qc)) rfl Try.isAgg37 (h_23.ok _ M3) (Sg.t rfl (Sg.t rfl (Sg.t rfl Sg.h)))) ?_)
 refine WL.call Try.call58 rfl rfl (c_Clone qa qn qc data hdl (by omega) _ (viewV (h_23.ok _ M9))) rfl ?_
 rintro _ w_26 ⟨a_24, cap_25, rfl, hc_27, ho_28⟩
 have h_29 := h_23.gotRow hc_27 ho_28
 refine qV rfl (R.fieldAddr (b := b_1) (off := 0) (off' := 34) rfl Try.underlying103 rfl Try.sizeOf37 rfl rfl) ?_
 refine WL.store1 (b := b_1) (off := 34) (v := (.slice a_24 qn cap_25)) h_29 rfl rfl Try.sizeOf37 rfl Y4 (by decide) (Sg.t rfl (Sg.t rfl (Sg.t rfl Sg.h))) (fun w_30 h_31 => ?_)
 refine WL.nil (thn_n (WP.seq ?_))
 refine WP.drawT (SL w00.heap.size [.row a_24 qn cap_25 5 1 (data.map vu8), .blk b_16 .nw 23 [(32, (cF (kd, key, dm, data)).map vu8)], .blk b_8 .nw 157 [(1, [(vi kd)]), (32, key.map vu8), (1, [(vi dm)]), (1, [(.string (bstr data))])], .blk b_4 .nw 23 [(32, (List.replicate 32 (0 : UInt8)).map vu8)], .blk b_1 .nw 103 [(1, [(vi kd)]), (32, key.map vu8), (1, [(vi dm)]), (1, [(.slice a_24 qn cap_25)])], .blk ob .nw 50 [(1, [(.bool false)]), (32, ms.map vu8), (1, [(.slice da dn dc)]), (1, [(vn u)]), (1, [(.map (some mp))]), (1, [(.slice la lg.length lc)])], .row la lg.length lc 111 67 lx, .pin (sblks lx) (fun w => Lgs w lx lg), .view da (df.map vu8), .view qa (data.map vu8), .blk bq .nw 103 [(1, [(vi kd)]), (32, key.map vu8), (1, [(vi dm)]), (1, [(.slice qa qn qc)])]]) (.q 0 (.q 1 (.q 2 (.q 3 (.q 4 (.q 5 (.q 6 (.q 7 (.q 8 (.q 9 (.s 10 .nil))))))))))) (by kernel_rfl) (by kernel_rfl) rfl (by kernel_rfl) (fun w_32 hc_34 => (SL.cons ((h_31.same hc_34).ok _ M0) (SL.cons ((h_31.same hc_34).ok _ M1) (SL.cons ((h_31.same hc_34).ok _ M2) (SL.cons ((h_31.same hc_34).ok _ M3) (SL.cons ((h_31.same hc_34).ok _ M4) (SL.cons ((h_31.same hc_34).ok _ M5) (SL.cons ((h_31.same hc_34).ok _ M6) (SL.cons ((h_31.same hc_34).ok _ M8) (SL.cons ((h_31.same hc_34).ok _ M9) (SL.cons ((h_31.same hc_34).ok _ M10) (SL.cons ((h_31.same hc_34).ok _ M11) (SL.nil _ _))))))))))))) (fun w_32 hc_34 => ?_)
 have h_33 := h_31.same hc_34
 refine qT rfl rfl (fun wq hS => R.move (v := (pO ob 0)) rfl) ?_
 refine qT rfl rfl (fun wq hS => R.nilCheck rfl) ?_
 refine qT rfl rfl (fun wq hS => R.fieldAddr (b := ob) (off := 0) (off' := 35) rfl Try.underlying50 rfl Try.sizeOf47 rfl rfl) ?_
 refine qT rfl rfl (fun wq hS => R.load1 (b := ob) (off := 35) (v := (.map (some mp))) rfl Try.isAgg47 (hS _ M5) (Sg.t rfl (Sg.t rfl (Sg.t rfl (Sg.t rfl Sg.h))))) ?_
 refine qT rfl rfl (fun wq hS => R.loadA (b := b_8) (off := 0) [] [(1, [(vi kd)]), (32, key.map vu8), (1, [(vi dm)]), (1, [(.string (bstr data))])] [] (cs := flat [(1, [(vi kd)]), (32, key.map vu8), (1, [(vi dm)]), (1, [(.string (bstr data))])]) rfl Try.isAgg157 Try.sizeOf157 (hS _ M2) rfl rfl rfl rfl) ?_
 refine qT rfl rfl (fun wq hS => R.move (v := (pO ob 0)) rfl) ?_
 refine qT rfl rfl (fun wq hS => R.nilCheck rfl) ?_
 refine qT rfl rfl (fun wq hS => R.fieldAddr (b := ob) (off := 0) (off' := 36) rfl Try.underlying50 rfl Try.sizeOf48 rfl rfl) ?_
 refine qT rfl rfl (fun wq hS => R.load1 (b := ob) (off := 36) (v := (.slice la lg.length lc)) rfl Try.isAgg48 (hS _ M5) (Sg.t rfl (Sg.t rfl (Sg.t rfl (Sg.t rfl (Sg.t rfl Sg.h)))))) ?_
 refine qT rfl rfl (fun wq hS => R.lenS (a := la) (m := lg.length) rfl rfl Try.underlying48) ?_
 refine WT.s (Op1.one rfl (Wn.no rfl) ?_)
 refine WL.mapUpdate (k := (.agg ⟨flat [(1, [(vi kd)]), (32, key.map vu8), (1, [(vi dm)]), (1, [(.string (bstr data))])]⟩)) (v := (vn (lg.length))) h_33 rfl rfl rfl Try.underlying47 Y7 (by decide) (Ck.agg kt157 (by decide) ag157 (typQ (kd, key, dm, data) hq)) (log_miss kt157 (by decide) ag157 typQ hq hlo hfd) (fun w_35 h_36 => ?_)
 refine WL.nil ?_
 refine ⟨(SL.cons (h_36.ok _ M0) (SL.cons (h_36.ok _ M1) (SL.cons (h_36.ok _ M2) (SL.cons (h_36.ok _ M3) (SL.cons (h_36.ok _ M4) (SL.cons (h_36.ok _ M5) (SL.cons (h_36.ok _ M6) (SL.cons (h_36.ok _ M8) (SL.cons (h_36.ok _ M9) (SL.cons (h_36.ok _ M10) (SL.cons (h_36.ok _ M11) (SL.nil _ _)))))))))))), ?_⟩
 refine WT.nil (thn_n (WP.seq ?_))
 refine WP.cutG (G := Nat × Option Addr × Nat) [61, 62, 63, 64, 65, 66, 67, 68, 69, 70, 71, 72] (fun (bY11Y8Y0Y0, aY11Y9Y0Y0, cY11Y9Y0Y0) => [(61, (pO ob 0)), (62, (pO ob 0)), (63, (pO ob 0)), (64, (pO ob 36)), (66, (.agg ⟨flat [(1, [(vi kd)]), (32, key.map vu8), (1, [(vi dm)]), (1, [(.slice a_24 qn cap_25)])]⟩)), (67, (.agg ⟨(cF (kd, key, dm, data)).map vu8⟩)), (68, (.agg ⟨flat [(1, [(vi kd)]), (32, key.map vu8), (1, [(vi dm)]), (1, [(.slice a_24 qn cap_25)]), (32, (cF (kd, key, dm, data)).map vu8)]⟩)), (65, (.slice la lg.length lc)), (69, (.slice (some ⟨bY11Y8Y0Y0, 0, none⟩) 1 1)), (70, (.slice aY11Y9Y0Y0 (lg.length + 1) cY11Y9Y0Y0)), (71, (pO ob 0)), (72, (pO ob 36))]) (fun (bY11Y8Y0Y0, aY11Y9Y0Y0, cY11Y9Y0Y0) w1 => HP w00 w1 (Ent.blk bY11Y8Y0Y0 .nw 111 [(67, aC (kd, key, dm, data) (.slice a_24 qn cap_25) (cF (kd, key, dm, data)))] :: Ent.row a_24 qn cap_25 5 1 (data.map vu8) :: Ent.blk b_16 .nw 23 [(32, (cF (kd, key, dm, data)).map vu8)] :: Ent.blk b_8 .nw 157 [(1, [(vi kd)]), (32, key.map vu8), (1, [(vi dm)]), (1, [(.string (bstr data))])] :: Ent.blk b_4 .nw 23 [(32, (List.replicate 32 (0 : UInt8)).map vu8)] :: Ent.blk b_1 .nw 103 [(1, [(vi kd)]), (32, key.map vu8), (1, [(vi dm)]), (1, [(.slice a_24 qn cap_25)])] :: Ent.blk ob .nw 50 [(1, [(.bool false)]), (32, ms.map vu8), (1, [(.slice da dn dc)]), (1, [(vn u)]), (1, [(.map (some mp))]), (1, [(.slice aY11Y9Y0Y0 (lg.length + 1) cY11Y9Y0Y0)])] :: Ent.row aY11Y9Y0Y0 (lg.length + 1) cY11Y9Y0Y0 111 67 (lx ++ aC (kd, key, dm, data) (.slice a_24 qn cap_25) (cF (kd, key, dm, data))) :: Ent.obj mp .nw (.map ((mArr lg).push { key := (.agg ⟨flat [(1, [(vi kd)]), (32, key.map vu8), (1, [(vi dm)]), (1, [(.string (bstr data))])]⟩), val := (vn (lg.length)), born := lg.length }) (lg.length + 1)) :: Ent.pin (sblks lx) (fun w => Lgs w lx lg) :: Ent.view da (df.map vu8) :: Ent.view qa (data.map vu8) :: Ent.blk bq .nw 103 [(1, [(vi kd)]), (32, key.map vu8), (1, [(vi dm)]), (1, [(.slice qa qn qc)])] :: L)) ?_ ?_
 ·refine WP.drawT (SL w00.heap.size [.row a_24 qn cap_25 5 1 (data.map vu8), .blk b_16 .nw 23 [(32, (cF (kd, key, dm, data)).map vu8)], .blk b_8 .nw 157 [(1, [(vi kd)]), (32, key.map vu8), (1, [(vi dm)]), (1, [(.string (bstr data))])], .blk b_4 .nw 23 [(32, (List.replicate 32 (0 : UInt8)).map vu8)], .blk b_1 .nw 103 [(1, [(vi kd)]), (32, key.map vu8), (1, [(vi dm)]), (1, [(.slice a_24 qn cap_25)])], .obj mp .nw (.map ((mArr lg).push { key := (.agg ⟨flat [(1, [(vi kd)]), (32, key.map vu8), (1, [(vi dm)]), (1, [(.string (bstr data))])]⟩), val := (vn (lg.length)), born := lg.length }) (lg.length + 1)), .pin (sblks lx) (fun w => Lgs w lx lg), .view da (df.map vu8), .view qa (data.map vu8), .blk bq .nw 103 [(1, [(vi kd)]), (32, key.map vu8), (1, [(vi dm)]), (1, [(.slice qa qn qc)])]]) (.q 0 (.q 1 (.q 2 (.q 3 (.q 5 (.q 6 (.q 7 (.s2 4 8 (.s 8 (.s 9 (.q 10 (.q 11 (.s 12 .nil))))) (.s 4 (.s 9 (.q 10 (.q 11 (.s 12 .nil))))))))))))) (by kernel_rfl) (by kernel_rfl) rfl (by kernel_rfl) (fun w_37 hc_39 => (SL.cons ((h_36.same hc_39).ok _ M0) (SL.cons ((h_36.same hc_39).ok _ M1) (SL.cons ((h_36.same hc_39).ok _ M2) (SL.cons ((h_36.same hc_39).ok _ M3) (SL.cons ((h_36.same hc_39).ok _ M4) (SL.cons ((h_36.same hc_39).ok _ M7) (SL.cons ((h_36.same hc_39).ok _ M8) (SL.cons ((h_36.same hc_39).ok _ M9) (SL.cons ((h_36.same hc_39).ok _ M10) (SL.cons ((h_36.same hc_39).ok _ M11) (SL.nil _ _)))))))))))) (fun w_37 hc_39 => ?_)
  have h_38 := h_36.same hc_39
  refine qT rfl rfl (fun wq hS => R.move (v := (pO ob 0)) rfl) ?_
  refine qT rfl rfl (fun wq hS => R.move (v := (pO ob 0)) rfl) ?_
  refine qT rfl rfl (fun wq hS => R.nilCheck rfl) ?_
  refine qT rfl rfl (fun wq hS => R.fieldAddr (b := ob) (off := 0) (off' := 36) rfl Try.underlying50 rfl Try.sizeOf48 rfl rfl) ?_
  refine qT rfl rfl (fun wq hS => R.loadA (b := b_1) (off := 0) [] [(1, [(vi kd)]), (32, key.map vu8), (1, [(vi dm)]), (1, [(.slice a_24 qn cap_25)])] [] (cs := flat [(1, [(vi kd)]), (32, key.map vu8), (1, [(vi dm)]), (1, [(.slice a_24 qn cap_25)])]) rfl Try.isAgg103 Try.sizeOf103 (hS _ M4) rfl rfl rfl rfl) ?_
  refine qT rfl rfl (fun wq hS => R.loadA (b := b_16) (off := 0) [] [(32, (cF (kd, key, dm, data)).map vu8)] [] (cs := (cF (kd, key, dm, data)).map vu8) rfl Try.isAgg23 Try.sizeOf23 (hS _ M1) rfl rfl rfl rfl) ?_
  refine qT rfl rfl (fun wq hS => R.buildS (pl := [(0, 35), (35, 32)]) (zs := [(1, [(vi 0)]), (32, (List.replicate 32 (0 : UInt8)).map vu8), (1, [(vi 0)]), (1, [(.slice none 0 0)]), (32, (List.replicate 32 (0 : UInt8)).map vu8)]) (vs := [(0, (.agg ⟨flat [(1, [(vi kd)]), (32, key.map vu8), (1, [(vi dm)]), (1, [(.slice a_24 qn cap_25)])]⟩)), (1, (.agg ⟨(cF (kd, key, dm, data)).map vu8⟩))]) (out := [(1, [(vi kd)]), (32, key.map vu8), (1, [(vi dm)]), (1, [(.slice a_24 qn cap_25)]), (32, (cF (kd, key, dm, data)).map vu8)]) (cs := flat [(1, [(vi kd)]), (32, key.map vu8), (1, [(vi dm)]), (1, [(.slice a_24 qn cap_25)]), (32, (cF (kd, key, dm, data)).map vu8)]) Try.underlying111 (zv Try.typeInfo111 rfl) rfl (SsOk.cons (SOk.v rfl) (SsOk.cons (SOk.u8 lr) (SsOk.cons (SOk.v rfl) (SsOk.cons (SOk.v rfl) (SsOk.cons (SOk.u8 lr) SsOk.nil))))) (pl111 _ Try.underlying111) rfl (FillR.cons [] [(1, [(vi 0)]), (32, (List.replicate 32 (0 : UInt8)).map vu8), (1, [(vi 0)]), (1, [(.slice none 0 0)])] [(1, [(vi kd)]), (32, key.map vu8), (1, [(vi dm)]), (1, [(.slice a_24 qn cap_25)])] [(32, (List.replicate 32 (0 : UInt8)).map vu8)] rfl rfl rfl rfl (SsOk.cons (SOk.v rfl) (SsOk.cons (SOk.u8 hq.1) (SsOk.cons (SOk.v rfl) (SsOk.cons (SOk.v rfl) SsOk.nil)))) rfl rfl rfl (FillR.cons [(1, [(vi kd)]), (32, key.map vu8), (1, [(vi dm)]), (1, [(.slice a_24 qn cap_25)])] [(32, (List.replicate 32 (0 : UInt8)).map vu8)] [(32, (cF (kd, key, dm, data)).map vu8)] [] rfl rfl rfl rfl (SsOk.cons (SOk.u8 (cF_len _)) SsOk.nil) rfl rfl rfl FillR.nil)) rfl) ?_
  refine WT.s2 ?_ ?_
  ·refine Op1.one rfl (Wn.no rfl) ?_
   refine qV rfl (R.load1 (b := ob) (off := 36) (v := (.slice la lg.length lc)) rfl Try.isAgg48 (h_38.ok _ M5) (Sg.t rfl (Sg.t rfl (Sg.t rfl (Sg.t rfl (Sg.t rfl Sg.h)))))) ?_
   refine WL.nil ?_
   refine ⟨(SL.cons (h_38.ok _ M0) (SL.cons (h_38.ok _ M1) (SL.cons (h_38.ok _ M2) (SL.cons (h_38.ok _ M3) (SL.cons (h_38.ok _ M4) (SL.cons (h_38.ok _ M7) (SL.cons (h_38.ok _ M8) (SL.cons (h_38.ok _ M9) (SL.cons (h_38.ok _ M10) (SL.cons (h_38.ok _ M11) (SL.nil _ _))))))))))), ?_⟩
   refine WT.s (Op1.one rfl (Wn.no rfl) ?_)
   refine WL.buildSl (vs := [(0, (.agg ⟨flat [(1, [(vi kd)]), (32, key.map vu8), (1, [(vi dm)]), (1, [(.slice a_24 qn cap_25)]), (32, (cF (kd, key, dm, data)).map vu8)]⟩))]) (cs := aC (kd, key, dm, data) (.slice a_24 qn cap_25) (cF (kd, key, dm, data))) h_38 Try.underlying48 Try.sizeOf111 (zv Try.typeInfo111 rfl) rfl rfl (fill_1 (zc := flat [(1, [vi 0]), (32, List.replicate 32 (vu8 0)), (1, [vi 0]), (1, [.slice none 0 0]), (32, List.replicate 32 (vu8 0))]) (by kernel_rfl) (SsOk.cons (s := (67, flat [(1, [vi 0]), (32, List.replicate 32 (vu8 0)), (1, [vi 0]), (1, [.slice none 0 0]), (32, List.replicate 32 (vu8 0))])) ⟨by decide, SsOk.one (SsOk.cons (SOk.v rfl) (SsOk.cons (SOk.rep rfl) (SsOk.cons (SOk.v rfl) (SsOk.cons (SOk.v rfl) (SsOk.cons (SOk.rep rfl) SsOk.nil)))))⟩ SsOk.nil) (aC_ok (q := (kd, key, dm, data)) (s := (.slice a_24 qn cap_25)) (d := cF (kd, key, dm, data)) hq.1 (cF_len _) rfl)) ((aC_ok (q := (kd, key, dm, data)) (s := (.slice a_24 qn cap_25)) (d := cF (kd, key, dm, data)) hq.1 (cF_len _) rfl)).head.len ((aC_ok (q := (kd, key, dm, data)) (s := (.slice a_24 qn cap_25)) (d := cF (kd, key, dm, data)) hq.1 (cF_len _) rfl)).head.one rfl rfl (fun b_41 w_42 h_43 => ?_)
   refine WL.nil ?_
   refine ⟨(SL.cons (h_43.ok _ M1) (SL.cons (h_43.ok _ M2) (SL.cons (h_43.ok _ M3) (SL.cons (h_43.ok _ M4) (SL.cons (h_43.ok _ M5) (SL.cons (h_43.ok _ M8) (SL.cons (h_43.ok _ M9) (SL.cons (h_43.ok _ M10) (SL.cons (h_43.ok _ M11) (SL.cons (h_43.ok _ M12) (SL.nil _ _))))))))))), ?_⟩
   refine WT.s (Op1.one rfl (Wn.no rfl) ?_)
   refine WL.append (km := lg.length + 1) (xs := lx) (ys := aC (kd, key, dm, data) (.slice a_24 qn cap_25) (cF (kd, key, dm, data))) (zs := lx ++ aC (kd, key, dm, data) (.slice a_24 qn cap_25) (cF (kd, key, dm, data))) h_43 rfl rfl el48 (viewB (h_43.ok _ M0) Sg.h) ((aC_ok (q := (kd, key, dm, data)) (s := (.slice a_24 qn cap_25)) (d := cF (kd, key, dm, data)) hq.1 (cF_len _) rfl)).head.len ((aC_ok (q := (kd, key, dm, data)) (s := (.slice a_24 qn cap_25)) (d := cF (kd, key, dm, data)) hq.1 (cF_len _) rfl)).head.one rfl (by omega) (by omega) (by omega) (fun _ _ => Y7) rfl (fun a_44 c_45 w_46 h_47 => ?_)
   refine WL.nil ?_
   refine ⟨(SL.cons (h_47.ok _ M1) (SL.cons (h_47.ok _ M2) (SL.cons (h_47.ok _ M3) (SL.cons (h_47.ok _ M4) (SL.cons (h_47.ok _ M5) (SL.cons (h_47.ok _ M8) (SL.cons (h_47.ok _ M9) (SL.cons (h_47.ok _ M10) (SL.cons (h_47.ok _ M11) (SL.cons (h_47.ok _ M12) (SL.nil _ _))))))))))), ?_⟩
   refine qT rfl rfl (fun wq hS => R.nilCheck rfl) ?_
   refine qT rfl rfl (fun wq hS => R.fieldAddr (b := ob) (off := 0) (off' := 36) rfl Try.underlying50 rfl Try.sizeOf48 rfl rfl) ?_
   refine WT.s (Op1.one rfl (Wn.no rfl) ?_)
   refine WL.store1 (b := ob) (off := 36) (v := (.slice a_44 (lg.length + 1) c_45)) h_47 rfl rfl Try.sizeOf48 rfl Y6 (by decide) (Sg.t rfl (Sg.t rfl (Sg.t rfl (Sg.t rfl (Sg.t rfl Sg.h))))) (fun w_48 h_49 => ?_)
   refine WL.nil ?_
   refine ⟨(SL.cons (h_49.ok _ M1) (SL.cons (h_49.ok _ M2) (SL.cons (h_49.ok _ M3) (SL.cons (h_49.ok _ M4) (SL.cons (h_49.ok _ M5) (SL.cons (h_49.ok _ M8) (SL.cons (h_49.ok _ M9) (SL.cons (h_49.ok _ M10) (SL.cons (h_49.ok _ M11) (SL.cons (h_49.ok _ M12) (SL.nil _ _))))))))))), ?_⟩
   refine WT.nil (thn_n ?_)
   exact ⟨(b_41, a_44, c_45), (U4 rfl rfl rfl rfl (U4 rfl rfl rfl rfl (U4 rfl rfl rfl rfl (Ag.refl _ _)))), ⟨rfl, rfl, rfl, rfl, rfl, rfl, rfl, rfl, rfl, rfl, rfl, rfl, trivial⟩, h_49⟩
  ·refine Op1.one rfl (Wn.no rfl) ?_
   refine WL.buildSl (vs := [(0, (.agg ⟨flat [(1, [(vi kd)]), (32, key.map vu8), (1, [(vi dm)]), (1, [(.slice a_24 qn cap_25)]), (32, (cF (kd, key, dm, data)).map vu8)]⟩))]) (cs := aC (kd, key, dm, data) (.slice a_24 qn cap_25) (cF (kd, key, dm, data))) h_38 Try.underlying48 Try.sizeOf111 (zv Try.typeInfo111 rfl) rfl rfl (fill_1 (zc := flat [(1, [vi 0]), (32, List.replicate 32 (vu8 0)), (1, [vi 0]), (1, [.slice none 0 0]), (32, List.replicate 32 (vu8 0))]) (by kernel_rfl) (SsOk.cons (s := (67, flat [(1, [vi 0]), (32, List.replicate 32 (vu8 0)), (1, [vi 0]), (1, [.slice none 0 0]), (32, List.replicate 32 (vu8 0))])) ⟨by decide, SsOk.one (SsOk.cons (SOk.v rfl) (SsOk.cons (SOk.rep rfl) (SsOk.cons (SOk.v rfl) (SsOk.cons (SOk.v rfl) (SsOk.cons (SOk.rep rfl) SsOk.nil)))))⟩ SsOk.nil) (aC_ok (q := (kd, key, dm, data)) (s := (.slice a_24 qn cap_25)) (d := cF (kd, key, dm, data)) hq.1 (cF_len _) rfl)) ((aC_ok (q := (kd, key, dm, data)) (s := (.slice a_24 qn cap_25)) (d := cF (kd, key, dm, data)) hq.1 (cF_len _) rfl)).head.len ((aC_ok (q := (kd, key, dm, data)) (s := (.slice a_24 qn cap_25)) (d := cF (kd, key, dm, data)) hq.1 (cF_len _) rfl)).head.one rfl rfl (fun b_50 w_51 h_52 => ?_)
   refine WL.nil ?_
   refine ⟨(SL.cons (h_52.ok _ M1) (SL.cons (h_52.ok _ M2) (SL.cons (h_52.ok _ M3) (SL.cons (h_52.ok _ M4) (SL.cons (h_52.ok _ M5) (SL.cons (h_52.ok _ M8) (SL.cons (h_52.ok _ M9) (SL.cons (h_52.ok _ M10) (SL.cons (h_52.ok _ M11) (SL.cons (h_52.ok _ M12) (SL.nil _ _))))))))))), ?_⟩
   refine WT.s (Op1.one rfl (Wn.no rfl) ?_)
   refine qV rfl (R.load1 (b := ob) (off := 36) (v := (.slice la lg.length lc)) rfl Try.isAgg48 (h_52.ok _ M6) (Sg.t rfl (Sg.t rfl (Sg.t rfl (Sg.t rfl (Sg.t rfl Sg.h)))))) ?_
   refine WL.nil ?_
   refine ⟨(SL.cons (h_52.ok _ M1) (SL.cons (h_52.ok _ M2) (SL.cons (h_52.ok _ M3) (SL.cons (h_52.ok _ M4) (SL.cons (h_52.ok _ M5) (SL.cons (h_52.ok _ M8) (SL.cons (h_52.ok _ M9) (SL.cons (h_52.ok _ M10) (SL.cons (h_52.ok _ M11) (SL.cons (h_52.ok _ M12) (SL.nil _ _))))))))))), ?_⟩
   refine WT.s (Op1.one rfl (Wn.no rfl) ?_)
   refine WL.append (km := lg.length + 1) (xs := lx) (ys := aC (kd, key, dm, data) (.slice a_24 qn cap_25) (cF (kd, key, dm, data))) (zs := lx ++ aC (kd, key, dm, data) (.slice a_24 qn cap_25) (cF (kd, key, dm, data))) h_52 rfl rfl el48 (viewB (h_52.ok _ M0) Sg.h) ((aC_ok (q := (kd, key, dm, data)) (s := (.slice a_24 qn cap_25)) (d := cF (kd, key, dm, data)) hq.1 (cF_len _) rfl)).head.len ((aC_ok (q := (kd, key, dm, data)) (s := (.slice a_24 qn cap_25)) (d := cF (kd, key, dm, data)) hq.1 (cF_len _) rfl)).head.one rfl (by omega) (by omega) (by omega) (fun _ _ => Y7) rfl (fun a_53 c_54 w_55 h_56 => ?_)
   refine WL.nil ?_
   refine ⟨(SL.cons (h_56.ok _ M1) (SL.cons (h_56.ok _ M2) (SL.cons (h_56.ok _ M3) (SL.cons (h_56.ok _ M4) (SL.cons (h_56.ok _ M5) (SL.cons (h_56.ok _ M8) (SL.cons (h_56.ok _ M9) (SL.cons (h_56.ok _ M10) (SL.cons (h_56.ok _ M11) (SL.cons (h_56.ok _ M12) (SL.nil _ _))))))))))), ?_⟩
   refine qT rfl rfl (fun wq hS => R.nilCheck rfl) ?_
   refine qT rfl rfl (fun wq hS => R.fieldAddr (b := ob) (off := 0) (off' := 36) rfl Try.underlying50 rfl Try.sizeOf48 rfl rfl) ?_
   refine WT.s (Op1.one rfl (Wn.no rfl) ?_)
   refine WL.store1 (b := ob) (off := 36) (v := (.slice a_53 (lg.length + 1) c_54)) h_56 rfl rfl Try.sizeOf48 rfl Y6 (by decide) (Sg.t rfl (Sg.t rfl (Sg.t rfl (Sg.t rfl (Sg.t rfl Sg.h))))) (fun w_57 h_58 => ?_)
   refine WL.nil ?_
   refine ⟨(SL.cons (h_58.ok _ M1) (SL.cons (h_58.ok _ M2) (SL.cons (h_58.ok _ M3) (SL.cons (h_58.ok _ M4) (SL.cons (h_58.ok _ M5) (SL.cons (h_58.ok _ M8) (SL.cons (h_58.ok _ M9) (SL.cons (h_58.ok _ M10) (SL.cons (h_58.ok _ M11) (SL.cons (h_58.ok _ M12) (SL.nil _ _))))))))))), ?_⟩
   refine WT.nil (thn_n ?_)
   exact ⟨(b_50, a_53, c_54), (U4 rfl rfl rfl rfl (U4 rfl rfl rfl rfl (U4 rfl rfl rfl rfl (Ag.refl _ _)))), ⟨rfl, rfl, rfl, rfl, rfl, rfl, rfl, rfl, rfl, rfl, rfl, rfl, trivial⟩, h_58⟩
 ·rintro ⟨b_62, a_63, c_64⟩ J_59 w_60 h_61
  refine thn_n (WP.seq (WP.reg ?_))
  refine qV rfl (R.loadA (b := b_16) (off := 0) [] [(32, (cF (kd, key, dm, data)).map vu8)] [] (cs := (cF (kd, key, dm, data)).map vu8) rfl Try.isAgg23 Try.sizeOf23 (h_61.ok _ M2) rfl rfl rfl rfl) ?_
  refine WL.storeA (b := b_4) (off := 0) [] [(32, (List.replicate 32 (0 : UInt8)).map vu8)] [(32, (cF (kd, key, dm, data)).map vu8)] [] (ys := (cF (kd, key, dm, data)).map vu8) h_61 rfl rfl Try.sizeOf23 Y4 (by decide) rfl rfl rfl rfl rfl rfl (SsOk.cons (SOk.u8 (cF_len _)) SsOk.nil) (fun w_65 h_66 => ?_)
  refine WL.nil (thn_n (WP.ret ?_))
  refine ret_of Try.results79 (RV.cell rfl (h_66.loadA (cs := (cF (kd, key, dm, data)).map vu8) Try.isAgg23 Try.sizeOf23 M4 rfl rfl) RV.nil) ?_
  have h_83 := ((((((((((((((((h_66.drop rfl).up J1).drop rfl).up J1).drop rfl).up J1).drop rfl).up J1).drop rfl).up J7).up J7).up J7).up J6).up J6).up J6).up J7).up J7
  have h_84 := HP_logPush (q := (kd, key, dm, data)) (d := cF (kd, key, dm, data)) h_83 hq (cF_len _) hdl
  have h_96 := ((((((((((h_84.up J1).drop rfl).up J1).drop rfl).up J6).up J6).up J6).up J3).up J6).up J6).up J6
  have hse : lg.length + 1 = (lg ++ [((kd, key, dm, data), cF (kd, key, dm, data))]).length := snoc_len.symm
  have hme := mArr_push lg (kd, key, dm, data) (cF (kd, key, dm, data))
  have h_85 := h_96
  rw [hse] at h_85
  exact ⟨_, _, _, by rw [anD_miss hfd]; rfl, by rw [anU_miss hfd, anL_miss hfd]; show HP _ _ (_ :: _ :: .obj _ _ (.map (mArr (lg ++ [((kd, key, dm, data), cF (kd, key, dm, data))])) _) :: _); rw [hme]; exact h_85⟩

theorem c_ansG {w00 : World} {L : List Ent} (id : Bool) (ob mp : Nat) (ms df : List UInt8) (hms : ms.length = 32) (da : Option Addr) (dn dc u : Nat) (hdf : df.length = 32 * dn) (la : Option Addr) (lc : Nat) (lx : List Value) (lg : Lg) (hu : u ≤ 1000000) (hlg : lg.length ≤ 1000000) (kd dm : Int) (key data : List UInt8) (qa : Option Addr) (qn qc : Nat) (hq : okQ (kd, key, dm, data)) (hdl : data.length = qn) (bq : Nat) (w : World) (h_0 : HP w00 w (Ent.blk ob .nw 50 [(1, [(.bool id)]), (32, ms.map vu8), (1, [(.slice da dn dc)]), (1, [(vi ((u : Nat) : Int))]), (1, [(.map (some mp))]), (1, [(.slice la lg.length lc)])] :: Ent.row la lg.length lc 111 67 lx :: Ent.obj mp .nw (.map (mArr lg) lg.length) :: Ent.pin (sblks lx) (fun w => Lgs w lx lg) :: Ent.view da (df.map vu8) :: Ent.view qa (data.map vu8) :: Ent.blk bq .nw 103 [(1, [(vi kd)]), (32, key.map vu8), (1, [(vi dm)]), (1, [(.slice qa qn qc)])] :: L)) :
  Cs Try.prog 79 [(.pointer (some ⟨ob, 0, none⟩)), (.agg ⟨flat [(1, [(vi kd)]), (32, key.map vu8), (1, [(vi dm)]), (1, [(.slice qa qn qc)])]⟩), (Value.func (Fn.func 80) [].toArray [(Value.pointer (some ⟨bq, 0, none⟩))].toArray)].toArray w (fun v w1 => ∃ la' lc' lx', v = (.agg ⟨(anD id df dn u lg (kd, key, dm, data)).map vu8⟩) ∧ HP w00 w1 (Ent.blk ob .nw 50 [(1, [(.bool id)]), (32, ms.map vu8), (1, [(.slice da dn dc)]), (1, [(vi (((anU id u lg (kd, key, dm, data)) : Nat) : Int))]), (1, [(.map (some mp))]), (1, [(.slice la' ((anL id df dn u lg (kd, key, dm, data)).length) lc')])] :: Ent.row la' ((anL id df dn u lg (kd, key, dm, data)).length) lc' 111 67 lx' :: Ent.obj mp .nw (.map (mArr (anL id df dn u lg (kd, key, dm, data))) ((anL id df dn u lg (kd, key, dm, data)).length)) :: Ent.pin (sblks lx') (fun w => Lgs w lx' (anL id df dn u lg (kd, key, dm, data))) :: Ent.view da (df.map vu8) :: Ent.view qa (data.map vu8) :: Ent.blk bq .nw 103 [(1, [(vi kd)]), (32, key.map vu8), (1, [(vi dm)]), (1, [(.slice qa qn qc)])] :: L)) := by
 cases hfd : fdq (kd, key, dm, data) lg 0 with
 | none => cases id with
  | true => exact c_ans_missT ob mp ms df hms da dn dc u hdf la lc lx lg hu hlg kd dm key data qa qn qc hq hdl _ hfd w h_0
  | false => exact c_ans_missF ob mp ms df hms da dn dc u hdf la lc lx lg hu hlg kd dm key data qa qn qc hq hdl bq hfd w h_0
 | some i => exact c_ans_hit id ob mp ms df hms da dn dc u hdf la lc lx lg hu hlg kd dm key data qa qn qc hq hdl _ i hfd w h_0
end Go.Proofs.Ytnhppjimimhlkaa

namespace Go.Proofs.Ytnhppjimimhlkaa
open Go.Vc Go.Orc Go.Sh Go.RowKit
set_option maxRecDepth 20000
theorem kt23 : Try.prog.keyTypeAt 2 23 = true := by kernel_rfl
theorem ag23 : aggB Try.prog 23 = true := by unfold aggB; rw [Try.underlying23]
theorem c_othere_nil  (w : World) :
  Cs Try.prog 52 [(.pointer none)].toArray w (fun v w1 => v = (.bool false) ∧ Chg w w1 []) := by
 refine Cs.of (n := 12) (args := [(.pointer none)]) Try.func52 rfl rfl rfl ?_
 have h_0 := HP.init w
 refine WP.seq (WP.reg ?_)
 refine qA (.bool false) rfl rfl ?_
 refine WL.nil (thn_n (WP.seq (WP.reg ?_)))
 refine qM (.pointer none) rfl rfl (qV rfl (R.neNilP rfl rfl Try.underlying32) (qM (.bool false) rfl rfl ?_))
 refine WL.skip rfl rfl rfl ?_
 refine WL.skip rfl rfl rfl ?_
 refine WL.skip rfl rfl rfl ?_
 refine WL.skip rfl rfl rfl ?_
 refine WL.skip rfl rfl rfl ?_
 refine qV rfl (R.pickF (v := (.bool false)) rfl rfl) (qA (.bool false) rfl rfl ?_)
 refine WL.nil (thn_n (WP.ret ?_))
 refine ret_of Try.results52 (RV.tmp (v := (.bool false)) rfl RV.nil) ?_
 exact ⟨rfl, h_0.chgS⟩

theorem c_othere (id : Bool) (ob mp : Nat) (ms : List UInt8) (hms : ms.length = 32) (da : Option Addr) (dn dc u : Nat) (la : Option Addr) (ln lc : Nat) (w : World) (hcb : (Ent.blk ob .ro 50 [(1, [(.bool id)]), (32, ms.map vu8), (1, [(.slice da dn dc)]), (1, [(vi ((u : Nat) : Int))]), (1, [(.map (some mp))]), (1, [(.slice la ln lc)])]).ok w.heap.size w) :
  Cs Try.prog 52 [(.pointer (some ⟨ob, 0, none⟩))].toArray w (fun v w1 => v = (.bool true) ∧ Chg w w1 []) := by
 refine Cs.of (n := 12) (args := [(pO ob 0)]) Try.func52 rfl rfl rfl ?_
 have h_0 := HP.init w
 have h_00 := h_0.old hcb (fun f hf => by cases hf)
 refine WP.seq (WP.reg ?_)
 refine qA (.bool false) rfl rfl ?_
 refine WL.nil (thn_n (WP.seq (WP.reg ?_)))
 refine qM (pO ob 0) rfl rfl (qV rfl (R.neNilP rfl rfl Try.underlying32) (qM (.bool true) rfl rfl ?_))
 refine WL.want rfl rfl ?_
 refine qM (pO ob 0) rfl rfl ?_
 refine WL.want rfl rfl ?_
 refine qV rfl (R.nilCheck rfl) ?_
 refine WL.want rfl rfl ?_
 refine qV rfl (R.fieldAddr (b := ob) (off := 0) (off' := 35) rfl Try.underlying50 rfl Try.sizeOf47 rfl rfl) ?_
 refine WL.want rfl rfl ?_
 refine qV rfl (R.load1 (b := ob) (off := 35) (v := (.map (some mp))) rfl Try.isAgg47 (h_00.ok _ M0) (Sg.t rfl (Sg.t rfl (Sg.t rfl (Sg.t rfl Sg.h))))) ?_
 refine WL.want rfl rfl ?_
 refine qV rfl (R.neNilM rfl rfl Try.underlying47) (qV rfl (R.pickT (v := (.bool true)) rfl rfl) (qA (.bool true) rfl rfl ?_))
 refine WL.nil (thn_n (WP.ret ?_))
 refine ret_of Try.results52 (RV.tmp (v := (.bool true)) rfl RV.nil) ?_
 exact ⟨rfl, h_00.chgS⟩

theorem c_may (kd dm : Int) (key : List UInt8) (qa : Option Addr) (qn qc : Nat) (hk : key.length = 32) (h1 : 1 ≤ kd ∧ kd ≤ 4) (h2 : 1 ≤ dm ∧ dm ≤ 16) (hz : kd = 1 → key = List.replicate 32 0) (w : World) :
  Cs Try.prog 78 [(.agg ⟨flat [(1, [(vi kd)]), (32, key.map vu8), (1, [(vi dm)]), (1, [(.slice qa qn qc)])]⟩)].toArray w (fun v w1 => v = (.bool true) ∧ Chg w w1 []) := by
 refine Cs.of (n := 32) (args := [(.agg ⟨flat [(1, [(vi kd)]), (32, key.map vu8), (1, [(vi dm)]), (1, [(.slice qa qn qc)])]⟩)]) Try.func78 rfl rfl rfl ?_
 have h_0 := HP.init w
 refine WP.seq (WP.reg ?_)
 refine WL.box (v := (.agg ⟨flat [(1, [(vi kd)]), (32, key.map vu8), (1, [(vi dm)]), (1, [(.slice qa qn qc)])]⟩)) (segs := [(1, [(vi kd)]), (32, key.map vu8), (1, [(vi dm)]), (1, [(.slice qa qn qc)])]) h_0 rfl rfl (SsOk.cons (SOk.v rfl) (SsOk.cons (SOk.u8 hk) (SsOk.cons (SOk.v rfl) (SsOk.cons (SOk.v rfl) SsOk.nil)))) rfl (fun b_1 w_2 h_3 => ?_)
 refine qA (.bool false) rfl rfl ?_
 refine WL.nil (thn_n (WP.seq (WP.reg ?_)))
 refine qV rfl (R.fieldAddr (b := b_1) (off := 0) (off' := 0) rfl Try.underlying103 rfl Try.sizeOf101 rfl rfl) (qV rfl (R.load1 (b := b_1) (off := 0) (v := (vi kd)) rfl Try.isAgg101 (h_3.ok _ M0) Sg.h) (qV rfl (R.bin rfl rfl (bi_geq (r := decide ((kd : Int) ≥ 1)) rfl)) (qM (.bool (decide ((kd : Int) ≥ 1))) rfl rfl ?_)))
 refine WL.want rfl (congrArg Value.bool (decide_eq_true (by omega))) ?_
 refine qV rfl (R.fieldAddr (b := b_1) (off := 0) (off' := 0) rfl Try.underlying103 rfl Try.sizeOf101 rfl rfl) ?_
 refine WL.want rfl (congrArg Value.bool (decide_eq_true (by omega))) ?_
 refine qV rfl (R.load1 (b := b_1) (off := 0) (v := (vi kd)) rfl Try.isAgg101 (h_3.ok _ M0) Sg.h) ?_
 refine WL.want rfl (congrArg Value.bool (decide_eq_true (by omega))) ?_
 refine qV rfl (R.bin rfl rfl (bi_leq (r := decide ((kd : Int) ≤ 4)) rfl)) (qV rfl (R.pickT (v := (.bool (decide ((kd : Int) ≤ 4)))) (congrArg Value.bool (decide_eq_true (by omega))) rfl) (qM (.bool (decide ((kd : Int) ≤ 4))) rfl rfl ?_))
 refine WL.want rfl (congrArg Value.bool (decide_eq_true (by omega))) ?_
 refine qV rfl (R.fieldAddr (b := b_1) (off := 0) (off' := 33) rfl Try.underlying103 rfl Try.sizeOf56 rfl rfl) ?_
 refine WL.want rfl (congrArg Value.bool (decide_eq_true (by omega))) ?_
 refine qV rfl (R.load1 (b := b_1) (off := 33) (v := (vi dm)) rfl Try.isAgg56 (h_3.ok _ M0) (Sg.t rfl (Sg.t rfl Sg.h))) ?_
 refine WL.want rfl (congrArg Value.bool (decide_eq_true (by omega))) ?_
 refine qV rfl (R.bin rfl rfl (bi_geq (r := decide ((dm : Int) ≥ 1)) rfl)) (qV rfl (R.pickT (v := (.bool (decide ((dm : Int) ≥ 1)))) (congrArg Value.bool (decide_eq_true (by omega))) rfl) (qM (.bool (decide ((dm : Int) ≥ 1))) rfl rfl ?_))
 refine WL.want rfl (congrArg Value.bool (decide_eq_true (by omega))) ?_
 refine qV rfl (R.fieldAddr (b := b_1) (off := 0) (off' := 33) rfl Try.underlying103 rfl Try.sizeOf56 rfl rfl) ?_
 refine WL.want rfl (congrArg Value.bool (decide_eq_true (by omega))) ?_
 refine qV rfl (R.load1 (b := b_1) (off := 33) (v := (vi dm)) rfl Try.isAgg56 (h_3.ok _ M0) (Sg.t rfl (Sg.t rfl Sg.h))) ?_
 refine WL.want rfl (congrArg Value.bool (decide_eq_true (by omega))) ?_
 refine qV rfl (R.bin rfl rfl (bi_leq (r := decide ((dm : Int) ≤ 16)) rfl)) (qV rfl (R.pickT (v := (.bool (decide ((dm : Int) ≤ 16)))) (congrArg Value.bool (decide_eq_true (by omega))) rfl) (qM (.bool (decide ((dm : Int) ≤ 16))) rfl rfl ?_))
 refine WL.want rfl (congrArg Value.bool (decide_eq_true (by omega))) ?_
 refine qV rfl (R.fieldAddr (b := b_1) (off := 0) (off' := 0) rfl Try.underlying103 rfl Try.sizeOf101 rfl rfl) ?_
 refine WL.want rfl (congrArg Value.bool (decide_eq_true (by omega))) ?_
 refine qV rfl (R.load1 (b := b_1) (off := 0) (v := (vi kd)) rfl Try.isAgg101 (h_3.ok _ M0) Sg.h) ?_
 refine WL.want rfl (congrArg Value.bool (decide_eq_true (by omega))) ?_
 refine qV rfl (R.bin rfl rfl (bi_neq (r := decide ((kd : Int) ≠ 1)) rfl)) ?_
 refine WL.want rfl (congrArg Value.bool (decide_eq_true (by omega))) ?_
 refine qM (.bool (decide ((kd : Int) ≠ 1))) rfl rfl ?_
 rcases Bool.eq_false_or_eq_true (decide ((kd : Int) ≠ 1)) with c_4 | c_4
 ·have p_5 := of_decide_eq_true c_4
  refine WL.skip rfl (congrArg Value.bool c_4) rfl ?_
  refine WL.skip rfl (congrArg Value.bool c_4) rfl ?_
  refine WL.skip rfl (congrArg Value.bool c_4) rfl ?_
  refine WL.skip rfl (congrArg Value.bool c_4) rfl ?_
  refine WL.want rfl (congrArg Value.bool (decide_eq_true (by omega))) ?_
  refine qV rfl (R.pickT (v := (.bool true)) (congrArg Value.bool c_4) rfl) (qV rfl (R.pickT (v := (.bool true)) (congrArg Value.bool (decide_eq_true (by omega))) rfl) (qA (.bool true) rfl rfl ?_))
  refine WL.nil (thn_n (WP.ret ?_))
  refine ret_of Try.results78 (RV.tmp (v := (.bool true)) rfl RV.nil) ?_
  exact ⟨rfl, h_3.chgS⟩
 ·have p_6 := of_decide_eq_false c_4
  refine WL.want rfl (congrArg Value.bool c_4) ?_
  refine qV rfl (R.fieldAddr (b := b_1) (off := 0) (off' := 1) rfl Try.underlying103 rfl Try.sizeOf23 rfl rfl) ?_
  refine WL.want rfl (congrArg Value.bool c_4) ?_
  refine qV rfl (R.loadA (b := b_1) (off := 1) [(1, [(vi kd)])] [(32, key.map vu8)] [(1, [(vi dm)]), (1, [(.slice qa qn qc)])] (cs := key.map vu8) rfl Try.isAgg23 Try.sizeOf23 (h_3.ok _ M0) rfl rfl rfl rfl) ?_
  refine WL.want rfl (congrArg Value.bool c_4) ?_
  refine qV rfl (R.buildA (vs := []) (cs := (List.replicate 32 (0 : UInt8)).map vu8) Try.underlying23 Try.sizeOf5 (zv Try.typeInfo23 rfl) rfl rfl) ?_
  refine WL.want rfl (congrArg Value.bool c_4) ?_
  refine qV rfl (R.eqA (xs := key.map vu8) (ys := (List.replicate 32 (0 : UInt8)).map vu8) (r := true) rfl rfl Try.eqGuardType23 kt23 (by decide) ag23 (Typ.u8s Try.underlying23 ce23 Try.underlying5 ce5 hk) (Typ.u8s Try.underlying23 ce23 Try.underlying5 ce5 lr) (eqT (by rw [hz (by omega)]))) ?_
  refine WL.want rfl (congrArg Value.bool (decide_eq_true (by omega))) ?_
  refine qV rfl (R.pickF (v := (.bool true)) (congrArg Value.bool c_4) rfl) (qV rfl (R.pickT (v := (.bool true)) (congrArg Value.bool (decide_eq_true (by omega))) rfl) (qA (.bool true) rfl rfl ?_))
  refine WL.nil (thn_n (WP.ret ?_))
  refine ret_of Try.results78 (RV.tmp (v := (.bool true)) rfl RV.nil) ?_
  exact ⟨rfl, h_3.chgS⟩

theorem c_may_0 (dm : Int) (key : List UInt8) (qa : Option Addr) (qn qc : Nat) (hk : key.length = 32) (w : World) :
  Cs Try.prog 78 [(.agg ⟨flat [(1, [(vi 0)]), (32, key.map vu8), (1, [(vi dm)]), (1, [(.slice qa qn qc)])]⟩)].toArray w (fun v w1 => v = (.bool false) ∧ Chg w w1 []) := by
 refine Cs.of (n := 32) (args := [(.agg ⟨flat [(1, [(vi 0)]), (32, key.map vu8), (1, [(vi dm)]), (1, [(.slice qa qn qc)])]⟩)]) Try.func78 rfl rfl rfl ?_
 have h_0 := HP.init w
 refine WP.seq (WP.reg ?_)
 refine WL.box (v := (.agg ⟨flat [(1, [(vi 0)]), (32, key.map vu8), (1, [(vi dm)]), (1, [(.slice qa qn qc)])]⟩)) (segs := [(1, [(vi 0)]), (32, key.map vu8), (1, [(vi dm)]), (1, [(.slice qa qn qc)])]) h_0 rfl rfl (SsOk.cons (SOk.v rfl) (SsOk.cons (SOk.u8 hk) (SsOk.cons (SOk.v rfl) (SsOk.cons (SOk.v rfl) SsOk.nil)))) rfl (fun b_1 w_2 h_3 => ?_)
 refine qA (.bool false) rfl rfl ?_
 refine WL.nil (thn_n (WP.seq (WP.reg ?_)))
 refine qV rfl (R.fieldAddr (b := b_1) (off := 0) (off' := 0) rfl Try.underlying103 rfl Try.sizeOf101 rfl rfl) (qV rfl (R.load1 (b := b_1) (off := 0) (v := (vi 0)) rfl Try.isAgg101 (h_3.ok _ M0) Sg.h) (qV rfl (R.bin rfl rfl (bi_geq (r := false) (by decide))) (qM (.bool false) rfl rfl ?_)))
 refine WL.skip rfl rfl rfl ?_
 refine WL.skip rfl rfl rfl ?_
 refine WL.skip rfl rfl rfl ?_
 refine qV rfl (R.pickF (v := (.bool false)) rfl rfl) (qM (.bool false) rfl rfl ?_)
 refine WL.skip rfl rfl rfl ?_
 refine WL.skip rfl rfl rfl ?_
 refine WL.skip rfl rfl rfl ?_
 refine qV rfl (R.pickF (v := (.bool false)) rfl rfl) (qM (.bool false) rfl rfl ?_)
 refine WL.skip rfl rfl rfl ?_
 refine WL.skip rfl rfl rfl ?_
 refine WL.skip rfl rfl rfl ?_
 refine qV rfl (R.pickF (v := (.bool false)) rfl rfl) (qM (.bool false) rfl rfl ?_)
 refine WL.skip rfl rfl rfl ?_
 refine WL.skip rfl rfl rfl ?_
 refine WL.skip rfl rfl rfl ?_
 refine WL.skip rfl rfl rfl ?_
 refine WL.skipU rfl rfl rfl ?_
 refine WL.skipU rfl rfl rfl ?_
 refine WL.skipU rfl rfl rfl ?_
 refine WL.skipU rfl rfl rfl ?_
 refine WL.skip rfl rfl rfl ?_
 refine qV rfl (R.pickF (v := (.bool false)) rfl rfl) (qA (.bool false) rfl rfl ?_)
 refine WL.nil (thn_n (WP.ret ?_))
 refine ret_of Try.results78 (RV.tmp (v := (.bool false)) rfl RV.nil) ?_
 exact ⟨rfl, h_3.chgS⟩

theorem c_oAsk_0 (id : Bool) (ob mp : Nat) (ms : List UInt8) (hms : ms.length = 32) (da : Option Addr) (dn dc u : Nat) (la : Option Addr) (ln lc : Nat) (dm : Int) (key : List UInt8) (qa : Option Addr) (qn qc : Nat) (hk : key.length = 32) (w : World) (hcb : (Ent.blk ob .ro 50 [(1, [(.bool id)]), (32, ms.map vu8), (1, [(.slice da dn dc)]), (1, [(vi ((u : Nat) : Int))]), (1, [(.map (some mp))]), (1, [(.slice la ln lc)])]).ok w.heap.size w) :
  Cs Try.prog 48 [(.pointer (some ⟨ob, 0, none⟩)), (.agg ⟨flat [(1, [(vi 0)]), (32, key.map vu8), (1, [(vi dm)]), (1, [(.slice qa qn qc)])]⟩)].toArray w (fun v w1 => v = (.tuple [(.agg ⟨(List.replicate 32 (0 : UInt8)).map vu8⟩), (vi 2)].toArray) ∧ Chg w w1 []) := by
 refine Cs.of (n := 25) (args := [(pO ob 0), (.agg ⟨flat [(1, [(vi 0)]), (32, key.map vu8), (1, [(vi dm)]), (1, [(.slice qa qn qc)])]⟩)]) Try.func48 rfl rfl rfl ?_
 have h_0 := HP.init w
 have h_00 := h_0.old hcb (fun f hf => by cases hf)
 refine WP.seq (WP.reg ?_)
 refine WL.box (v := (.agg ⟨flat [(1, [(vi 0)]), (32, key.map vu8), (1, [(vi dm)]), (1, [(.slice qa qn qc)])]⟩)) (segs := [(1, [(vi 0)]), (32, key.map vu8), (1, [(vi dm)]), (1, [(.slice qa qn qc)])]) h_00 rfl rfl (SsOk.cons (SOk.v rfl) (SsOk.cons (SOk.u8 hk) (SsOk.cons (SOk.v rfl) (SsOk.cons (SOk.v rfl) SsOk.nil)))) rfl (fun b_1 w_2 h_3 => ?_)
 refine WL.alloc (segs := [(32, (List.replicate 32 (0 : UInt8)).map vu8)]) h_3 (zv Try.typeInfo23 rfl) rfl (SsOk.cons (SOk.u8 lr) SsOk.nil) rfl (fun b_4 w_5 h_6 => ?_)
 refine qA (vi 0) rfl rfl ?_
 refine WL.nil (thn_n (WP.seq (WP.block (WP.seq (WP.reg ?_)))))
 refine qM (pO ob 0) rfl rfl ?_
 refine WL.call Try.call52 rfl rfl (c_othere id ob mp ms hms da dn dc u la ln lc _ (h_6.argR M2)) rfl ?_
 rintro _ w_8 ⟨rfl, hc_7⟩
 have h_9 := h_6.same hc_7
 refine qV rfl (R.not (b := true) rfl) (qA (.bool false) rfl rfl ?_)
 refine WL.nil (thn_n ?_)
 refine WP.condF rfl ?_
 refine WP.seq (WP.reg ?_)
 refine qV rfl (R.loadA (b := b_1) (off := 0) [] [(1, [(vi 0)]), (32, key.map vu8), (1, [(vi dm)]), (1, [(.slice qa qn qc)])] [] (cs := flat [(1, [(vi 0)]), (32, key.map vu8), (1, [(vi dm)]), (1, [(.slice qa qn qc)])]) rfl Try.isAgg103 Try.sizeOf103 (h_9.ok _ M1) rfl rfl rfl rfl) ?_
 refine WL.call Try.call78 rfl rfl (c_may_0 dm key qa qn qc hk _ ) rfl ?_
 rintro _ w_11 ⟨rfl, hc_10⟩
 have h_12 := h_9.same hc_10
 refine qV rfl (R.not (b := false) rfl) (qM (.bool true) rfl rfl ?_)
 refine WL.skip rfl rfl rfl ?_
 refine WL.skip rfl rfl rfl ?_
 refine WL.skip rfl rfl rfl ?_
 refine qV rfl (R.pickT (v := (.bool true)) rfl rfl) (qA (.bool true) rfl rfl ?_)
 refine WL.nil (thn_n ?_)
 refine WP.condT rfl ?_
 refine WP.seq (WP.reg ?_)
 refine qV rfl (R.buildA (vs := []) (cs := (List.replicate 32 (0 : UInt8)).map vu8) Try.underlying23 Try.sizeOf5 (zv Try.typeInfo23 rfl) rfl rfl) ?_
 refine WL.storeA (b := b_4) (off := 0) [] [(32, (List.replicate 32 (0 : UInt8)).map vu8)] [(32, (List.replicate 32 (0 : UInt8)).map vu8)] [] (ys := (List.replicate 32 (0 : UInt8)).map vu8) h_12 rfl rfl Try.sizeOf23 At.h (by decide) rfl rfl rfl rfl rfl rfl (SsOk.cons (SOk.u8 lr) SsOk.nil) (fun w_13 h_14 => ?_)
 refine qA (vi 2) rfl rfl ?_
 refine WL.nil (thn_n (WP.ret (inb_r (thn_r ?_))))
 refine ret_of Try.results48 (RV.cell rfl (h_14.loadA (cs := (List.replicate 32 (0 : UInt8)).map vu8) Try.isAgg23 Try.sizeOf23 M0 rfl rfl) (RV.tmp (v := (vi 2)) rfl RV.nil)) ?_
 exact ⟨rfl, h_14.chgS⟩

theorem c_oAsk {w00 : World} {L : List Ent} (id : Bool) (ob mp : Nat) (ms df : List UInt8) (hms : ms.length = 32) (da : Option Addr) (dn dc u : Nat) (hdf : df.length = 32 * dn) (la : Option Addr) (lc : Nat) (lx : List Value) (lg : Lg) (hu : u ≤ 1000000) (hlg : lg.length ≤ 1000000) (kd dm : Int) (key data : List UInt8) (qa : Option Addr) (qn qc : Nat) (hq : okQ (kd, key, dm, data)) (hdl : data.length = qn) (hk4 : ¬ kd = 4) (hz : kd = 1 → key = List.replicate 32 0) (w : World) (h_0 : HP w00 w (Ent.blk ob .nw 50 [(1, [(.bool id)]), (32, ms.map vu8), (1, [(.slice da dn dc)]), (1, [(vi ((u : Nat) : Int))]), (1, [(.map (some mp))]), (1, [(.slice la lg.length lc)])] :: Ent.row la lg.length lc 111 67 lx :: Ent.obj mp .nw (.map (mArr lg) lg.length) :: Ent.pin (sblks lx) (fun w => Lgs w lx lg) :: Ent.view da (df.map vu8) :: Ent.view qa (data.map vu8) :: L)) :
  Cs Try.prog 48 [(.pointer (some ⟨ob, 0, none⟩)), (.agg ⟨flat [(1, [(vi kd)]), (32, key.map vu8), (1, [(vi dm)]), (1, [(.slice qa qn qc)])]⟩)].toArray w (fun v w1 => ∃ la' lc' lx', v = (.tuple [(.agg ⟨(anD id df dn u lg (kd, key, dm, data)).map vu8⟩), (vi 0)].toArray) ∧ HP w00 w1 (Ent.blk ob .nw 50 [(1, [(.bool id)]), (32, ms.map vu8), (1, [(.slice da dn dc)]), (1, [(vi (((anU id u lg (kd, key, dm, data)) : Nat) : Int))]), (1, [(.map (some mp))]), (1, [(.slice la' ((anL id df dn u lg (kd, key, dm, data)).length) lc')])] :: Ent.row la' ((anL id df dn u lg (kd, key, dm, data)).length) lc' 111 67 lx' :: Ent.obj mp .nw (.map (mArr (anL id df dn u lg (kd, key, dm, data))) ((anL id df dn u lg (kd, key, dm, data)).length)) :: Ent.pin (sblks lx') (fun w => Lgs w lx' (anL id df dn u lg (kd, key, dm, data))) :: Ent.view da (df.map vu8) :: Ent.view qa (data.map vu8) :: L)) := by
 refine Cs.of (n := 25) (args := [(pO ob 0), (.agg ⟨flat [(1, [(vi kd)]), (32, key.map vu8), (1, [(vi dm)]), (1, [(.slice qa qn qc)])]⟩)]) Try.func48 rfl rfl rfl ?_
 refine WP.seq (WP.reg ?_)
 refine WL.box (v := (.agg ⟨flat [(1, [(vi kd)]), (32, key.map vu8), (1, [(vi dm)]), (1, [(.slice qa qn qc)])]⟩)) (segs := [(1, [(vi kd)]), (32, key.map vu8), (1, [(vi dm)]), (1, [(.slice qa qn qc)])]) h_0 rfl rfl (SsOk.cons (SOk.v rfl) (SsOk.cons (SOk.u8 hq.1) (SsOk.cons (SOk.v rfl) (SsOk.cons (SOk.v rfl) SsOk.nil)))) rfl (fun b_1 w_2 h_3 => ?_)
 refine WL.alloc (segs := [(32, (List.replicate 32 (0 : UInt8)).map vu8)]) h_3 (zv Try.typeInfo23 rfl) rfl (SsOk.cons (SOk.u8 lr) SsOk.nil) rfl (fun b_4 w_5 h_6 => ?_)
 refine qA (vi 0) rfl rfl ?_
 refine WL.nil (thn_n (WP.seq (WP.block (WP.seq (WP.reg ?_)))))
 refine qM (pO ob 0) rfl rfl ?_
 refine WL.call Try.call52 rfl rfl (c_othere id ob mp ms hms da dn dc u la lg.length lc _ (h_6.argR M2)) rfl ?_
 rintro _ w_8 ⟨rfl, hc_7⟩
 have h_9 := h_6.same hc_7
 refine qV rfl (R.not (b := true) rfl) (qA (.bool false) rfl rfl ?_)
 refine WL.nil (thn_n ?_)
 refine WP.condF rfl ?_
 refine WP.seq (WP.reg ?_)
 refine qV rfl (R.loadA (b := b_1) (off := 0) [] [(1, [(vi kd)]), (32, key.map vu8), (1, [(vi dm)]), (1, [(.slice qa qn qc)])] [] (cs := flat [(1, [(vi kd)]), (32, key.map vu8), (1, [(vi dm)]), (1, [(.slice qa qn qc)])]) rfl Try.isAgg103 Try.sizeOf103 (h_9.ok _ M1) rfl rfl rfl rfl) ?_
 refine WL.call Try.call78 rfl rfl (c_may kd dm key qa qn qc hq.1 (hq.2.1) (hq.2.2.1) hz _ ) rfl ?_
 rintro _ w_11 ⟨rfl, hc_10⟩
 have h_12 := h_9.same hc_10
 refine qV rfl (R.not (b := true) rfl) (qM (.bool false) rfl rfl ?_)
 refine WL.want rfl rfl ?_
 refine qV rfl (R.fieldAddr (b := b_1) (off := 0) (off' := 0) rfl Try.underlying103 rfl Try.sizeOf101 rfl rfl) ?_
 refine WL.want rfl rfl ?_
 refine qV rfl (R.load1 (b := b_1) (off := 0) (v := (vi kd)) rfl Try.isAgg101 (h_12.ok _ M1) Sg.h) ?_
 refine WL.want rfl rfl ?_
 refine qV rfl (R.bin rfl rfl (bi_eql (r := decide ((kd : Int) = 4)) rfl)) (qV rfl (R.pickF (v := (.bool (decide ((kd : Int) = 4)))) rfl rfl) (qA (.bool (decide ((kd : Int) = 4))) rfl rfl ?_))
 refine WL.nil (thn_n ?_)
 refine WP.condF (congrArg Value.bool (decide_eq_false hk4)) ?_
 refine WP.skip (inb_n (thn_n (WP.seq (WP.reg ?_))))
 refine qM (pO ob 0) rfl rfl (qV rfl (R.loadA (b := b_1) (off := 0) [] [(1, [(vi kd)]), (32, key.map vu8), (1, [(vi dm)]), (1, [(.slice qa qn qc)])] [] (cs := flat [(1, [(vi kd)]), (32, key.map vu8), (1, [(vi dm)]), (1, [(.slice qa qn qc)])]) rfl Try.isAgg103 Try.sizeOf103 (h_12.ok _ M1) rfl rfl rfl rfl) (qV rfl (R.makeFuncL (fi := []) (ca := [(pO b_1 0)]) rfl rfl) ?_))
 have h_19 := ((((((h_12.up J1).up J7).up J7).up J7).up J7).up J7).up J7
 have h32_w_23 := (Lgs.ok32 (h_19.ok _ M3).1)
 refine WL.call Try.call79 rfl rfl (c_ansG id ob mp ms df hms da dn dc u hdf la lc lx lg (by first | decide | omega) (by first | decide | omega) kd dm key data qa qn qc hq hdl b_1 _ h_19) rfl ?_
 rintro _ w_23 ⟨la_20, lc_21, lx_22, rfl, h_24⟩
 refine WL.storeA (b := b_4) (off := 0) [] [(32, (List.replicate 32 (0 : UInt8)).map vu8)] [(32, (anD id df dn u lg (kd, key, dm, data)).map vu8)] [] (ys := (anD id df dn u lg (kd, key, dm, data)).map vu8) h_24 rfl rfl Try.sizeOf23 Y7 (by decide) rfl rfl rfl rfl rfl rfl (SsOk.cons (SOk.u8 (anD_len hdf h32_w_23)) SsOk.nil) (fun w_25 h_26 => ?_)
 refine qA (vi 0) rfl rfl ?_
 refine WL.nil (thn_n (WP.ret ?_))
 refine ret_of Try.results48 (RV.cell rfl (h_26.loadA (cs := (anD id df dn u lg (kd, key, dm, data)).map vu8) Try.isAgg23 Try.sizeOf23 M7 rfl rfl) (RV.tmp (v := (vi 0)) rfl RV.nil)) ?_
 have h_36 := (((((((((h_26.up J6).drop rfl).up J6).drop rfl).up J5).up J5).up J5).up J5).up J5).up J5
 exact ⟨_, _, _, rfl, h_36⟩
end Go.Proofs.Ytnhppjimimhlkaa

namespace Go.Proofs.Ytnhppjimimhlkaa
open Go.Vc Go.Orc Go.Sh Go.RowKit
set_option maxRecDepth 20000
theorem pl50 : ∀ fs, Try.prog.underlying 50 = some (.struct fs) → Places Try.prog fs [(0, 1), (1, 32), (33, 1), (34, 1), (35, 1), (36, 1)] := by
 intro fs h w; rw [Try.underlying50] at h; cases h; simp
theorem pl103 : ∀ fs, Try.prog.underlying 103 = some (.struct fs) → Places Try.prog fs [(0, 1), (1, 32), (33, 1), (34, 1)] := by
 intro fs h w; rw [Try.underlying103] at h; cases h; simp
theorem c_ONew {w00 : World} {L : List Ent} (id : Bool) (ms df : List UInt8) (hms : ms.length = 32) (a : Option Addr) (n cap : Nat) (hl : df.length = 32 * n) (hn : n ≤ 1000000) (w : World) (h_0 : HP w00 w (Ent.view a (df.map vu8) :: L)) :
  Cs Try.prog 17 [(.bool id), (.agg ⟨ms.map vu8⟩), (.slice a n cap)].toArray w (fun v w1 => ∃ ob mp da dc, v = .pointer (some ⟨ob, 0, none⟩) ∧ HP w00 w1 (Ent.blk ob .nw 50 [(1, [(.bool id)]), (32, ms.map vu8), (1, [(.slice da n dc)]), (1, [(vi 0)]), (1, [(.map (some mp))]), (1, [(.slice none 0 0)])] :: Ent.row none 0 0 111 67 [] :: Ent.obj mp .nw (.map (mArr ([] : Lg)) 0) :: Ent.pin (sblks []) (fun w => Lgs w [] ([] : Lg)) :: Ent.view da (df.map vu8) :: Ent.view a (df.map vu8) :: L)) := by
 refine Cs.of (n := 14) (args := [(.bool id), (.agg ⟨ms.map vu8⟩), (.slice a n cap)]) Try.func17 rfl rfl rfl ?_
 refine WP.seq (WP.reg ?_)
 refine WL.box (v := (.agg ⟨ms.map vu8⟩)) (segs := [(32, ms.map vu8)]) h_0 rfl rfl (SsOk.cons (SOk.u8 hms) SsOk.nil) rfl (fun b_1 w_2 h_3 => ?_)
 refine qA (.pointer none) rfl rfl ?_
 refine WL.nil (thn_n (WP.seq ?_))
 refine WP.cutG (G := Nat × Option Addr × Nat × Nat) [6, 7, 8, 9, 10, 11, 12, 13] (fun (bY1Y6Y0Y0, aY1Y3Y0Y0, capY1Y3Y0Y0, bY1Y4Y0Y0) => [(6, (pO bY1Y6Y0Y0 0)), (7, (.bool id)), (8, (.agg ⟨ms.map vu8⟩)), (9, (.slice a n cap)), (10, (.slice aY1Y3Y0Y0 n capY1Y3Y0Y0)), (11, (.map (some bY1Y4Y0Y0))), (12, (.agg ⟨flat [(1, [(.bool id)]), (32, ms.map vu8), (1, [(.slice aY1Y3Y0Y0 n capY1Y3Y0Y0)]), (1, [(vi 0)]), (1, [(.map (some bY1Y4Y0Y0))]), (1, [(.slice none 0 0)])]⟩)), (13, (pO bY1Y6Y0Y0 0))]) (fun (bY1Y6Y0Y0, aY1Y3Y0Y0, capY1Y3Y0Y0, bY1Y4Y0Y0) w1 => HP w00 w1 (Ent.blk bY1Y6Y0Y0 .nw 50 [(1, [(.bool id)]), (32, ms.map vu8), (1, [(.slice aY1Y3Y0Y0 n capY1Y3Y0Y0)]), (1, [(vi 0)]), (1, [(.map (some bY1Y4Y0Y0))]), (1, [(.slice none 0 0)])] :: Ent.obj bY1Y4Y0Y0 .nw (.map (#[]) 0) :: Ent.row aY1Y3Y0Y0 n capY1Y3Y0Y0 23 32 (df.map vu8) :: Ent.blk b_1 .nw 23 [(32, ms.map vu8)] :: Ent.view a (df.map vu8) :: L)) ?_ ?_
 ·refine WP.drawT (SL w00.heap.size [.blk b_1 .nw 23 [(32, ms.map vu8)], .view a (df.map vu8)]) (.q 0 (.q 1 (.q 2 (.s2 3 4 (.s 4 (.q 5 (.s 6 (.q 7 .nil)))) (.s 3 (.q 5 (.s 6 (.q 7 .nil)))))))) (by kernel_rfl) (by kernel_rfl) rfl (by kernel_rfl) (fun w_4 hc_6 => (SL.cons ((h_3.same hc_6).ok _ M0) (SL.cons ((h_3.same hc_6).ok _ M1) (SL.nil _ _)))) (fun w_4 hc_6 => ?_)
  have h_5 := h_3.same hc_6
  refine qT rfl rfl (fun wq hS => R.move (v := (.bool id)) rfl) ?_
  refine qT rfl rfl (fun wq hS => R.loadA (b := b_1) (off := 0) [] [(32, ms.map vu8)] [] (cs := ms.map vu8) rfl Try.isAgg23 Try.sizeOf23 (hS _ M0) rfl rfl rfl rfl) ?_
  refine qT rfl rfl (fun wq hS => R.move (v := (.slice a n cap)) rfl) ?_
  refine WT.s2 ?_ ?_
  ·refine Op1.one rfl (Wn.no rfl) ?_
   refine WL.call Try.call50 rfl rfl (c_CloneD a n cap df hl (by omega) _ (viewV (h_5.ok _ M1))) rfl ?_
   rintro _ w_9 ⟨a_7, cap_8, rfl, hc_10, ho_11⟩
   have h_12 := h_5.gotRow hc_10 ho_11
   refine WL.nil ?_
   refine ⟨(SL.cons (h_12.ok _ M1) (SL.cons (h_12.ok _ M2) (SL.nil _ _))), ?_⟩
   refine WT.s (Op1.one rfl (Wn.no rfl) ?_)
   refine WL.makeMap h_12 rfl (fun b_13 w_14 h_15 => ?_)
   refine WL.nil ?_
   refine ⟨(SL.cons (h_15.ok _ M2) (SL.cons (h_15.ok _ M3) (SL.nil _ _))), ?_⟩
   refine qT rfl rfl (fun wq hS => R.buildS (pl := [(0, 1), (1, 32), (33, 1), (34, 1), (35, 1), (36, 1)]) (zs := [(1, [(.bool false)]), (32, (List.replicate 32 (0 : UInt8)).map vu8), (1, [(.slice none 0 0)]), (1, [(vi 0)]), (1, [(.map none)]), (1, [(.slice none 0 0)])]) (vs := [(0, (.bool id)), (1, (.agg ⟨ms.map vu8⟩)), (2, (.slice a_7 n cap_8)), (4, (.map (some b_13)))]) (out := [(1, [(.bool id)]), (32, ms.map vu8), (1, [(.slice a_7 n cap_8)]), (1, [(vi 0)]), (1, [(.map (some b_13))]), (1, [(.slice none 0 0)])]) (cs := flat [(1, [(.bool id)]), (32, ms.map vu8), (1, [(.slice a_7 n cap_8)]), (1, [(vi 0)]), (1, [(.map (some b_13))]), (1, [(.slice none 0 0)])]) Try.underlying50 (zv Try.typeInfo50 rfl) rfl (SsOk.cons (SOk.v rfl) (SsOk.cons (SOk.u8 lr) (SsOk.cons (SOk.v rfl) (SsOk.cons (SOk.v rfl) (SsOk.cons (SOk.v rfl) (SsOk.cons (SOk.v rfl) SsOk.nil)))))) (pl50 _ Try.underlying50) rfl (FillR.cons [] [(1, [(.bool false)])] [(1, [(.bool id)])] [(32, (List.replicate 32 (0 : UInt8)).map vu8), (1, [(.slice none 0 0)]), (1, [(vi 0)]), (1, [(.map none)]), (1, [(.slice none 0 0)])] rfl rfl rfl rfl (SsOk.cons (SOk.v rfl) SsOk.nil) rfl rfl rfl (FillR.cons [(1, [(.bool id)])] [(32, (List.replicate 32 (0 : UInt8)).map vu8)] [(32, ms.map vu8)] [(1, [(.slice none 0 0)]), (1, [(vi 0)]), (1, [(.map none)]), (1, [(.slice none 0 0)])] rfl rfl rfl rfl (SsOk.cons (SOk.u8 hms) SsOk.nil) rfl rfl rfl (FillR.cons [(1, [(.bool id)]), (32, ms.map vu8)] [(1, [(.slice none 0 0)])] [(1, [(.slice a_7 n cap_8)])] [(1, [(vi 0)]), (1, [(.map none)]), (1, [(.slice none 0 0)])] rfl rfl rfl rfl (SsOk.cons (SOk.v rfl) SsOk.nil) rfl rfl rfl (FillR.cons [(1, [(.bool id)]), (32, ms.map vu8), (1, [(.slice a_7 n cap_8)]), (1, [(vi 0)])] [(1, [(.map none)])] [(1, [(.map (some b_13))])] [(1, [(.slice none 0 0)])] rfl rfl rfl rfl (SsOk.cons (SOk.v rfl) SsOk.nil) rfl rfl rfl FillR.nil)))) rfl) ?_
   refine WT.s (Op1.one rfl (Wn.no rfl) ?_)
   refine WL.box (v := (.agg ⟨flat [(1, [(.bool id)]), (32, ms.map vu8), (1, [(.slice a_7 n cap_8)]), (1, [(vi 0)]), (1, [(.map (some b_13))]), (1, [(.slice none 0 0)])]⟩)) (segs := [(1, [(.bool id)]), (32, ms.map vu8), (1, [(.slice a_7 n cap_8)]), (1, [(vi 0)]), (1, [(.map (some b_13))]), (1, [(.slice none 0 0)])]) h_15 rfl rfl (SsOk.cons (SOk.v rfl) (SsOk.cons (SOk.u8 hms) (SsOk.cons (SOk.v rfl) (SsOk.cons (SOk.v rfl) (SsOk.cons (SOk.v rfl) (SsOk.cons (SOk.v rfl) SsOk.nil)))))) rfl (fun b_17 w_18 h_19 => ?_)
   refine WL.nil ?_
   refine ⟨(SL.cons (h_19.ok _ M3) (SL.cons (h_19.ok _ M4) (SL.nil _ _))), ?_⟩
   refine qT rfl rfl (fun wq hS => R.assign (v := (pO b_17 0)) rfl) ?_
   refine WT.nil (thn_n ?_)
   exact ⟨(b_17, a_7, cap_8, b_13), (U4 rfl rfl rfl rfl (U4 rfl rfl rfl rfl (Ag.refl _ _))), ⟨rfl, rfl, rfl, rfl, rfl, rfl, rfl, rfl, trivial⟩, h_19⟩
  ·refine Op1.one rfl (Wn.no rfl) ?_
   refine WL.makeMap h_5 rfl (fun b_20 w_21 h_22 => ?_)
   refine WL.nil ?_
   refine ⟨(SL.cons (h_22.ok _ M1) (SL.cons (h_22.ok _ M2) (SL.nil _ _))), ?_⟩
   refine WT.s (Op1.one rfl (Wn.no rfl) ?_)
   refine WL.call Try.call50 rfl rfl (c_CloneD a n cap df hl (by omega) _ (viewV (h_22.ok _ M2))) rfl ?_
   rintro _ w_25 ⟨a_23, cap_24, rfl, hc_26, ho_27⟩
   have h_28 := h_22.gotRow hc_26 ho_27
   refine WL.nil ?_
   refine ⟨(SL.cons (h_28.ok _ M2) (SL.cons (h_28.ok _ M3) (SL.nil _ _))), ?_⟩
   refine qT rfl rfl (fun wq hS => R.buildS (pl := [(0, 1), (1, 32), (33, 1), (34, 1), (35, 1), (36, 1)]) (zs := [(1, [(.bool false)]), (32, (List.replicate 32 (0 : UInt8)).map vu8), (1, [(.slice none 0 0)]), (1, [(vi 0)]), (1, [(.map none)]), (1, [(.slice none 0 0)])]) (vs := [(0, (.bool id)), (1, (.agg ⟨ms.map vu8⟩)), (2, (.slice a_23 n cap_24)), (4, (.map (some b_20)))]) (out := [(1, [(.bool id)]), (32, ms.map vu8), (1, [(.slice a_23 n cap_24)]), (1, [(vi 0)]), (1, [(.map (some b_20))]), (1, [(.slice none 0 0)])]) (cs := flat [(1, [(.bool id)]), (32, ms.map vu8), (1, [(.slice a_23 n cap_24)]), (1, [(vi 0)]), (1, [(.map (some b_20))]), (1, [(.slice none 0 0)])]) Try.underlying50 (zv Try.typeInfo50 rfl) rfl (SsOk.cons (SOk.v rfl) (SsOk.cons (SOk.u8 lr) (SsOk.cons (SOk.v rfl) (SsOk.cons (SOk.v rfl) (SsOk.cons (SOk.v rfl) (SsOk.cons (SOk.v rfl) SsOk.nil)))))) (pl50 _ Try.underlying50) rfl (FillR.cons [] [(1, [(.bool false)])] [(1, [(.bool id)])] [(32, (List.replicate 32 (0 : UInt8)).map vu8), (1, [(.slice none 0 0)]), (1, [(vi 0)]), (1, [(.map none)]), (1, [(.slice none 0 0)])] rfl rfl rfl rfl (SsOk.cons (SOk.v rfl) SsOk.nil) rfl rfl rfl (FillR.cons [(1, [(.bool id)])] [(32, (List.replicate 32 (0 : UInt8)).map vu8)] [(32, ms.map vu8)] [(1, [(.slice none 0 0)]), (1, [(vi 0)]), (1, [(.map none)]), (1, [(.slice none 0 0)])] rfl rfl rfl rfl (SsOk.cons (SOk.u8 hms) SsOk.nil) rfl rfl rfl (FillR.cons [(1, [(.bool id)]), (32, ms.map vu8)] [(1, [(.slice none 0 0)])] [(1, [(.slice a_23 n cap_24)])] [(1, [(vi 0)]), (1, [(.map none)]), (1, [(.slice none 0 0)])] rfl rfl rfl rfl (SsOk.cons (SOk.v rfl) SsOk.nil) rfl rfl rfl (FillR.cons [(1, [(.bool id)]), (32, ms.map vu8), (1, [(.slice a_23 n cap_24)]), (1, [(vi 0)])] [(1, [(.map none)])] [(1, [(.map (some b_20))])] [(1, [(.slice none 0 0)])] rfl rfl rfl rfl (SsOk.cons (SOk.v rfl) SsOk.nil) rfl rfl rfl FillR.nil)))) rfl) ?_
   refine WT.s (Op1.one rfl (Wn.no rfl) ?_)
   refine WL.box (v := (.agg ⟨flat [(1, [(.bool id)]), (32, ms.map vu8), (1, [(.slice a_23 n cap_24)]), (1, [(vi 0)]), (1, [(.map (some b_20))]), (1, [(.slice none 0 0)])]⟩)) (segs := [(1, [(.bool id)]), (32, ms.map vu8), (1, [(.slice a_23 n cap_24)]), (1, [(vi 0)]), (1, [(.map (some b_20))]), (1, [(.slice none 0 0)])]) h_28 rfl rfl (SsOk.cons (SOk.v rfl) (SsOk.cons (SOk.u8 hms) (SsOk.cons (SOk.v rfl) (SsOk.cons (SOk.v rfl) (SsOk.cons (SOk.v rfl) (SsOk.cons (SOk.v rfl) SsOk.nil)))))) rfl (fun b_30 w_31 h_32 => ?_)
   refine WL.nil ?_
   refine ⟨(SL.cons (h_32.ok _ M3) (SL.cons (h_32.ok _ M4) (SL.nil _ _))), ?_⟩
   refine qT rfl rfl (fun wq hS => R.assign (v := (pO b_30 0)) rfl) ?_
   refine WT.nil (thn_n ?_)
   have h_37 := ((((h_32.up J4).up J4).up J3).up J4).up J4
   exact ⟨(b_30, a_23, cap_24, b_20), (U4 rfl rfl rfl rfl (U4 rfl rfl rfl rfl (Ag.refl _ _))), ⟨rfl, rfl, rfl, rfl, rfl, rfl, rfl, rfl, trivial⟩, h_37⟩
 ·rintro ⟨b_41, a_42, cap_43, b_44⟩ J_38 w_39 h_40
  refine thn_n (WP.ret ?_)
  refine ret_of Try.results17 (RV.tmp (v := (pO b_41 0)) rfl RV.nil) ?_
  have h_45 := h_40.up J2
  have h_46 := h_45.rowView
  have h_47 := h_46.rowNil 111 67
  have h_48 := HP_logNil h_47
  have h_56 := (((((((h_48.up J5).drop rfl).up J5).up J3).up J2).up J5).up J4).up J5
  exact ⟨_, _, _, _, rfl, h_56⟩
theorem c_joined (a : Option Addr) (n cap : Nat) (xs : List Value) (ls : List (List UInt8)) (hln : ls.length = n) (hb : ls.flatten.length ≤ 1099511627776) (hnb : n ≤ 1099511627776) (w : World) (hv : View w a xs) (hs : Sls w xs ls) :
  Cs Try.prog 53 [(.slice a n cap)].toArray w (fun v w1 => ∃ a cap, v = .slice a ls.flatten.length cap ∧ Chg w w1 [] ∧ Own w.heap.size w1 5 1 a ls.flatten.length cap ((ls.flatten).map vu8)) := by
 refine Cs.of (n := 5) (args := [(.slice a n cap)]) Try.func53 rfl rfl rfl ?_
 have h_0 := HP.init w
 have h_01 := h_0.old (View.arg hv) (fun f hf => by cases hf)
 have h_00 := h_01.old hs.pin (fun f hf => by rw [List.mem_singleton] at hf; subst hf; intro hm; simp [Ent.mut] at hm)
 have hxl : xs.length = n := hs.len.trans hln
 refine WP.seq (WP.reg ?_)
 refine qA (.slice none 0 0) rfl rfl ?_
 refine WL.nil (thn_n (WP.seq (WP.reg ?_)))
 refine qM (.slice a n cap) rfl rfl ?_
 refine WL.call Try.call86 rfl rfl (c_Concat a n cap xs ls hln (by omega) (by omega) _ (viewV (h_00.ok _ M1)) (h_00.ok _ M0).1) rfl ?_
 rintro _ w_3 ⟨a_1, cap_2, rfl, hc_4, ho_5⟩
 have h_6 := h_00.gotRow hc_4 ho_5
 refine qA (.slice a_1 ls.flatten.length cap_2) rfl rfl ?_
 refine WL.nil (thn_n (WP.ret ?_))
 refine ret_of Try.results53 (RV.tmp (v := (.slice a_1 ls.flatten.length cap_2)) rfl RV.nil) ?_
 exact ⟨_, _, rfl, h_6.chgS, h_6.ok _ M0⟩

end Go.Proofs.Ytnhppjimimhlkaa

namespace Go.Orc
open Go.Vc Go.RowKit
def lk (q : Qn) (l : Lg) : Option (List UInt8) := (fdq q l 0).map fun i => (l.getD i (q, [])).2
section
variable {id : Bool} {df : List UInt8} {dn u : Nat} {l : Lg} {q q' : Qn} {d : List UInt8}
end
end Go.Orc
namespace Go.Vc
open Go.RowKit Go.ChangeShapes Go.WideShapes Go.ChangeAt
section
variable {P : Program} {w : World} {t : TypeId} {cs : List Value}
theorem cells?_all {a : Addr} {n : Nat} {ys : List Value} (h : w.cells? 0 a n = some ys) : ys.length = n ∧ ∀ (i : Nat) v, ys[i]? = some v → w.cell? (a.add i) = some v := by
  simp only [World.cells?, Nat.zero_le, if_true] at h
  have key : ∀ (f : Nat → Option Value) (L : List Nat) (l : List Value), L.mapM f = some l → l.length = L.length ∧ ∀ (i : Nat) v, l[i]? = some v → ∃ x, L[i]? = some x ∧ f x = some v := by
    intro f L
    induction L with
    | nil => intro l h; simp at h; subst h; exact ⟨rfl, fun i v h => by simp at h⟩
    | cons a L ih =>
      intro l h
      rw [List.mapM_cons] at h
      obtain ⟨y, hy, h⟩ := Option.bind_eq_some_iff.1 h
      obtain ⟨l', hl', h⟩ := Option.bind_eq_some_iff.1 h
      simp at h; subst h
      obtain ⟨h1, h2⟩ := ih l' hl'
      refine ⟨by simp [h1], fun i v hv => ?_⟩
      cases i with
      | zero => simp at hv; subst hv; exact ⟨a, rfl, hy⟩
      | succ i => exact h2 i v (by simpa using hv)
  obtain ⟨h1, h2⟩ := key _ _ _ h
  refine ⟨by simpa using h1, fun i v hv => ?_⟩
  obtain ⟨x, hx, hf⟩ := h2 i v hv
  have hi : i < n := by
    have := (List.getElem?_eq_some_iff.1 hx).1
    simpa using this
  rw [List.getElem?_range hi] at hx
  cases hx
  exact hf
theorem Tr.slA8 {e e8 : TypeId} {s : Nat} (hu : P.underlying t = some (.slice e)) (hce : P.cellsOf e = s) (he : P.underlying e = some (.array s e8)) (hce8 : P.cellsOf e8 = 1) (he8 : P.underlying e8 = some (.int .u8)) (h : Tr P w t cs) :
    ∃ a n cap, ∃ l : List UInt8, cs = [.slice a n cap] ∧ l.length = s * n ∧ n ≤ cap ∧ cap ≤ maxLen ∧ (Ent.view a (l.map vu8)).ok w.heap.size w := by
  rcases Tr.nilOrSlice hu h with rfl | ⟨a, len, cap, rfl, h1, h2, h3⟩
  · exact ⟨none, 0, 0, [], rfl, rfl, Nat.le_refl _, by simp [maxLen], ⟨View.nil _ _, fun ad h => by cases h⟩⟩
  · have key : ∀ k, k ≤ len → ∃ l : List UInt8, l.length = s * k ∧ View w (some a) (l.map vu8) := by
      intro k
      induction k with
      | zero => intro _; exact ⟨[], rfl, View.nil _ _⟩
      | succ k ih =>
        intro hk
        obtain ⟨l, hl, hv⟩ := ih (by omega)
        obtain ⟨ys, hys, ht⟩ := h3 k (by omega)
        rw [hce] at hys
        obtain ⟨hyl, hyc⟩ := cells?_all hys
        obtain ⟨m, rfl, hm⟩ := Tr.arr8 he hce hce8 he8 ht
        refine ⟨l ++ m, by rw [List.length_append, hl, hm, Nat.mul_succ], fun i v hv' => ?_⟩
        rw [List.map_append] at hv'
        by_cases hi : i < l.length
        · refine hv i v ?_
          rw [List.getElem?_append_left (by simpa using hi)] at hv'
          exact hv'
        · rw [List.getElem?_append_right (by simpa using hi)] at hv'
          have h4 := hyc _ v hv'
          rw [add_add, List.length_map, hl, Nat.mul_comm, show s * k + (i - s * k) = i by omega] at h4
          exact ⟨a, rfl, h4⟩
    obtain ⟨l, hl, hv⟩ := key len (Nat.le_refl _)
    refine ⟨some a, len, cap, l, rfl, hl, h1, h2, ⟨hv, fun ad ha hne => ?_⟩⟩
    cases ha
    cases l with
    | nil => simp at hne
    | cons x l =>
      obtain ⟨ad', e, hc⟩ := hv 0 (vu8 x) rfl
      cases e
      have := block_lt_of_cell hc
      rwa [Addr.add_block] at this
end
end Go.Vc

namespace Go.Orc
open Go.Vc Go.RowKit
theorem fdq_at {q : Qn} {z : Qn × List UInt8} : ∀ {l : Lg} {s i : Nat}, i < l.length → (∀ j, j < i → (l.getD j z).1 ≠ q) → (l.getD i z).1 = q → fdq q l s = some (s + i)
  | [], s, i, h, _, _ => by simp at h
  | p :: r, s, 0, _, _, h => by rw [fdq, if_pos (by simpa using h)]; rfl
  | p :: r, s, i + 1, hi, hn, h => by
    rw [fdq, if_neg (by simpa using hn 0 (by omega))]
    rw [fdq_at (l := r) (s := s + 1) (i := i) (by simpa using hi) (fun j hj => by simpa using hn (j + 1) (by omega)) (by simpa using h)]
    congr 1; omega
theorem fdq_no {q : Qn} {z : Qn × List UInt8} : ∀ {l : Lg} {s : Nat}, (∀ j, j < l.length → (l.getD j z).1 ≠ q) → fdq q l s = none
  | [], s, _ => rfl
  | p :: r, s, hn => by
    rw [fdq, if_neg (by simpa using hn 0 (by simp))]
    exact fdq_no (fun j hj => by simpa using hn (j + 1) (by simpa using hj))
theorem aC_take {q : Qn} {s : Value} {d : List UInt8} (h : q.2.1.length = 32) : (aC q s d).take 35 = flat [(1, [vi q.1]), (32, q.2.1.map vu8), (1, [vi q.2.2.1]), (1, [s])] := by
  have e : aC q s d = ([vi q.1] ++ (q.2.1.map vu8 ++ ([vi q.2.2.1] ++ [s]))) ++ d.map vu8 := by simp [aC, flat]
  rw [e, List.take_append_of_le_length (by simp [h]), List.take_of_length_le (by simp [h])]
  simp [flat]
theorem Lgs.qget {w : World} {xs : List Value} {l : Lg} (h : Lgs w xs l) {i : Nat} {z : Qn × List UInt8} (hi : i < l.length) : ∃ a n c, (xs.drop (i * 67)).take 35 = flat [(1, [vi (l.getD i z).1.1]), (32, (l.getD i z).1.2.1.map vu8), (1, [vi (l.getD i z).1.2.2.1]), (1, [.slice a n c])] ∧ okQ (l.getD i z).1 ∧ (l.getD i z).1.2.2.2.length = n ∧ n ≤ c ∧ View w a ((l.getD i z).1.2.2.2.map vu8) ∧ (∀ b ∈ sblk (.slice a n c), b ∈ sblks xs) := by
  obtain ⟨a, n, c, h1, h2, h3, h4, h5, h6⟩ := h.get hi
  have hq := h.ok (l[i]) (List.getElem_mem hi)
  have e : l.getD i z = l[i] := by simp [hi]
  rw [e]
  refine ⟨a, n, c, ?_, hq, h3, h4, h5, h6⟩
  have h7 := congrArg (fun x => x.take 35) h1
  change ((xs.drop (67 * i)).take 67).take 35 = (aC _ _ _).take 35 at h7
  rw [aC_take hq.1, List.take_take, show 67 * i = i * 67 by omega, show min 35 67 = 35 from rfl] at h7
  exact h7
theorem aC_set {q : Qn} {s s' : Value} {d : List UInt8} (h : q.2.1.length = 32) : (aC q s d).set 34 s' = aC q s' d := by
  have e : ∀ s, aC q s d = ([vi q.1] ++ (q.2.1.map vu8 ++ [vi q.2.2.1])) ++ (s :: d.map vu8) := fun s => by simp [aC, flat]
  rw [e, e, List.set_append, if_neg (by simp [h])]
  congr 1
  simp [h]
theorem Lgs.set {w : World} {xs : List Value} {l : Lg} (h : Lgs w xs l) : ∀ {i : Nat} {z : Qn × List UInt8} {a : Option Addr} {n c : Nat}, i < l.length → (l.getD i z).1.2.2.2.length = n → n ≤ c → View w a ((l.getD i z).1.2.2.2.map vu8) → Lgs w (xs.set (i * 67 + 34) (.slice a n c)) l := by
  induction h with
  | nil => intro i z a n c hi; simp at hi
  | @snoc a n c q d xs l r hq hd hl hc hv ih =>
    intro i z a' n' c' hi hn hc' hv'
    have hlen := r.len
    by_cases e : i < l.length
    · have e2 : (l ++ [(q, d)]).getD i z = l.getD i z := by simp [List.getD_eq_getElem?_getD, e, List.getElem?_append_left]
      rw [e2] at hn hv'
      rw [List.set_append, if_pos (by omega)]
      exact .snoc (ih e hn hc' hv') hq hd hl hc hv
    · have : i = l.length := by rw [List.length_append, List.length_singleton] at hi; omega
      subst this
      have e2 : (l ++ [(q, d)]).getD l.length z = (q, d) := by simp
      rw [e2] at hn hv'
      rw [List.set_append, if_neg (by omega), show l.length * 67 + 34 - xs.length = 34 by omega, aC_set hq.1]
      exact .snoc r hq hd hn hc' hv'
theorem sblks_set {v : Value} : ∀ {xs : List Value} {k : Nat} {b : Nat}, b ∈ sblks (xs.set k v) → b ∈ sblks xs ∨ b ∈ sblk v
  | [], k, b, h => by simp [sblks] at h
  | x :: xs, 0, b, h => by
    have h' : b ∈ sblk v ++ sblks xs := h
    rcases List.mem_append.1 h' with h | h
    · exact .inr h
    · exact .inl (show b ∈ sblk x ++ sblks xs from List.mem_append.2 (.inr h))
  | x :: xs, k + 1, b, h => by
    have h' : b ∈ sblk x ++ sblks (xs.set k v) := h
    rcases List.mem_append.1 h' with h | h
    · exact .inl (show b ∈ sblk x ++ sblks xs from List.mem_append.2 (.inl h))
    · rcases sblks_set h with h | h
      · exact .inl (show b ∈ sblk x ++ sblks xs from List.mem_append.2 (.inr h))
      · exact .inr h
theorem HP_logSet {w w0 : World} {L : List Ent} {xs : List Value} {l : Lg} {i : Nat} {z : Qn × List UInt8} {a : Option Addr} {n c : Nat} {E : TypeId} (h : HP w0 w (.row a n c E 1 ((l.getD i z).1.2.2.2.map vu8) :: .pin (sblks xs) (fun w => Lgs w xs l) :: L)) (hi : i < l.length) (hl : (l.getD i z).1.2.2.2.length = n) :
    HP w0 w (.pin (sblks (xs.set (i * 67 + 34) (.slice a n c))) (fun w => Lgs w (xs.set (i * 67 + 34) (.slice a n c)) l) :: .view a ((l.getD i z).1.2.2.2.map vu8) :: .pin (sblks xs) (fun w => Lgs w xs l) :: L) := by
  have hcap := (h.own (List.mem_cons_self ..)).2.2.1
  have h1 := h.rowView
  have hm1 : Ent.pin (sblks xs) (fun w => Lgs w xs l) ∈ (.view a ((l.getD i z).1.2.2.2.map vu8) :: .pin (sblks xs) (fun w => Lgs w xs l) :: L) := List.mem_cons_of_mem _ (List.mem_cons_self ..)
  have hm2 : Ent.view a ((l.getD i z).1.2.2.2.map vu8) ∈ (.view a ((l.getD i z).1.2.2.2.map vu8) :: .pin (sblks xs) (fun w => Lgs w xs l) :: L) := List.mem_cons_self ..
  have hs : Lgs w xs l := (h1.ok _ hm1).1
  have hv := viewV (h1.ok _ hm2)
  refine h1.within2 hm1 hm2 rfl rfl (Lgs.pin (hs.set (z := z) hi hl hcap hv)) rfl rfl fun b hb => ?_
  simp only [Ent.blocks] at hb
  rcases sblks_set hb with hb | hb
  · exact .inl hb
  · exact .inr (sblk_in_view hl b hb)
theorem same4 (p q : Qn) : decide (p = q) = (decide (p.1 = q.1) && (decide (p.2.1 = q.2.1) && (decide (p.2.2.1 = q.2.2.1) && decide (p.2.2.2 = q.2.2.2)))) := by
  obtain ⟨a, b, c, d⟩ := p
  obtain ⟨a', b', c', d'⟩ := q
  simp [Prod.ext_iff]
end Go.Orc
namespace Go.Orc
open Go.Vc Go.RowKit
theorem le_step {x : UInt64} {k : Nat} (h : k < 8) : leN k x.toNat ++ ([UInt8.ofNat (shr64 x ((8 : UInt64) * UInt64.ofNat k).toNat).toNat] : List UInt8) = leN (k + 1) x.toNat := by
  have e : ((8 : UInt64) * UInt64.ofNat k).toNat = 8 * k := by
    rw [UInt64.toNat_mul]; simp; omega
  have hx := x.toNat_lt
  have h1 : x.toNat / 2 ^ (8 * k) ≤ x.toNat := Nat.div_le_self _ _
  rw [leN_snoc, e, shr64, pow256]
  congr 3
  simp; omega
end Go.Orc
namespace Go.Orc
open Go.Vc Go.RowKit
theorem Lgs.one {w : World} {xs : List Value} {l : Lg} (h : Lgs w xs l) : ∀ v ∈ xs, v.oneCell' = true := by
  induction h with
  | nil => intro v hv; cases hv
  | snoc r hq hd hl hc hv ih =>
    intro v hv
    rcases List.mem_append.1 hv with hv | hv
    · exact ih v hv
    · exact (aC_ok hq.1 hd rfl).head.one v hv
theorem q34 {xs : List Value} {i : Nat} {x y s : Value} {key : List UInt8} (hk : key.length = 32) (h : (xs.drop (i * 67)).take 35 = flat [(1, [x]), (32, key.map vu8), (1, [y]), (1, [s])]) : xs[i * 67 + 34]? = some s := by
  have e : flat [(1, [x]), (32, key.map vu8), (1, [y]), (1, [s])] = ([x] ++ (key.map vu8 ++ [y])) ++ [s] := by simp [flat]
  have h2 := congrArg (fun l => l[34]?) h
  simp only [List.getElem?_take, List.getElem?_drop, e] at h2
  rw [if_pos (by omega)] at h2
  rw [h2, List.getElem?_append_right (by simp [hk])]
  simp [hk]
end Go.Orc
namespace Go.Orc
open Go.Vc Go.RowKit
theorem view_noneV {w : World} {a : Option Addr} {xs : List Value} (h : a.isNone = true) (hv : View w a xs) : xs = [] := by
  cases xs with
  | nil => rfl
  | cons x r =>
    obtain ⟨ad, e, _⟩ := hv 0 x rfl
    rw [e] at h; cases h
end Go.Orc

namespace Go.Proofs.Ytnhppjimimhlkaa
open Go.Vc Go.Orc Go.Sh Go.RowKit
set_option maxRecDepth 20000

theorem c_rLe (x : UInt64) (w : World) :
  Cs Try.prog 142 [(vu64 x)].toArray w (fun v w1 => ∃ a cap, v = .slice a 8 cap ∧ Chg w w1 [] ∧ Own w.heap.size w1 5 1 a 8 cap ((leN 8 x.toNat).map vu8)) := by
 refine Cs.of (n := 19) (args := [(vu64 x)]) Try.func142 rfl rfl rfl ?_
 have h_0 := HP.init w
 refine WP.seq (WP.reg ?_)
 refine qA (.slice none 0 0) rfl rfl ?_
 refine WL.nil (thn_n (WP.seq (WP.reg ?_)))
 refine qA (.slice none 0 0) rfl rfl ?_
 refine WL.nil (thn_n (WP.seq (WP.seq (WP.reg ?_))))
 refine qA (vi 0) rfl rfl ?_
 refine WL.nil (thn_n (WP.block ?_))
 have h_1 := h_0.rowNil 5 1
 refine WP.loopG (G := Nat × Option Addr × Nat) [3, 4, 5, 6, 7, 8, 9, 10, 11, 12, 13, 14, 15, 16, 17] (fun (k, ra, rc) => [(3, (.slice ra k rc)), (4, (vn k))]) (fun (k, ra, rc) m w1 => HP w w1 [.row ra k rc 5 1 ((leN k x.toNat).map vu8)] ∧ (k ≤ 8) ∧ m = 8 - k) ⟨(0, none, 0), _, ⟨rfl, rfl, trivial⟩, h_1, Nat.zero_le _, rfl⟩ ?_
 rintro ⟨k, ra, rc⟩ m_4 J_5 w_2 ⟨h_3, hk, rfl⟩
 refine WP.seq (WP.seq (WP.reg ?_))
 refine qM (vn k) rfl rfl (qV rfl (R.bin rfl rfl (bi_lss (r := decide ((((k : Nat) : Int) : Int) < 8)) rfl)) ?_)
 refine WL.nil (thn_n ?_)
 refine WP.cond (b := decide ((((k : Nat) : Int) : Int) < 8)) rfl (fun c_6 => ?_) (fun c_6 => ?_)
 ·have p_7 := of_decide_eq_true c_6
  refine WP.skip (thn_n (WP.seq (WP.block (WP.reg ?_))))
  refine qM (.slice ra k rc) rfl rfl (qM (vu64 x) rfl rfl (qM (vn k) rfl rfl (qV rfl (R.conv (b := ((UInt64.ofNat k) : UInt64).toNat) rfl Try.underlying3 Try.underlying168 (w64_nat k)) (qV rfl (R.bin rfl rfl (b64_mul 8 (UInt64.ofNat k))) (qV rfl (R.binR (v := vu64 (shr64 x (((8 : UInt64) * (UInt64.ofNat k)).toNat))) rfl rfl (run_shr64 _ _ _ x _ (((8 : UInt64) * (UInt64.ofNat k)).toNat))) (qV rfl (R.conv (b := ((UInt8.ofNat ((shr64 x (((8 : UInt64) * (UInt64.ofNat k)).toNat)).toNat)) : UInt8).toNat) rfl Try.underlying28 Try.underlying5 (w8_nat ((shr64 x (((8 : UInt64) * (UInt64.ofNat k)).toNat)).toNat))) ?_))))))
  refine WL.buildSl (vs := [(0, (vu8 (UInt8.ofNat ((shr64 x (((8 : UInt64) * (UInt64.ofNat k)).toNat)).toNat))))]) (cs := ([UInt8.ofNat ((shr64 x (((8 : UInt64) * (UInt64.ofNat k)).toNat)).toNat)] : List UInt8).map vu8) h_3 Try.underlying37 Try.sizeOf5 (zv Try.typeInfo5 rfl) rfl rfl (by kernel_rfl) rfl (one_u8 _) rfl rfl (fun b_8 w_9 h_10 => ?_)
  refine WL.append (km := k + 1) (xs := (leN k x.toNat).map vu8) (ys := ([UInt8.ofNat ((shr64 x (((8 : UInt64) * (UInt64.ofNat k)).toNat)).toNat)] : List UInt8).map vu8) (zs := ((leN k x.toNat) ++ ([UInt8.ofNat ((shr64 x (((8 : UInt64) * (UInt64.ofNat k)).toNat)).toNat)] : List UInt8)).map vu8) h_10 rfl rfl el37 (viewB (h_10.ok _ M0) Sg.h) ((len_map (rfl : List.length ([UInt8.ofNat ((shr64 x (((8 : UInt64) * (UInt64.ofNat k)).toNat)).toNat)] : List UInt8) = 1)).trans (Nat.mul_one _).symm) (one_u8 _) (by simp only [List.map_append, List.map_nil]) (by omega) (by omega) (by omega) (fun _ _ => Y1) rfl (fun a_11 c_12 w_13 h_14 => ?_)
  refine qA (.slice a_11 (k + 1) c_12) rfl rfl ?_
  refine WL.nil (inb_n (thn_n (WP.reg ?_)))
  refine qM (vn k) rfl rfl (qV rfl (R.bin rfl rfl (bi_add (c := ((k + 1 : Nat) : Int)) (by omega) (by omega))) (qA (vn (k + 1)) rfl rfl ?_))
  refine WL.nil (thn_n ?_)
  have h_15 := h_14.drop rfl
  rw [le_step (by omega)] at h_15
  exact ⟨(k + 1, a_11, c_12), _, (by omega), (Ag.upd rfl (U2 rfl rfl (U4 rfl rfl rfl rfl (U4 rfl rfl rfl rfl (U4 rfl rfl rfl rfl (Ag.updL rfl (Ag.mix _ _ _))))))), ⟨rfl, rfl, trivial⟩, h_15, (by omega), rfl⟩
 ·have p_16 := of_decide_eq_false c_6
  refine WP.exit (thn_x (thn_x (inb_hit (thn_n (WP.seq (WP.reg ?_))))))
  refine qM (.slice ra k rc) rfl rfl (qA (.slice ra k rc) rfl rfl ?_)
  refine WL.nil (thn_n (WP.ret ?_))
  refine ret_of Try.results142 (RV.tmp (v := (.slice ra k rc)) rfl RV.nil) ?_
  have hk8 : k = 8 := by omega
  subst hk8
  exact ⟨_, _, rfl, h_3.chgS, h_3.own M0⟩

theorem c_rDraw (id : Bool) (ob : Nat) (ms df : List UInt8) (hms : ms.length = 32) (da : Option Addr) (dn dc u u2 : Nat) (hdf : df.length = 32 * dn) (la : Option Addr) (ln lc : Nat) (hu : u ≤ 1000000) (w : World) (hv : View w da (df.map vu8)) (hcb : (Ent.blk ob .ro 64 [(1, [(.bool id)]), (32, ms.map vu8), (1, [(.slice da dn dc)]), (1, [(vi ((u2 : Nat) : Int))]), (1, [(.slice la ln lc)])]).ok w.heap.size w) :
  Cs Try.prog 129 [(.pointer (some ⟨ob, 0, none⟩)), (vi ((u : Nat) : Int))].toArray w (fun v w1 => v = (.agg ⟨(drawF df dn u).map vu8⟩) ∧ Chg w w1 []) := by
 refine Cs.of (n := 27) (args := [(pO ob 0), (vn u)]) Try.func129 rfl rfl rfl ?_
 have h_0 := HP.init w
 have h_01 := h_0.oldV (View.arg hv) rfl (by simp [Ent.mut])
 have h_00 := h_01.oldV hcb rfl (by simp [Ent.mut])
 refine WP.seq (WP.reg ?_)
 refine WL.alloc (segs := [(32, (List.replicate 32 (0 : UInt8)).map vu8)]) h_00 (zv Try.typeInfo23 rfl) rfl (SsOk.cons (SOk.u8 lr) SsOk.nil) rfl (fun b_1 w_2 h_3 => ?_)
 refine WL.nil (thn_n (WP.seq (WP.seq (WP.reg ?_))))
 refine qM (vn u) rfl rfl (qM (pO ob 0) rfl rfl (qV rfl (R.nilCheck rfl) (qV rfl (R.fieldAddr (b := ob) (off := 0) (off' := 33) rfl Try.underlying64 rfl Try.sizeOf24 rfl rfl) (qV rfl (R.load1 (b := ob) (off := 33) (v := (.slice da dn dc)) rfl Try.isAgg24 (h_3.ok _ M1) (Sg.t rfl (Sg.t rfl Sg.h))) (qV rfl (R.lenS (a := da) (m := dn) rfl rfl Try.underlying24) (qV rfl (R.bin rfl rfl (bi_lss (r := decide ((((u : Nat) : Int) : Int) < ((dn : Nat) : Int))) rfl)) ?_))))))
 refine WL.nil (thn_n ?_)
 refine WP.cond (b := decide ((((u : Nat) : Int) : Int) < ((dn : Nat) : Int))) rfl (fun c_4 => ?_) (fun c_4 => ?_)
 ·have p_5 := of_decide_eq_true c_4
  refine WP.seq (WP.reg ?_)
  refine qM (pO ob 0) rfl rfl (qV rfl (R.nilCheck rfl) (qV rfl (R.fieldAddr (b := ob) (off := 0) (off' := 33) rfl Try.underlying64 rfl Try.sizeOf24 rfl rfl) (qV rfl (R.load1 (b := ob) (off := 33) (v := (.slice da dn dc)) rfl Try.isAgg24 (h_3.ok _ M1) (Sg.t rfl (Sg.t rfl Sg.h))) (qM (vn u) rfl rfl (qV rfl (R.indexS (a := da) (i := u) (off := u * 32) (xs := df.map vu8) rfl rfl rfl (by omega) (viewV (h_3.ok _ M2)) (lt_len (K := 32 * dn) (len_map hdf) (by omega)) Try.underlying24 Try.sizeOf23 rfl) (qV rfl (R.loadGA (a := da) (i := u * 32) (xs := df.map vu8) (cs := (((df).drop (u * 32)).take 32).map vu8) rfl (viewV (h_3.ok _ M2)) Try.isAgg23 Try.sizeOf23 (by rw [List.map_take, List.map_drop]) (len_map (subLen (K := 32 * dn) hdf (by omega) : List.length (((df).drop (u * 32)).take 32) = 32)) (by decide)) ?_))))))
  refine WL.storeA (b := b_1) (off := 0) [] [(32, (List.replicate 32 (0 : UInt8)).map vu8)] [(32, (((df).drop (u * 32)).take 32).map vu8)] [] (ys := (((df).drop (u * 32)).take 32).map vu8) h_3 rfl rfl Try.sizeOf23 At.h (by decide) rfl rfl rfl rfl rfl rfl (SsOk.cons (SOk.u8 (subLen (K := 32 * dn) hdf (by omega) : List.length (((df).drop (u * 32)).take 32) = 32)) SsOk.nil) (fun w_6 h_7 => ?_)
  refine WL.nil (thn_n (WP.ret (thn_r ?_)))
  refine ret_of Try.results129 (RV.cell rfl (h_7.loadA (cs := (((df).drop (u * 32)).take 32).map vu8) Try.isAgg23 Try.sizeOf23 M0 rfl rfl) RV.nil) ?_
  exact ⟨by rw [drawF, if_pos (by omega)]; rfl, h_7.chgS⟩
 ·have p_8 := of_decide_eq_false c_4
  refine WP.skip (thn_n (WP.seq (WP.reg ?_)))
  refine WL.alloc (segs := [(32, (List.replicate 32 (0 : UInt8)).map vu8)]) h_3 (zv Try.typeInfo23 rfl) rfl (SsOk.cons (SOk.u8 lr) SsOk.nil) rfl (fun b_9 w_10 h_11 => ?_)
  refine WL.nil (thn_n (WP.seq ?_))
  refine WP.drawT (SL w.heap.size [.blk b_1 .nw 23 [(32, (List.replicate 32 (0 : UInt8)).map vu8)], .blk ob .ro 64 [(1, [(.bool id)]), (32, ms.map vu8), (1, [(.slice da dn dc)]), (1, [(vn u2)]), (1, [(.slice la ln lc)])], .view da (df.map vu8)]) (.q 0 (.q 1 (.q 2 (.s 3 (.s 4 .nil))))) (by kernel_rfl) (by kernel_rfl) rfl (by kernel_rfl) (fun w_12 hc_14 => (SL.cons ((h_11.same hc_14).ok _ M1) (SL.cons ((h_11.same hc_14).ok _ M2) (SL.cons ((h_11.same hc_14).ok _ M3) (SL.nil _ _))))) (fun w_12 hc_14 => ?_)
  have h_13 := h_11.same hc_14
  refine qT rfl rfl (fun wq hS => R.sliceA (b := b_9) (off := 0) (off' := 0) (l := 0) (h := 32) rfl EvB.dflt EvB.dflt (by decide) (by decide) Try.underlying23 Try.sizeOf5 rfl) ?_
  refine qT rfl rfl (fun wq hS => R.move (v := (vn u)) rfl) ?_
  refine qT rfl rfl (fun wq hS => R.conv (b := ((UInt64.ofNat u) : UInt64).toNat) rfl Try.underlying3 Try.underlying28 (w64_nat u)) ?_
  refine WT.s (Op1.one rfl (Wn.no rfl) ?_)
  refine WL.call Try.call142 rfl rfl (c_rLe (UInt64.ofNat u) _) rfl ?_
  rintro _ w_17 ⟨a_15, cap_16, rfl, hc_18, ho_19⟩
  have h_20 := h_13.gotRow hc_18 ho_19
  refine WL.nil ?_
  refine ⟨(SL.cons (h_20.ok _ M2) (SL.cons (h_20.ok _ M3) (SL.cons (h_20.ok _ M4) (SL.nil _ _)))), ?_⟩
  refine WT.s (Op1.one rfl (Wn.no rfl) ?_)
  refine WL.copy (q := 8) (i := 0) (ys := (leN 8 (UInt64.ofNat u).toNat).map vu8) (cs' := ((leN 8 (UInt64.ofNat u).toNat) ++ (List.replicate 32 (0 : UInt8)).drop 8).map vu8) h_20 rfl rfl Try.underlying37 Try.sizeOf5 (ownView (h_20.ok _ M0)) (len_map (leN_len ..)) (one_u8 _) Y1 (by decide) Sg.h rfl (by decide) (by rw [len_map lr]; decide) (cpPre (leN_len ..)) rfl (fun w_21 h_22 => ?_)
  refine WL.nil ?_
  refine ⟨(SL.cons (h_22.ok _ M2) (SL.cons (h_22.ok _ M3) (SL.cons (h_22.ok _ M4) (SL.nil _ _)))), ?_⟩
  refine WT.nil (thn_n (WP.seq (WP.reg ?_)))
  refine qV rfl (R.indexA (b := b_9) (off := 0) (off' := 31) (i := 31) rfl rfl rfl (by decide) Try.underlying23 Try.sizeOf5 rfl) ?_
  refine WL.storeE (b := b_9) (off := 31) (i := 31) (v := (vu8 1)) (cs' := (((leN 8 (UInt64.ofNat u).toNat) ++ (List.replicate 32 (0 : UInt8)).drop 8).set 31 1).map vu8) h_22 rfl rfl Try.sizeOf5 rfl Y1 (by decide) Sg.h rfl (lt_len (K := 32) (len_map (cpLen (leN_len ..) lr (by decide))) (by decide)) (set_u8 _ _ _) (fun w_23 h_24 => ?_)
  refine WL.nil (thn_n (WP.seq (WP.reg ?_)))
  refine qV rfl (R.loadA (b := b_9) (off := 0) [] [(32, (((leN 8 (UInt64.ofNat u).toNat) ++ (List.replicate 32 (0 : UInt8)).drop 8).set 31 1).map vu8)] [] (cs := (((leN 8 (UInt64.ofNat u).toNat) ++ (List.replicate 32 (0 : UInt8)).drop 8).set 31 1).map vu8) rfl Try.isAgg23 Try.sizeOf23 (h_24.ok _ M1) rfl rfl rfl rfl) ?_
  refine WL.storeA (b := b_1) (off := 0) [] [(32, (List.replicate 32 (0 : UInt8)).map vu8)] [(32, (((leN 8 (UInt64.ofNat u).toNat) ++ (List.replicate 32 (0 : UInt8)).drop 8).set 31 1).map vu8)] [] (ys := (((leN 8 (UInt64.ofNat u).toNat) ++ (List.replicate 32 (0 : UInt8)).drop 8).set 31 1).map vu8) h_24 rfl rfl Try.sizeOf23 Y2 (by decide) rfl rfl rfl rfl rfl rfl (SsOk.cons (SOk.u8 (len_set (cpLen (leN_len ..) lr (by decide)) _ _)) SsOk.nil) (fun w_25 h_26 => ?_)
  refine WL.nil (thn_n (WP.ret ?_))
  refine ret_of Try.results129 (RV.cell rfl (h_26.loadA (cs := (((leN 8 (UInt64.ofNat u).toNat) ++ (List.replicate 32 (0 : UInt8)).drop 8).set 31 1).map vu8) Try.isAgg23 Try.sizeOf23 M2 rfl rfl) RV.nil) ?_
  exact ⟨by rw [drawF, if_neg (by omega), ← draw_tail (by omega)]; rfl, h_26.chgS⟩

theorem c_rText (kd dm : Int) (key data : List UInt8) (qa : Option Addr) (qn qc : Nat) (hq : okQ (kd, key, dm, data)) (hdl : data.length = qn) (w : World) (hv : View w qa (data.map vu8)) :
  Cs Try.prog 116 [(.agg ⟨flat [(1, [(vi kd)]), (32, key.map vu8), (1, [(vi dm)]), (1, [(.slice qa qn qc)])]⟩)].toArray w (fun v w1 => ∃ a cap, v = .slice a (34 + qn) cap ∧ Chg w w1 [] ∧ Own w.heap.size w1 5 1 a (34 + qn) cap ((cT (kd, key, dm, data)).map vu8)) := by
 have hk1 : 1 ≤ kd ∧ kd ≤ 4 := hq.2.1
 have hd1 : 1 ≤ dm ∧ dm ≤ 16 := hq.2.2.1
 have hqn : data.length ≤ 1000000000 := hq.2.2.2
 refine Cs.of (n := 22) (args := [(.agg ⟨flat [(1, [(vi kd)]), (32, key.map vu8), (1, [(vi dm)]), (1, [(.slice qa qn qc)])]⟩)]) Try.func116 rfl rfl rfl ?_
 have h_0 := HP.init w
 have h_00 := h_0.old (View.arg hv) (fun f hf => by cases hf)
 refine WP.seq (WP.reg ?_)
 refine WL.box (v := (.agg ⟨flat [(1, [(vi kd)]), (32, key.map vu8), (1, [(vi dm)]), (1, [(.slice qa qn qc)])]⟩)) (segs := [(1, [(vi kd)]), (32, key.map vu8), (1, [(vi dm)]), (1, [(.slice qa qn qc)])]) h_00 rfl rfl (SsOk.cons (SOk.v rfl) (SsOk.cons (SOk.u8 hq.1) (SsOk.cons (SOk.v rfl) (SsOk.cons (SOk.v rfl) SsOk.nil)))) rfl (fun b_1 w_2 h_3 => ?_)
 refine qA (.slice none 0 0) rfl rfl ?_
 refine WL.nil (thn_n (WP.seq (WP.reg ?_)))
 refine qV rfl (R.fieldAddr (b := b_1) (off := 0) (off' := 0) rfl Try.underlying103 rfl Try.sizeOf101 rfl rfl) (qV rfl (R.load1 (b := b_1) (off := 0) (v := (vi kd)) rfl Try.isAgg101 (h_3.ok _ M0) Sg.h) (qV rfl (R.conv (b := ((i2u8 kd) : UInt8).toNat) rfl Try.underlying101 Try.underlying5 (i2u8_w (by omega))) ?_))
 refine WL.buildSl (vs := [(0, (vu8 (i2u8 kd)))]) (cs := ([i2u8 kd] : List UInt8).map vu8) h_3 Try.underlying37 Try.sizeOf5 (zv Try.typeInfo5 rfl) rfl rfl (by kernel_rfl) rfl (one_u8 _) rfl rfl (fun b_4 w_5 h_6 => ?_)
 refine qA (.slice (some ⟨b_4, 0, none⟩) 1 1) rfl rfl ?_
 refine WL.nil (thn_n (WP.seq (WP.reg ?_)))
 refine qM (.slice (some ⟨b_4, 0, none⟩) 1 1) rfl rfl (qV rfl (R.fieldAddr (b := b_1) (off := 0) (off' := 1) rfl Try.underlying103 rfl Try.sizeOf23 rfl rfl) (qV rfl (R.sliceA (b := b_1) (off := 1) (off' := 1) (l := 0) (h := 32) rfl EvB.dflt EvB.dflt (by decide) (by decide) Try.underlying23 Try.sizeOf5 rfl) ?_))
 have h_7 := HP.blkRow (m := 1) (s := 1) h_6 At.h rfl (by simp only [maxLen]; decide)
 refine WL.append (km := 33) (xs := ([i2u8 kd] : List UInt8).map vu8) (ys := key.map vu8) (zs := (([i2u8 kd] : List UInt8) ++ key).map vu8) h_7 rfl rfl el37 (viewB (h_7.ok _ M1) (Sg.t rfl Sg.h)) ((len_map hq.1).trans (Nat.mul_one _).symm) (one_u8 _) (by simp only [List.map_append, List.map_nil]) rfl (by omega) (by omega) (fun _ _ => At.h) rfl (fun a_8 c_9 w_10 h_11 => ?_)
 refine qA (.slice a_8 33 c_9) rfl rfl ?_
 refine WL.nil (thn_n (WP.seq (WP.reg ?_)))
 refine qM (.slice a_8 33 c_9) rfl rfl (qV rfl (R.fieldAddr (b := b_1) (off := 0) (off' := 33) rfl Try.underlying103 rfl Try.sizeOf56 rfl rfl) (qV rfl (R.load1 (b := b_1) (off := 33) (v := (vi dm)) rfl Try.isAgg56 (h_11.ok _ M1) (Sg.t rfl (Sg.t rfl Sg.h))) (qV rfl (R.conv (b := ((i2u8 dm) : UInt8).toNat) rfl Try.underlying56 Try.underlying5 (i2u8_w (by omega))) ?_)))
 refine WL.buildSl (vs := [(0, (vu8 (i2u8 dm)))]) (cs := ([i2u8 dm] : List UInt8).map vu8) h_11 Try.underlying37 Try.sizeOf5 (zv Try.typeInfo5 rfl) rfl rfl (by kernel_rfl) rfl (one_u8 _) rfl rfl (fun b_12 w_13 h_14 => ?_)
 refine WL.append (km := 34) (xs := (([i2u8 kd] : List UInt8) ++ key).map vu8) (ys := ([i2u8 dm] : List UInt8).map vu8) (zs := ((([i2u8 kd] : List UInt8) ++ key) ++ ([i2u8 dm] : List UInt8)).map vu8) h_14 rfl rfl el37 (viewB (h_14.ok _ M0) Sg.h) ((len_map (rfl : List.length ([i2u8 dm] : List UInt8) = 1)).trans (Nat.mul_one _).symm) (one_u8 _) (by simp only [List.map_append, List.map_nil]) rfl (by omega) (by omega) (fun _ _ => Y1) rfl (fun a_15 c_16 w_17 h_18 => ?_)
 refine qA (.slice a_15 34 c_16) rfl rfl ?_
 refine WL.nil (thn_n (WP.seq (WP.reg ?_)))
 refine qM (.slice a_15 34 c_16) rfl rfl (qV rfl (R.fieldAddr (b := b_1) (off := 0) (off' := 34) rfl Try.underlying103 rfl Try.sizeOf37 rfl rfl) (qV rfl (R.load1 (b := b_1) (off := 34) (v := (.slice qa qn qc)) rfl Try.isAgg37 (h_18.ok _ M2) (Sg.t rfl (Sg.t rfl (Sg.t rfl Sg.h)))) ?_))
 refine WL.append (km := 34 + qn) (xs := ((([i2u8 kd] : List UInt8) ++ key) ++ ([i2u8 dm] : List UInt8)).map vu8) (ys := data.map vu8) (zs := (((([i2u8 kd] : List UInt8) ++ key) ++ ([i2u8 dm] : List UInt8)) ++ data).map vu8) h_18 rfl rfl el37 (viewV (h_18.ok _ M3)) ((len_map hdl).trans (Nat.mul_one _).symm) (one_u8 _) (by simp only [List.map_append, List.map_nil]) (by omega) (by omega) (by omega) (fun _ _ => Y1) rfl (fun a_19 c_20 w_21 h_22 => ?_)
 refine qA (.slice a_19 (34 + qn) c_20) rfl rfl ?_
 refine WL.nil (thn_n (WP.ret ?_))
 refine ret_of Try.results116 (RV.tmp (v := (.slice a_19 (34 + qn) c_20)) rfl RV.nil) ?_
 exact ⟨_, _, by first | rfl | exact congrArg (fun n => Value.slice _ n _) (by omega), h_22.chgS, by first | exact h_22.ok _ M1 | (have hx := h_22.own M1; rwa [show 34 + qn = 34 + qn by omega] at hx)⟩

theorem c_rSame (p q : Qn) (hp : p.2.1.length = 32) (hq : q.2.1.length = 32) (a : Option Addr) (n cap : Nat) (hl : p.2.2.2.length = n) (a2 : Option Addr) (n2 cap2 : Nat) (hl2 : q.2.2.2.length = n2) (w : World) (hv : View w a (p.2.2.2.map vu8)) (hv2 : View w a2 (q.2.2.2.map vu8)) :
  Cs Try.prog 56 [(.agg ⟨flat [(1, [(vi p.1)]), (32, p.2.1.map vu8), (1, [(vi p.2.2.1)]), (1, [(.slice a n cap)])]⟩), (.agg ⟨flat [(1, [(vi q.1)]), (32, q.2.1.map vu8), (1, [(vi q.2.2.1)]), (1, [(.slice a2 n2 cap2)])]⟩)].toArray w (fun v w1 => v = .bool (decide (p = q)) ∧ Chg w w1 []) := by
 refine Cs.of (n := 33) (args := [(.agg ⟨flat [(1, [(vi p.1)]), (32, p.2.1.map vu8), (1, [(vi p.2.2.1)]), (1, [(.slice a n cap)])]⟩), (.agg ⟨flat [(1, [(vi q.1)]), (32, q.2.1.map vu8), (1, [(vi q.2.2.1)]), (1, [(.slice a2 n2 cap2)])]⟩)]) Try.func56 rfl rfl rfl ?_
 have h_0 := HP.init w
 have h_01 := h_0.old (View.arg hv) (fun f hf => by cases hf)
 have h_00 := h_01.old (View.arg hv2) (fun f hf => by rw [List.mem_singleton] at hf; subst hf; intro hm; simp [Ent.mut] at hm)
 refine WP.seq (WP.reg ?_)
 refine WL.box (v := (.agg ⟨flat [(1, [(vi p.1)]), (32, p.2.1.map vu8), (1, [(vi p.2.2.1)]), (1, [(.slice a n cap)])]⟩)) (segs := [(1, [(vi p.1)]), (32, p.2.1.map vu8), (1, [(vi p.2.2.1)]), (1, [(.slice a n cap)])]) h_00 rfl rfl (SsOk.cons (SOk.v rfl) (SsOk.cons (SOk.u8 hp) (SsOk.cons (SOk.v rfl) (SsOk.cons (SOk.v rfl) SsOk.nil)))) rfl (fun b_1 w_2 h_3 => ?_)
 refine WL.box (v := (.agg ⟨flat [(1, [(vi q.1)]), (32, q.2.1.map vu8), (1, [(vi q.2.2.1)]), (1, [(.slice a2 n2 cap2)])]⟩)) (segs := [(1, [(vi q.1)]), (32, q.2.1.map vu8), (1, [(vi q.2.2.1)]), (1, [(.slice a2 n2 cap2)])]) h_3 rfl rfl (SsOk.cons (SOk.v rfl) (SsOk.cons (SOk.u8 hq) (SsOk.cons (SOk.v rfl) (SsOk.cons (SOk.v rfl) SsOk.nil)))) rfl (fun b_4 w_5 h_6 => ?_)
 refine qA (.bool false) rfl rfl ?_
 refine WL.nil (thn_n (WP.seq (WP.reg ?_)))
 refine qV rfl (R.fieldAddr (b := b_1) (off := 0) (off' := 0) rfl Try.underlying103 rfl Try.sizeOf101 rfl rfl) (qV rfl (R.load1 (b := b_1) (off := 0) (v := (vi p.1)) rfl Try.isAgg101 (h_6.ok _ M1) Sg.h) (qV rfl (R.fieldAddr (b := b_4) (off := 0) (off' := 0) rfl Try.underlying103 rfl Try.sizeOf101 rfl rfl) (qV rfl (R.load1 (b := b_4) (off := 0) (v := (vi q.1)) rfl Try.isAgg101 (h_6.ok _ M0) Sg.h) (qV rfl (R.bin rfl rfl (bi_eql (r := decide ((p.1 : Int) = q.1)) rfl)) (qM (.bool (decide ((p.1 : Int) = q.1))) rfl rfl ?_)))))
 rcases Bool.eq_false_or_eq_true (decide ((p.1 : Int) = q.1)) with c_7 | c_7
 ·have p_8 := of_decide_eq_true c_7
  refine WL.want rfl (congrArg Value.bool c_7) ?_
  refine qV rfl (R.fieldAddr (b := b_1) (off := 0) (off' := 1) rfl Try.underlying103 rfl Try.sizeOf23 rfl rfl) ?_
  refine WL.want rfl (congrArg Value.bool c_7) ?_
  refine qV rfl (R.loadA (b := b_1) (off := 1) [(1, [(vi p.1)])] [(32, p.2.1.map vu8)] [(1, [(vi p.2.2.1)]), (1, [(.slice a n cap)])] (cs := p.2.1.map vu8) rfl Try.isAgg23 Try.sizeOf23 (h_6.ok _ M1) rfl rfl rfl rfl) ?_
  refine WL.want rfl (congrArg Value.bool c_7) ?_
  refine qV rfl (R.fieldAddr (b := b_4) (off := 0) (off' := 1) rfl Try.underlying103 rfl Try.sizeOf23 rfl rfl) ?_
  refine WL.want rfl (congrArg Value.bool c_7) ?_
  refine qV rfl (R.loadA (b := b_4) (off := 1) [(1, [(vi q.1)])] [(32, q.2.1.map vu8)] [(1, [(vi q.2.2.1)]), (1, [(.slice a2 n2 cap2)])] (cs := q.2.1.map vu8) rfl Try.isAgg23 Try.sizeOf23 (h_6.ok _ M0) rfl rfl rfl rfl) ?_
  refine WL.want rfl (congrArg Value.bool c_7) ?_
  refine qV rfl (R.eqA (xs := p.2.1.map vu8) (ys := q.2.1.map vu8) (r := decide (p.2.1 = q.2.1)) rfl rfl Try.eqGuardType23 kt23 (by decide) ag23 (Typ.u8s Try.underlying23 ce23 Try.underlying5 ce5 hp) (Typ.u8s Try.underlying23 ce23 Try.underlying5 ce5 hq) (map_inj_u8.trans (decT _))) (qV rfl (R.pickT (v := (.bool (decide (p.2.1 = q.2.1)))) (congrArg Value.bool c_7) rfl) (qM (.bool (decide (p.2.1 = q.2.1))) rfl rfl ?_))
  rcases Bool.eq_false_or_eq_true (decide (p.2.1 = q.2.1)) with c_9 | c_9
  ·have p_10 := of_decide_eq_true c_9
   refine WL.want rfl (congrArg Value.bool c_9) ?_
   refine qV rfl (R.fieldAddr (b := b_1) (off := 0) (off' := 33) rfl Try.underlying103 rfl Try.sizeOf56 rfl rfl) ?_
   refine WL.want rfl (congrArg Value.bool c_9) ?_
   refine qV rfl (R.load1 (b := b_1) (off := 33) (v := (vi p.2.2.1)) rfl Try.isAgg56 (h_6.ok _ M1) (Sg.t rfl (Sg.t rfl Sg.h))) ?_
   refine WL.want rfl (congrArg Value.bool c_9) ?_
   refine qV rfl (R.fieldAddr (b := b_4) (off := 0) (off' := 33) rfl Try.underlying103 rfl Try.sizeOf56 rfl rfl) ?_
   refine WL.want rfl (congrArg Value.bool c_9) ?_
   refine qV rfl (R.load1 (b := b_4) (off := 33) (v := (vi q.2.2.1)) rfl Try.isAgg56 (h_6.ok _ M0) (Sg.t rfl (Sg.t rfl Sg.h))) ?_
   refine WL.want rfl (congrArg Value.bool c_9) ?_
   refine qV rfl (R.bin rfl rfl (bi_eql (r := decide ((p.2.2.1 : Int) = q.2.2.1)) rfl)) (qV rfl (R.pickT (v := (.bool (decide ((p.2.2.1 : Int) = q.2.2.1)))) (congrArg Value.bool c_9) rfl) (qM (.bool (decide ((p.2.2.1 : Int) = q.2.2.1))) rfl rfl ?_))
   rcases Bool.eq_false_or_eq_true (decide ((p.2.2.1 : Int) = q.2.2.1)) with c_11 | c_11
   ·have p_12 := of_decide_eq_true c_11
    refine WL.want rfl (congrArg Value.bool c_11) ?_
    refine qV rfl (R.fieldAddr (b := b_1) (off := 0) (off' := 34) rfl Try.underlying103 rfl Try.sizeOf37 rfl rfl) ?_
    refine WL.want rfl (congrArg Value.bool c_11) ?_
    refine qV rfl (R.load1 (b := b_1) (off := 34) (v := (.slice a n cap)) rfl Try.isAgg37 (h_6.ok _ M1) (Sg.t rfl (Sg.t rfl (Sg.t rfl Sg.h)))) ?_
    refine WL.want rfl (congrArg Value.bool c_11) ?_
    refine qV rfl (R.toStr (bs := p.2.2.2) rfl Try.underlying37 Try.underlying5 Try.underlying9 (viewV (h_6.ok _ M3)) hl) ?_
    refine WL.want rfl (congrArg Value.bool c_11) ?_
    refine qV rfl (R.fieldAddr (b := b_4) (off := 0) (off' := 34) rfl Try.underlying103 rfl Try.sizeOf37 rfl rfl) ?_
    refine WL.want rfl (congrArg Value.bool c_11) ?_
    refine qV rfl (R.load1 (b := b_4) (off := 34) (v := (.slice a2 n2 cap2)) rfl Try.isAgg37 (h_6.ok _ M0) (Sg.t rfl (Sg.t rfl (Sg.t rfl Sg.h)))) ?_
    refine WL.want rfl (congrArg Value.bool c_11) ?_
    refine qV rfl (R.toStr (bs := q.2.2.2) rfl Try.underlying37 Try.underlying5 Try.underlying9 (viewV (h_6.ok _ M2)) hl2) ?_
    refine WL.want rfl (congrArg Value.bool c_11) ?_
    refine qV rfl (R.eqStr (a := p.2.2.2) (b := q.2.2.2) (r := decide (p.2.2.2 = q.2.2.2)) rfl rfl rfl) (qV rfl (R.pickT (v := (.bool (decide (p.2.2.2 = q.2.2.2)))) (congrArg Value.bool c_11) rfl) (qA (.bool (decide (p.2.2.2 = q.2.2.2))) rfl rfl ?_))
    refine WL.nil (thn_n (WP.ret ?_))
    refine ret_of Try.results56 (RV.tmp (v := (.bool (decide (p.2.2.2 = q.2.2.2)))) rfl RV.nil) ?_
    exact ⟨congrArg Value.bool (by rw [same4]; simp [c_7, c_9, c_11]), h_6.chgS⟩
   ·have p_13 := of_decide_eq_false c_11
    refine WL.skip rfl (congrArg Value.bool c_11) rfl ?_
    refine WL.skip rfl (congrArg Value.bool c_11) rfl ?_
    refine WL.skip rfl (congrArg Value.bool c_11) rfl ?_
    refine WL.skip rfl (congrArg Value.bool c_11) rfl ?_
    refine WL.skip rfl (congrArg Value.bool c_11) rfl ?_
    refine WL.skip rfl (congrArg Value.bool c_11) rfl ?_
    refine WL.skip rfl (congrArg Value.bool c_11) rfl ?_
    refine qV rfl (R.pickF (v := (.bool false)) (congrArg Value.bool c_11) rfl) (qA (.bool false) rfl rfl ?_)
    refine WL.nil (thn_n (WP.ret ?_))
    refine ret_of Try.results56 (RV.tmp (v := (.bool false)) rfl RV.nil) ?_
    exact ⟨congrArg Value.bool (by rw [same4]; simp [c_7, c_9, c_11]), h_6.chgS⟩
  ·have p_14 := of_decide_eq_false c_9
   refine WL.skip rfl (congrArg Value.bool c_9) rfl ?_
   refine WL.skip rfl (congrArg Value.bool c_9) rfl ?_
   refine WL.skip rfl (congrArg Value.bool c_9) rfl ?_
   refine WL.skip rfl (congrArg Value.bool c_9) rfl ?_
   refine WL.skip rfl (congrArg Value.bool c_9) rfl ?_
   refine qV rfl (R.pickF (v := (.bool false)) (congrArg Value.bool c_9) rfl) (qM (.bool false) rfl rfl ?_)
   refine WL.skip rfl rfl rfl ?_
   refine WL.skip rfl rfl rfl ?_
   refine WL.skip rfl rfl rfl ?_
   refine WL.skip rfl rfl rfl ?_
   refine WL.skip rfl rfl rfl ?_
   refine WL.skip rfl rfl rfl ?_
   refine WL.skip rfl rfl rfl ?_
   refine qV rfl (R.pickF (v := (.bool false)) rfl rfl) (qA (.bool false) rfl rfl ?_)
   refine WL.nil (thn_n (WP.ret ?_))
   refine ret_of Try.results56 (RV.tmp (v := (.bool false)) rfl RV.nil) ?_
   exact ⟨congrArg Value.bool (by rw [same4]; simp [c_7, c_9]), h_6.chgS⟩
 ·have p_15 := of_decide_eq_false c_7
  refine WL.skip rfl (congrArg Value.bool c_7) rfl ?_
  refine WL.skip rfl (congrArg Value.bool c_7) rfl ?_
  refine WL.skip rfl (congrArg Value.bool c_7) rfl ?_
  refine WL.skip rfl (congrArg Value.bool c_7) rfl ?_
  refine WL.skip rfl (congrArg Value.bool c_7) rfl ?_
  refine qV rfl (R.pickF (v := (.bool false)) (congrArg Value.bool c_7) rfl) (qM (.bool false) rfl rfl ?_)
  refine WL.skip rfl rfl rfl ?_
  refine WL.skip rfl rfl rfl ?_
  refine WL.skip rfl rfl rfl ?_
  refine WL.skip rfl rfl rfl ?_
  refine WL.skip rfl rfl rfl ?_
  refine qV rfl (R.pickF (v := (.bool false)) rfl rfl) (qM (.bool false) rfl rfl ?_)
  refine WL.skip rfl rfl rfl ?_
  refine WL.skip rfl rfl rfl ?_
  refine WL.skip rfl rfl rfl ?_
  refine WL.skip rfl rfl rfl ?_
  refine WL.skip rfl rfl rfl ?_
  refine WL.skip rfl rfl rfl ?_
  refine WL.skip rfl rfl rfl ?_
  refine qV rfl (R.pickF (v := (.bool false)) rfl rfl) (qA (.bool false) rfl rfl ?_)
  refine WL.nil (thn_n (WP.ret ?_))
  refine ret_of Try.results56 (RV.tmp (v := (.bool false)) rfl RV.nil) ?_
  exact ⟨congrArg Value.bool (by rw [same4]; simp [c_7]), h_6.chgS⟩
end Go.Proofs.Ytnhppjimimhlkaa
