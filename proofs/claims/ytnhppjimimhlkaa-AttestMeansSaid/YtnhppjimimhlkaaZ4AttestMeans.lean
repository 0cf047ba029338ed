/- Rules for walks and contracts of the functions that the law reaches, one behind the other. Conditions: none beyond what each theorem states. -/
import Derived.Test.YtnhppjimimhlkaaZ3AttestMeans
set_option linter.unusedVariables false
set_option linter.unusedSimpArgs false
set_option linter.unusedSectionVars false
namespace Go.Proofs.Ytnhppjimimhlkaa
open Go.Vc Go.Orc Go.Sh Go.RowKit
set_option maxRecDepth 20000

def markB : List UInt8 := ([114, 101, 112, 111, 114, 116, 0, 0] : List UInt8)
def repB (ins : UInt64) (me ch : List UInt8) : List UInt8 := [markB, leN 8 ins.toNat, me, ch].flatten
theorem repB_len {ins : UInt64} {me ch : List UInt8} (h1 : me.length = 32) (h2 : ch.length = 32) : (repB ins me ch).length = 80 := by
 simp [repB, markB, leN_len, h1, h2]
def cutR (bs : List UInt8) : List (List UInt8) := [bs.take 8, (bs.drop 8).take 8, ((bs.drop 8).drop 8).take 32, (((bs.drop 8).drop 8).drop 32).take 32]
theorem cutR_ok {bs : List UInt8} (h : bs.length = 80) : Go.Wr.cutL [8, 8, 32, 32] bs = some (cutR bs) := by
 simp only [Go.Wr.cutL, List.length_drop, h]
 rw [if_neg (by omega), if_neg (by omega), if_neg (by omega), if_neg (by omega), if_pos (List.length_eq_zero_iff.1 (by simp only [List.length_drop, h]))]
 rfl
theorem cutR_at {bs : List UInt8} (h : bs.length = 80) {i : Nat} (hi : i < 4) : ((cutR bs).getD i []).length = [8, 8, 32, 32].getD i 0 := by
 match i, hi with
 | 0, _ => simp [cutR, h]
 | 1, _ => simp [cutR, h]
 | 2, _ => simp [cutR, h]
 | 3, _ => simp [cutR, h]
theorem a_some0 {w : World} {a : Option Addr} {xs : List Value} (hv : View w a xs) (hx : 0 < xs.length) : a = some (gA a 0) := by
 obtain ⟨ad, rfl, _⟩ := hv 0 xs[0] (by simp [hx])
 obtain ⟨b, o, p⟩ := ad
 cases p <;> rfl
def ins_of (bs : List UInt8) : UInt64 := UInt64.ofNat (natLE ((bs.drop 8).take 8))
def me_of (bs : List UInt8) : List UInt8 := (bs.drop 16).take 32
def ch_of (bs : List UInt8) : List UInt8 := (bs.drop 48).take 32
theorem iss_len {a b : List UInt8} (h1 : a.length = 80) (h2 : b.length = 32) : (a ++ b).length = 112 := by rw [List.length_append, h1, h2]
theorem sub_blk {a : Option Addr} {l m : Nat} {xs ys : List Value} (h : 0 < xs.length) : ∀ b ∈ (Ent.view (slA a l m 1) ys).blocks, b ∈ (Ent.view a xs).blocks := by
 intro b hb
 cases a with
 | none => simp [slA, Ent.blocks] at hb
 | some ad =>
  cases xs with
  | nil => simp at h
  | cons x r =>
   have e : slA (some ad) l m 1 = some ad ∨ slA (some ad) l m 1 = some (ad.add (l * 1)) := by
    unfold slA; split
    ·exact .inl rfl
    ·exact .inr rfl
   rcases e with e | e <;> rw [e] at hb <;> cases ys <;> simp [Ent.blocks, Addr.add_block] at hb ⊢ <;> exact hb
theorem View.pfx {w : World} {a : Option Addr} {l : List UInt8} (k : Nat) (h : View w a (l.map vu8)) : View w a ((l.take k).map vu8) := fun i v hv => by
 refine h i v ?_
 rw [List.map_take] at hv
 have hlt : i < k := by
  by_cases e : i < k
  ·exact e
  ·rw [List.getElem?_take, if_neg e] at hv; cases hv
 rwa [List.getElem?_take, if_pos hlt] at hv
def tgQ1 (ms : List UInt8) : Qn := (3, ms, 9, ([] : List (List UInt8)).flatten)
def tgK (id : Bool) (df : List UInt8) (dn u : Nat) (lg : Lg) (ms : List UInt8) : List UInt8 := anD id df dn u lg (tgQ1 ms)
def tgQ2 (id : Bool) (df : List UInt8) (dn u : Nat) (lg : Lg) (ms b : List UInt8) : Qn := (2, tgK id df dn u lg ms, 7, [b].flatten)
def tgD (id : Bool) (df : List UInt8) (dn u : Nat) (lg : Lg) (ms b : List UInt8) : List UInt8 := anD id df dn (anU id u lg (tgQ1 ms)) (anL id df dn u lg (tgQ1 ms)) (tgQ2 id df dn u lg ms b)
def tgU (id : Bool) (df : List UInt8) (dn u : Nat) (lg : Lg) (ms b : List UInt8) : Nat := anU id (anU id u lg (tgQ1 ms)) (anL id df dn u lg (tgQ1 ms)) (tgQ2 id df dn u lg ms b)
def tgL (id : Bool) (df : List UInt8) (dn u : Nat) (lg : Lg) (ms b : List UInt8) : Lg := anL id df dn (anU id u lg (tgQ1 ms)) (anL id df dn u lg (tgQ1 ms)) (tgQ2 id df dn u lg ms b)
theorem tgD_len {id : Bool} {df : List UInt8} {dn u : Nat} {lg : Lg} {ms b : List UInt8} (h : df.length = 32 * dn) (hl : ok32 lg) : (tgD id df dn u lg ms b).length = 32 := anD_len h (anL_32 h hl)
theorem tgL_32 {id : Bool} {df : List UInt8} {dn u : Nat} {lg : Lg} {ms b : List UInt8} (h : df.length = 32 * dn) (hl : ok32 lg) : ok32 (tgL id df dn u lg ms b) := anL_32 h (anL_32 h hl)
theorem tgU_le (id : Bool) (df : List UInt8) (dn u : Nat) (lg : Lg) (ms b : List UInt8) : tgU id df dn u lg ms b ≤ u + 2 := by
 have h1 := anU_le id u lg (tgQ1 ms)
 have h2 := anU_le id (anU id u lg (tgQ1 ms)) (anL id df dn u lg (tgQ1 ms)) (tgQ2 id df dn u lg ms b)
 unfold tgU; omega
theorem tgL_le (id : Bool) (df : List UInt8) (dn u : Nat) (lg : Lg) (ms b : List UInt8) : (tgL id df dn u lg ms b).length ≤ lg.length + 2 := by
 have h1 := anL_le id df dn u lg (tgQ1 ms)
 have h2 := anL_le id df dn (anU id u lg (tgQ1 ms)) (anL id df dn u lg (tgQ1 ms)) (tgQ2 id df dn u lg ms b)
 unfold tgL; omega
theorem c_rSize  (w : World) :
  Cs Try.prog 49 [].toArray w (fun v w1 => v = (vi 80) ∧ Chg w w1 []) := by
 refine Cs.of (n := 1) (args := []) Try.func49 rfl rfl rfl ?_
 have h_0 := HP.init w
 refine WP.seq (WP.reg ?_)
 refine qA (vi 0) rfl rfl ?_
 refine WL.nil (thn_n (WP.seq (WP.reg ?_)))
 refine qA (vi 80) rfl rfl ?_
 refine WL.nil (thn_n (WP.ret ?_))
 refine ret_of Try.results49 (RV.tmp (v := (vi 80)) rfl RV.nil) ?_
 exact ⟨rfl, h_0.chgS⟩

theorem c_aSize  (w : World) :
  Cs Try.prog 19 [].toArray w (fun v w1 => v = (vi 112) ∧ Chg w w1 []) := by
 refine Cs.of (n := 3) (args := []) Try.func19 rfl rfl rfl ?_
 have h_0 := HP.init w
 refine WP.seq (WP.reg ?_)
 refine qA (vi 0) rfl rfl ?_
 refine WL.nil (thn_n (WP.seq (WP.reg ?_)))
 refine WL.call Try.call49 rfl rfl (c_rSize  _ ) rfl ?_
 rintro _ w_2 ⟨rfl, hc_1⟩
 have h_3 := h_0.same hc_1
 refine qV rfl (R.bin rfl rfl (bi_add (c := 112) (by omega) (by omega))) (qA (vi 112) rfl rfl ?_)
 refine WL.nil (thn_n (WP.ret ?_))
 refine ret_of Try.results19 (RV.tmp (v := (vi 112)) rfl RV.nil) ?_
 exact ⟨rfl, h_3.chgS⟩

theorem c_oKey_nil (dm : Int) (a : Option Addr) (n cap : Nat) (w : World) :
  Cs Try.prog 20 [(.pointer none), (vi dm), (.slice a n cap)].toArray w (fun v w1 => v = (.tuple [(.agg ⟨(List.replicate 32 (0 : UInt8)).map vu8⟩), (vi 1)].toArray) ∧ Chg w w1 []) := by
 refine Cs.of (n := 24) (args := [(.pointer none), (vi dm), (.slice a n cap)]) Try.func20 rfl rfl rfl ?_
 have h_0 := HP.init w
 refine WP.seq (WP.reg ?_)
 refine WL.alloc (segs := [(32, (List.replicate 32 (0 : UInt8)).map vu8)]) h_0 (zv Try.typeInfo23 rfl) rfl (SsOk.cons (SOk.u8 lr) SsOk.nil) rfl (fun b_1 w_2 h_3 => ?_)
 refine qA (vi 0) rfl rfl ?_
 refine WL.nil (thn_n (WP.seq (WP.seq (WP.reg ?_))))
 refine qM (.pointer none) rfl rfl ?_
 refine WL.call Try.call52 rfl rfl (c_othere_nil  _ ) rfl ?_
 rintro _ w_5 ⟨rfl, hc_4⟩
 have h_6 := h_3.same hc_4
 refine qV rfl (R.not (b := false) rfl) ?_
 refine WL.nil (thn_n ?_)
 refine WP.condT rfl ?_
 refine WP.seq (WP.reg ?_)
 refine qV rfl (R.buildA (vs := []) (cs := (List.replicate 32 (0 : UInt8)).map vu8) Try.underlying23 Try.sizeOf5 (zv Try.typeInfo23 rfl) rfl rfl) ?_
 refine WL.storeA (b := b_1) (off := 0) [] [(32, (List.replicate 32 (0 : UInt8)).map vu8)] [(32, (List.replicate 32 (0 : UInt8)).map vu8)] [] (ys := (List.replicate 32 (0 : UInt8)).map vu8) h_6 rfl rfl Try.sizeOf23 At.h (by decide) rfl rfl rfl rfl rfl rfl (SsOk.cons (SOk.u8 lr) SsOk.nil) (fun w_7 h_8 => ?_)
 refine qA (vi 1) rfl rfl ?_
 refine WL.nil (thn_n (WP.ret (thn_r ?_)))
 refine ret_of Try.results20 (RV.cell rfl (h_8.loadA (cs := (List.replicate 32 (0 : UInt8)).map vu8) Try.isAgg23 Try.sizeOf23 M0 rfl rfl) (RV.tmp (v := (vi 1)) rfl RV.nil)) ?_
 exact ⟨rfl, h_8.chgS⟩

theorem c_oKey {w00 : World} {L : List Ent} (id : Bool) (ob mp : Nat) (ms df : List UInt8) (hms : ms.length = 32) (da : Option Addr) (dn dc u : Nat) (hdf : df.length = 32 * dn) (la : Option Addr) (lc : Nat) (lx : List Value) (lg : Lg) (hu : u ≤ 1000000) (hlg : lg.length ≤ 1000000) (a : Option Addr) (n cap : Nat) (xs : List Value) (ls : List (List UInt8)) (hln : ls.length = n) (dm : Int) (hdm : 1 ≤ dm ∧ dm ≤ 16) (hb : ls.flatten.length ≤ 1000000000) (hnb : n ≤ 1000000) (w : World) (h_0 : HP w00 w (Ent.blk ob .nw 50 [(1, [(.bool id)]), (32, ms.map vu8), (1, [(.slice da dn dc)]), (1, [(vi ((u : Nat) : Int))]), (1, [(.map (some mp))]), (1, [(.slice la lg.length lc)])] :: Ent.row la lg.length lc 111 67 lx :: Ent.obj mp .nw (.map (mArr lg) lg.length) :: Ent.pin (sblks lx) (fun w => Lgs w lx lg) :: Ent.view da (df.map vu8) :: Ent.pin (sblks xs) (fun w => Sls w xs ls) :: Ent.view a xs :: L)) :
  Cs Try.prog 20 [(.pointer (some ⟨ob, 0, none⟩)), (vi dm), (.slice a n cap)].toArray w (fun v w1 => ∃ la' lc' lx', v = (.tuple [(.agg ⟨(anD id df dn u lg (3, ms, dm, ls.flatten)).map vu8⟩), (vi 0)].toArray) ∧ HP w00 w1 (Ent.blk ob .nw 50 [(1, [(.bool id)]), (32, ms.map vu8), (1, [(.slice da dn dc)]), (1, [(vi (((anU id u lg (3, ms, dm, ls.flatten)) : Nat) : Int))]), (1, [(.map (some mp))]), (1, [(.slice la' ((anL id df dn u lg (3, ms, dm, ls.flatten)).length) lc')])] :: Ent.row la' ((anL id df dn u lg (3, ms, dm, ls.flatten)).length) lc' 111 67 lx' :: Ent.obj mp .nw (.map (mArr (anL id df dn u lg (3, ms, dm, ls.flatten))) ((anL id df dn u lg (3, ms, dm, ls.flatten)).length)) :: Ent.pin (sblks lx') (fun w => Lgs w lx' (anL id df dn u lg (3, ms, dm, ls.flatten))) :: Ent.view da (df.map vu8) :: Ent.pin (sblks xs) (fun w => Sls w xs ls) :: Ent.view a xs :: L)) := by
 have hxs := (h_0.ok _ M5).1
 have hxl : xs.length = n := (Sls.len hxs).trans hln
 refine Cs.of (n := 24) (args := [(pO ob 0), (vi dm), (.slice a n cap)]) Try.func20 rfl rfl rfl ?_
 refine WP.seq (WP.reg ?_)
 refine WL.alloc (segs := [(32, (List.replicate 32 (0 : UInt8)).map vu8)]) h_0 (zv Try.typeInfo23 rfl) rfl (SsOk.cons (SOk.u8 lr) SsOk.nil) rfl (fun b_1 w_2 h_3 => ?_)
 refine qA (vi 0) rfl rfl ?_
 refine WL.nil (thn_n (WP.seq (WP.seq (WP.reg ?_))))
 refine qM (pO ob 0) rfl rfl ?_
 refine WL.call Try.call52 rfl rfl (c_othere id ob mp ms hms da dn dc u la lg.length lc _ (h_3.argR M1)) rfl ?_
 rintro _ w_5 ⟨rfl, hc_4⟩
 have h_6 := h_3.same hc_4
 refine qV rfl (R.not (b := true) rfl) ?_
 refine WL.nil (thn_n ?_)
 refine WP.condF rfl ?_
 refine WP.skip (thn_n (WP.seq ?_))
 refine WP.cutG (G := Option Addr × Nat × Option Addr × Nat × List Value) [7, 12, 13, 14, 15, 16, 17, 18, 19, 20, 21, 22, 23] (fun (aY3Y7Y0Y0, capY3Y7Y0Y0, laY3Y9Y0Y0, lcY3Y9Y0Y0, lxY3Y9Y0Y0) => [(7, (vi 0)), (12, (pO ob 0)), (13, (pO ob 0)), (14, (pO ob 0)), (15, (pO ob 1)), (17, (vi dm)), (18, (.slice a n cap)), (16, (.agg ⟨ms.map vu8⟩)), (19, (.slice aY3Y7Y0Y0 ls.flatten.length capY3Y7Y0Y0)), (20, (.agg ⟨flat [(1, [(vi 3)]), (32, ms.map vu8), (1, [(vi dm)]), (1, [(.slice aY3Y7Y0Y0 ls.flatten.length capY3Y7Y0Y0)])]⟩)), (21, (.tuple [(.agg ⟨(anD id df dn u lg (3, ms, dm, ls.flatten)).map vu8⟩), (vi 0)].toArray)), (22, (.agg ⟨(anD id df dn u lg (3, ms, dm, ls.flatten)).map vu8⟩)), (23, (vi 0))]) (fun (aY3Y7Y0Y0, capY3Y7Y0Y0, laY3Y9Y0Y0, lcY3Y9Y0Y0, lxY3Y9Y0Y0) w1 => HP w00 w1 (Ent.blk ob .nw 50 [(1, [(.bool id)]), (32, ms.map vu8), (1, [(.slice da dn dc)]), (1, [(vn (anU id u lg (3, ms, dm, ls.flatten)))]), (1, [(.map (some mp))]), (1, [(.slice laY3Y9Y0Y0 ((anL id df dn u lg (3, ms, dm, ls.flatten)).length) lcY3Y9Y0Y0)])] :: Ent.row laY3Y9Y0Y0 ((anL id df dn u lg (3, ms, dm, ls.flatten)).length) lcY3Y9Y0Y0 111 67 lxY3Y9Y0Y0 :: Ent.obj mp .nw (.map (mArr (anL id df dn u lg (3, ms, dm, ls.flatten))) ((anL id df dn u lg (3, ms, dm, ls.flatten)).length)) :: Ent.pin (sblks lxY3Y9Y0Y0) (fun w => Lgs w lxY3Y9Y0Y0 (anL id df dn u lg (3, ms, dm, ls.flatten))) :: Ent.view da (df.map vu8) :: Ent.view aY3Y7Y0Y0 (ls.flatten.map vu8) :: Ent.blk b_1 .nw 23 [(32, (anD id df dn u lg (3, ms, dm, ls.flatten)).map vu8)] :: Ent.pin (sblks xs) (fun w => Sls w xs ls) :: Ent.view a xs :: L)) ?_ ?_
 ·refine WP.drawT (SL w00.heap.size [.pin (sblks xs) (fun w => Sls w xs ls), .view a xs]) (.q 0 (.q 1 (.q 2 (.q 3 (.q 5 (.q 6 (.s2 4 7 (.s 7 (.q 8 (.s 9 (.q 10 (.q 11 (.s 12 (.q 13 .nil))))))) (.s 4 (.q 8 (.s 9 (.q 10 (.q 11 (.s 12 (.q 13 .nil)))))))))))))) (by kernel_rfl) (by kernel_rfl) rfl (by kernel_rfl) (fun w_7 hc_9 => (SL.cons ((h_6.same hc_9).ok _ M6) (SL.cons ((h_6.same hc_9).ok _ M7) (SL.nil _ _)))) (fun w_7 hc_9 => ?_)
  have h_8 := h_6.same hc_9
  refine qT rfl rfl (fun wq hS => R.move (v := (pO ob 0)) rfl) ?_
  refine qT rfl rfl (fun wq hS => R.move (v := (pO ob 0)) rfl) ?_
  refine qT rfl rfl (fun wq hS => R.nilCheck rfl) ?_
  refine qT rfl rfl (fun wq hS => R.fieldAddr (b := ob) (off := 0) (off' := 1) rfl Try.underlying50 rfl Try.sizeOf23 rfl rfl) ?_
  refine qT rfl rfl (fun wq hS => R.move (v := (vi dm)) rfl) ?_
  refine qT rfl rfl (fun wq hS => R.move (v := (.slice a n cap)) rfl) ?_
  refine WT.s2 ?_ ?_
  ·refine Op1.one rfl (Wn.no rfl) ?_
   refine qV rfl (R.loadA (b := ob) (off := 1) [(1, [(.bool id)])] [(32, ms.map vu8)] [(1, [(.slice da dn dc)]), (1, [(vn u)]), (1, [(.map (some mp))]), (1, [(.slice la lg.length lc)])] (cs := ms.map vu8) rfl Try.isAgg23 Try.sizeOf23 (h_8.ok _ M1) rfl rfl rfl rfl) ?_
   refine WL.nil ?_
   refine ⟨(SL.cons (h_8.ok _ M6) (SL.cons (h_8.ok _ M7) (SL.nil _ _))), ?_⟩
   refine WT.s (Op1.one rfl (Wn.no rfl) ?_)
   refine WL.call Try.call53 rfl rfl (c_joined a n cap xs ls hln (by omega) (by omega) _ (viewV (h_8.ok _ M7)) (h_8.ok _ M6).1) rfl ?_
   rintro _ w_12 ⟨a_10, cap_11, rfl, hc_13, ho_14⟩
   have h_15 := h_8.gotRow hc_13 ho_14
   refine WL.nil ?_
   refine ⟨(SL.cons (h_15.ok _ M7) (SL.cons (h_15.ok _ M8) (SL.nil _ _))), ?_⟩
   refine qT rfl rfl (fun wq hS => R.buildS (pl := [(0, 1), (1, 32), (33, 1), (34, 1)]) (zs := [(1, [(vi 0)]), (32, (List.replicate 32 (0 : UInt8)).map vu8), (1, [(vi 0)]), (1, [(.slice none 0 0)])]) (vs := [(0, (vi 3)), (1, (.agg ⟨ms.map vu8⟩)), (2, (vi dm)), (3, (.slice a_10 ls.flatten.length cap_11))]) (out := [(1, [(vi 3)]), (32, ms.map vu8), (1, [(vi dm)]), (1, [(.slice a_10 ls.flatten.length cap_11)])]) (cs := flat [(1, [(vi 3)]), (32, ms.map vu8), (1, [(vi dm)]), (1, [(.slice a_10 ls.flatten.length cap_11)])]) Try.underlying103 (zv Try.typeInfo103 rfl) rfl (SsOk.cons (SOk.v rfl) (SsOk.cons (SOk.u8 lr) (SsOk.cons (SOk.v rfl) (SsOk.cons (SOk.v rfl) SsOk.nil)))) (pl103 _ Try.underlying103) rfl (FillR.cons [] [(1, [(vi 0)])] [(1, [(vi 3)])] [(32, (List.replicate 32 (0 : UInt8)).map vu8), (1, [(vi 0)]), (1, [(.slice none 0 0)])] rfl rfl rfl rfl (SsOk.cons (SOk.v rfl) SsOk.nil) rfl rfl rfl (FillR.cons [(1, [(vi 3)])] [(32, (List.replicate 32 (0 : UInt8)).map vu8)] [(32, ms.map vu8)] [(1, [(vi 0)]), (1, [(.slice none 0 0)])] rfl rfl rfl rfl (SsOk.cons (SOk.u8 hms) SsOk.nil) rfl rfl rfl (FillR.cons [(1, [(vi 3)]), (32, ms.map vu8)] [(1, [(vi 0)])] [(1, [(vi dm)])] [(1, [(.slice none 0 0)])] rfl rfl rfl rfl (SsOk.cons (SOk.v rfl) SsOk.nil) rfl rfl rfl (FillR.cons [(1, [(vi 3)]), (32, ms.map vu8), (1, [(vi dm)])] [(1, [(.slice none 0 0)])] [(1, [(.slice a_10 ls.flatten.length cap_11)])] [] rfl rfl rfl rfl (SsOk.cons (SOk.v rfl) SsOk.nil) rfl rfl rfl FillR.nil)))) rfl) ?_
   refine WT.s (Op1.one rfl (Wn.no rfl) ?_)
   have h_17 := h_15.rowView
   have h_22 := ((((h_17.up J6).up J6).up J6).up J6).up J6
   have h32_w_26 := (Lgs.ok32 (h_22.ok _ M3).1)
   refine WL.call Try.call48 rfl rfl (c_oAsk id ob mp ms df hms da dn dc u hdf la lc lx lg hu hlg 3 dm ms ls.flatten a_10 ls.flatten.length cap_11 ⟨hms, by show (1 : Int) ≤ 3 ∧ (3 : Int) ≤ 4; omega, by show (1 : Int) ≤ dm ∧ (dm : Int) ≤ 16; omega, by show List.length ls.flatten ≤ 1000000000; first | decide | (simp only [List.length_append, leN_len]; omega) | omega⟩ (rfl : List.length ls.flatten = ls.flatten.length) (by decide) (fun h => by omega) _ h_22) rfl ?_
   rintro _ w_26 ⟨la_23, lc_24, lx_25, rfl, h_27⟩
   refine WL.nil ?_
   refine ⟨(SL.cons (h_27.ok _ M7) (SL.cons (h_27.ok _ M8) (SL.nil _ _))), ?_⟩
   refine qT rfl rfl (fun wq hS => R.extract rfl rfl) ?_
   refine qT rfl rfl (fun wq hS => R.extract rfl rfl) ?_
   refine WT.s (Op1.one rfl (Wn.no rfl) ?_)
   refine WL.storeA (b := b_1) (off := 0) [] [(32, (List.replicate 32 (0 : UInt8)).map vu8)] [(32, (anD id df dn u lg (3, ms, dm, ls.flatten)).map vu8)] [] (ys := (anD id df dn u lg (3, ms, dm, ls.flatten)).map vu8) h_27 rfl rfl Try.sizeOf23 Y6 (by decide) rfl rfl rfl rfl rfl rfl (SsOk.cons (SOk.u8 (anD_len hdf h32_w_26)) SsOk.nil) (fun w_28 h_29 => ?_)
   refine WL.nil ?_
   refine ⟨(SL.cons (h_29.ok _ M7) (SL.cons (h_29.ok _ M8) (SL.nil _ _))), ?_⟩
   refine qT rfl rfl (fun wq hS => R.assign (v := (vi 0)) rfl) ?_
   refine WT.nil (thn_n ?_)
   exact ⟨(a_10, cap_11, la_23, lc_24, lx_25), (Ag.upd rfl (U4 rfl rfl rfl rfl (U4 rfl rfl rfl rfl (U4 rfl rfl rfl rfl (Ag.refl _ _))))), ⟨rfl, rfl, rfl, rfl, rfl, rfl, rfl, rfl, rfl, rfl, rfl, rfl, rfl, trivial⟩, h_29⟩
  ·refine Op1.one rfl (Wn.no rfl) ?_
   refine WL.call Try.call53 rfl rfl (c_joined a n cap xs ls hln (by omega) (by omega) _ (viewV (h_8.ok _ M7)) (h_8.ok _ M6).1) rfl ?_
   rintro _ w_32 ⟨a_30, cap_31, rfl, hc_33, ho_34⟩
   have h_35 := h_8.gotRow hc_33 ho_34
   refine WL.nil ?_
   refine ⟨(SL.cons (h_35.ok _ M7) (SL.cons (h_35.ok _ M8) (SL.nil _ _))), ?_⟩
   refine WT.s (Op1.one rfl (Wn.no rfl) ?_)
   refine qV rfl (R.loadA (b := ob) (off := 1) [(1, [(.bool id)])] [(32, ms.map vu8)] [(1, [(.slice da dn dc)]), (1, [(vn u)]), (1, [(.map (some mp))]), (1, [(.slice la lg.length lc)])] (cs := ms.map vu8) rfl Try.isAgg23 Try.sizeOf23 (h_35.ok _ M2) rfl rfl rfl rfl) ?_
   refine WL.nil ?_
   refine ⟨(SL.cons (h_35.ok _ M7) (SL.cons (h_35.ok _ M8) (SL.nil _ _))), ?_⟩
   refine qT rfl rfl (fun wq hS => R.buildS (pl := [(0, 1), (1, 32), (33, 1), (34, 1)]) (zs := [(1, [(vi 0)]), (32, (List.replicate 32 (0 : UInt8)).map vu8), (1, [(vi 0)]), (1, [(.slice none 0 0)])]) (vs := [(0, (vi 3)), (1, (.agg ⟨ms.map vu8⟩)), (2, (vi dm)), (3, (.slice a_30 ls.flatten.length cap_31))]) (out := [(1, [(vi 3)]), (32, ms.map vu8), (1, [(vi dm)]), (1, [(.slice a_30 ls.flatten.length cap_31)])]) (cs := flat [(1, [(vi 3)]), (32, ms.map vu8), (1, [(vi dm)]), (1, [(.slice a_30 ls.flatten.length cap_31)])]) Try.underlying103 (zv Try.typeInfo103 rfl) rfl (SsOk.cons (SOk.v rfl) (SsOk.cons (SOk.u8 lr) (SsOk.cons (SOk.v rfl) (SsOk.cons (SOk.v rfl) SsOk.nil)))) (pl103 _ Try.underlying103) rfl (FillR.cons [] [(1, [(vi 0)])] [(1, [(vi 3)])] [(32, (List.replicate 32 (0 : UInt8)).map vu8), (1, [(vi 0)]), (1, [(.slice none 0 0)])] rfl rfl rfl rfl (SsOk.cons (SOk.v rfl) SsOk.nil) rfl rfl rfl (FillR.cons [(1, [(vi 3)])] [(32, (List.replicate 32 (0 : UInt8)).map vu8)] [(32, ms.map vu8)] [(1, [(vi 0)]), (1, [(.slice none 0 0)])] rfl rfl rfl rfl (SsOk.cons (SOk.u8 hms) SsOk.nil) rfl rfl rfl (FillR.cons [(1, [(vi 3)]), (32, ms.map vu8)] [(1, [(vi 0)])] [(1, [(vi dm)])] [(1, [(.slice none 0 0)])] rfl rfl rfl rfl (SsOk.cons (SOk.v rfl) SsOk.nil) rfl rfl rfl (FillR.cons [(1, [(vi 3)]), (32, ms.map vu8), (1, [(vi dm)])] [(1, [(.slice none 0 0)])] [(1, [(.slice a_30 ls.flatten.length cap_31)])] [] rfl rfl rfl rfl (SsOk.cons (SOk.v rfl) SsOk.nil) rfl rfl rfl FillR.nil)))) rfl) ?_
   refine WT.s (Op1.one rfl (Wn.no rfl) ?_)
   have h_37 := h_35.rowView
   have h_42 := ((((h_37.up J6).up J6).up J6).up J6).up J6
   have h32_w_46 := (Lgs.ok32 (h_42.ok _ M3).1)
   refine WL.call Try.call48 rfl rfl (c_oAsk id ob mp ms df hms da dn dc u hdf la lc lx lg hu hlg 3 dm ms ls.flatten a_30 ls.flatten.length cap_31 ⟨hms, by show (1 : Int) ≤ 3 ∧ (3 : Int) ≤ 4; omega, by show (1 : Int) ≤ dm ∧ (dm : Int) ≤ 16; omega, by show List.length ls.flatten ≤ 1000000000; first | decide | (simp only [List.length_append, leN_len]; omega) | omega⟩ (rfl : List.length ls.flatten = ls.flatten.length) (by decide) (fun h => by omega) _ h_42) rfl ?_
   rintro _ w_46 ⟨la_43, lc_44, lx_45, rfl, h_47⟩
   refine WL.nil ?_
   refine ⟨(SL.cons (h_47.ok _ M7) (SL.cons (h_47.ok _ M8) (SL.nil _ _))), ?_⟩
   refine qT rfl rfl (fun wq hS => R.extract rfl rfl) ?_
   refine qT rfl rfl (fun wq hS => R.extract rfl rfl) ?_
   refine WT.s (Op1.one rfl (Wn.no rfl) ?_)
   refine WL.storeA (b := b_1) (off := 0) [] [(32, (List.replicate 32 (0 : UInt8)).map vu8)] [(32, (anD id df dn u lg (3, ms, dm, ls.flatten)).map vu8)] [] (ys := (anD id df dn u lg (3, ms, dm, ls.flatten)).map vu8) h_47 rfl rfl Try.sizeOf23 Y6 (by decide) rfl rfl rfl rfl rfl rfl (SsOk.cons (SOk.u8 (anD_len hdf h32_w_46)) SsOk.nil) (fun w_48 h_49 => ?_)
   refine WL.nil ?_
   refine ⟨(SL.cons (h_49.ok _ M7) (SL.cons (h_49.ok _ M8) (SL.nil _ _))), ?_⟩
   refine qT rfl rfl (fun wq hS => R.assign (v := (vi 0)) rfl) ?_
   refine WT.nil (thn_n ?_)
   exact ⟨(a_30, cap_31, la_43, lc_44, lx_45), (Ag.upd rfl (U4 rfl rfl rfl rfl (U4 rfl rfl rfl rfl (U4 rfl rfl rfl rfl (Ag.refl _ _))))), ⟨rfl, rfl, rfl, rfl, rfl, rfl, rfl, rfl, rfl, rfl, rfl, rfl, rfl, trivial⟩, h_49⟩
 ·rintro ⟨a_53, cap_54, la_55, lc_56, lx_57⟩ J_50 w_51 h_52
  refine thn_n (WP.ret ?_)
  refine ret_of Try.results20 (RV.cell rfl (h_52.loadA (cs := (anD id df dn u lg (3, ms, dm, ls.flatten)).map vu8) Try.isAgg23 Try.sizeOf23 M6 rfl rfl) (RV.tmp (v := (vi 0)) rfl RV.nil)) ?_
  have h_68 := ((((((((((h_52.up J5).drop rfl).up J5).drop rfl).up J6).up J6).up J6).up J6).up J6).up J6).up J6
  exact ⟨_, _, _, rfl, h_68⟩

theorem c_oTag {w00 : World} {L : List Ent} (id : Bool) (ob mp : Nat) (ms df : List UInt8) (hms : ms.length = 32) (da : Option Addr) (dn dc u : Nat) (hdf : df.length = 32 * dn) (la : Option Addr) (lc : Nat) (lx : List Value) (lg : Lg) (hu : u ≤ 1000000) (hlg : lg.length ≤ 1000000) (a : Option Addr) (n cap : Nat) (xs : List Value) (ls : List (List UInt8)) (hln : ls.length = n) (key : List UInt8) (hk : key.length = 32) (dm : Int) (hdm : 1 ≤ dm ∧ dm ≤ 16) (hb : ls.flatten.length ≤ 1000000000) (hnb : n ≤ 1000000) (w : World) (h_0 : HP w00 w (Ent.blk ob .nw 50 [(1, [(.bool id)]), (32, ms.map vu8), (1, [(.slice da dn dc)]), (1, [(vi ((u : Nat) : Int))]), (1, [(.map (some mp))]), (1, [(.slice la lg.length lc)])] :: Ent.row la lg.length lc 111 67 lx :: Ent.obj mp .nw (.map (mArr lg) lg.length) :: Ent.pin (sblks lx) (fun w => Lgs w lx lg) :: Ent.view da (df.map vu8) :: Ent.pin (sblks xs) (fun w => Sls w xs ls) :: Ent.view a xs :: L)) :
  Cs Try.prog 21 [(.pointer (some ⟨ob, 0, none⟩)), (.agg ⟨key.map vu8⟩), (vi dm), (.slice a n cap)].toArray w (fun v w1 => ∃ la' lc' lx', v = (.tuple [(.agg ⟨(anD id df dn u lg (2, key, dm, ls.flatten)).map vu8⟩), (vi 0)].toArray) ∧ HP w00 w1 (Ent.blk ob .nw 50 [(1, [(.bool id)]), (32, ms.map vu8), (1, [(.slice da dn dc)]), (1, [(vi (((anU id u lg (2, key, dm, ls.flatten)) : Nat) : Int))]), (1, [(.map (some mp))]), (1, [(.slice la' ((anL id df dn u lg (2, key, dm, ls.flatten)).length) lc')])] :: Ent.row la' ((anL id df dn u lg (2, key, dm, ls.flatten)).length) lc' 111 67 lx' :: Ent.obj mp .nw (.map (mArr (anL id df dn u lg (2, key, dm, ls.flatten))) ((anL id df dn u lg (2, key, dm, ls.flatten)).length)) :: Ent.pin (sblks lx') (fun w => Lgs w lx' (anL id df dn u lg (2, key, dm, ls.flatten))) :: Ent.view da (df.map vu8) :: Ent.pin (sblks xs) (fun w => Sls w xs ls) :: Ent.view a xs :: L)) := by
 have hxs := (h_0.ok _ M5).1
 have hxl : xs.length = n := (Sls.len hxs).trans hln
 refine Cs.of (n := 19) (args := [(pO ob 0), (.agg ⟨key.map vu8⟩), (vi dm), (.slice a n cap)]) Try.func21 rfl rfl rfl ?_
 refine WP.seq (WP.reg ?_)
 refine WL.box (v := (.agg ⟨key.map vu8⟩)) (segs := [(32, key.map vu8)]) h_0 rfl rfl (SsOk.cons (SOk.u8 hk) SsOk.nil) rfl (fun b_1 w_2 h_3 => ?_)
 refine WL.alloc (segs := [(32, (List.replicate 32 (0 : UInt8)).map vu8)]) h_3 (zv Try.typeInfo23 rfl) rfl (SsOk.cons (SOk.u8 lr) SsOk.nil) rfl (fun b_4 w_5 h_6 => ?_)
 refine qA (vi 0) rfl rfl ?_
 refine WL.nil (thn_n (WP.seq ?_))
 refine WP.drawT (SL w00.heap.size [.blk b_1 .nw 23 [(32, key.map vu8)], .pin (sblks xs) (fun w => Sls w xs ls), .view a xs]) (.q 0 (.q 1 (.q 2 (.q 3 (.s 4 (.q 5 (.s 6 (.q 7 (.q 8 (.s 9 (.q 10 .nil))))))))))) (by kernel_rfl) (by kernel_rfl) rfl (by kernel_rfl) (fun w_7 hc_9 => (SL.cons ((h_6.same hc_9).ok _ M1) (SL.cons ((h_6.same hc_9).ok _ M7) (SL.cons ((h_6.same hc_9).ok _ M8) (SL.nil _ _))))) (fun w_7 hc_9 => ?_)
 have h_8 := h_6.same hc_9
 refine qT rfl rfl (fun wq hS => R.move (v := (pO ob 0)) rfl) ?_
 refine qT rfl rfl (fun wq hS => R.loadA (b := b_1) (off := 0) [] [(32, key.map vu8)] [] (cs := key.map vu8) rfl Try.isAgg23 Try.sizeOf23 (hS _ M0) rfl rfl rfl rfl) ?_
 refine qT rfl rfl (fun wq hS => R.move (v := (vi dm)) rfl) ?_
 refine qT rfl rfl (fun wq hS => R.move (v := (.slice a n cap)) rfl) ?_
 refine WT.s (Op1.one rfl (Wn.no rfl) ?_)
 refine WL.call Try.call53 rfl rfl (c_joined a n cap xs ls hln (by omega) (by omega) _ (viewV (h_8.ok _ M8)) (h_8.ok _ M7).1) rfl ?_
 rintro _ w_12 ⟨a_10, cap_11, rfl, hc_13, ho_14⟩
 have h_15 := h_8.gotRow hc_13 ho_14
 refine WL.nil ?_
 refine ⟨(SL.cons (h_15.ok _ M2) (SL.cons (h_15.ok _ M8) (SL.cons (h_15.ok _ M9) (SL.nil _ _)))), ?_⟩
 refine qT rfl rfl (fun wq hS => R.buildS (pl := [(0, 1), (1, 32), (33, 1), (34, 1)]) (zs := [(1, [(vi 0)]), (32, (List.replicate 32 (0 : UInt8)).map vu8), (1, [(vi 0)]), (1, [(.slice none 0 0)])]) (vs := [(0, (vi 2)), (1, (.agg ⟨key.map vu8⟩)), (2, (vi dm)), (3, (.slice a_10 ls.flatten.length cap_11))]) (out := [(1, [(vi 2)]), (32, key.map vu8), (1, [(vi dm)]), (1, [(.slice a_10 ls.flatten.length cap_11)])]) (cs := flat [(1, [(vi 2)]), (32, key.map vu8), (1, [(vi dm)]), (1, [(.slice a_10 ls.flatten.length cap_11)])]) Try.underlying103 (zv Try.typeInfo103 rfl) rfl (SsOk.cons (SOk.v rfl) (SsOk.cons (SOk.u8 lr) (SsOk.cons (SOk.v rfl) (SsOk.cons (SOk.v rfl) SsOk.nil)))) (pl103 _ Try.underlying103) rfl (FillR.cons [] [(1, [(vi 0)])] [(1, [(vi 2)])] [(32, (List.replicate 32 (0 : UInt8)).map vu8), (1, [(vi 0)]), (1, [(.slice none 0 0)])] rfl rfl rfl rfl (SsOk.cons (SOk.v rfl) SsOk.nil) rfl rfl rfl (FillR.cons [(1, [(vi 2)])] [(32, (List.replicate 32 (0 : UInt8)).map vu8)] [(32, key.map vu8)] [(1, [(vi 0)]), (1, [(.slice none 0 0)])] rfl rfl rfl rfl (SsOk.cons (SOk.u8 hk) SsOk.nil) rfl rfl rfl (FillR.cons [(1, [(vi 2)]), (32, key.map vu8)] [(1, [(vi 0)])] [(1, [(vi dm)])] [(1, [(.slice none 0 0)])] rfl rfl rfl rfl (SsOk.cons (SOk.v rfl) SsOk.nil) rfl rfl rfl (FillR.cons [(1, [(vi 2)]), (32, key.map vu8), (1, [(vi dm)])] [(1, [(.slice none 0 0)])] [(1, [(.slice a_10 ls.flatten.length cap_11)])] [] rfl rfl rfl rfl (SsOk.cons (SOk.v rfl) SsOk.nil) rfl rfl rfl FillR.nil)))) rfl) ?_
 refine WT.s (Op1.one rfl (Wn.no rfl) ?_)
 have h_17 := h_15.rowView
 have h_22 := ((((h_17.up J7).up J7).up J7).up J7).up J7
 have h32_w_26 := (Lgs.ok32 (h_22.ok _ M3).1)
 refine WL.call Try.call48 rfl rfl (c_oAsk id ob mp ms df hms da dn dc u hdf la lc lx lg hu hlg 2 dm key ls.flatten a_10 ls.flatten.length cap_11 ⟨hk, by show (1 : Int) ≤ 2 ∧ (2 : Int) ≤ 4; omega, by show (1 : Int) ≤ dm ∧ (dm : Int) ≤ 16; omega, by show List.length ls.flatten ≤ 1000000000; first | decide | (simp only [List.length_append, leN_len]; omega) | omega⟩ (rfl : List.length ls.flatten = ls.flatten.length) (by decide) (fun h => by omega) _ h_22) rfl ?_
 rintro _ w_26 ⟨la_23, lc_24, lx_25, rfl, h_27⟩
 refine WL.nil ?_
 refine ⟨(SL.cons (h_27.ok _ M7) (SL.cons (h_27.ok _ M8) (SL.cons (h_27.ok _ M9) (SL.nil _ _)))), ?_⟩
 refine qT rfl rfl (fun wq hS => R.extract rfl rfl) ?_
 refine qT rfl rfl (fun wq hS => R.extract rfl rfl) ?_
 refine WT.s (Op1.one rfl (Wn.no rfl) ?_)
 refine WL.storeA (b := b_4) (off := 0) [] [(32, (List.replicate 32 (0 : UInt8)).map vu8)] [(32, (anD id df dn u lg (2, key, dm, ls.flatten)).map vu8)] [] (ys := (anD id df dn u lg (2, key, dm, ls.flatten)).map vu8) h_27 rfl rfl Try.sizeOf23 Y6 (by decide) rfl rfl rfl rfl rfl rfl (SsOk.cons (SOk.u8 (anD_len hdf h32_w_26)) SsOk.nil) (fun w_28 h_29 => ?_)
 refine WL.nil ?_
 refine ⟨(SL.cons (h_29.ok _ M7) (SL.cons (h_29.ok _ M8) (SL.cons (h_29.ok _ M9) (SL.nil _ _)))), ?_⟩
 refine qT rfl rfl (fun wq hS => R.assign (v := (vi 0)) rfl) ?_
 refine WT.nil (thn_n (WP.ret ?_))
 refine ret_of Try.results21 (RV.cell rfl (h_29.loadA (cs := (anD id df dn u lg (2, key, dm, ls.flatten)).map vu8) Try.isAgg23 Try.sizeOf23 M6 rfl rfl) (RV.tmp (v := (vi 0)) rfl RV.nil)) ?_
 have h_42 := ((((((((((((h_29.up J5).drop rfl).up J5).drop rfl).up J5).drop rfl).up J6).up J6).up J6).up J6).up J6).up J6).up J6
 exact ⟨_, _, _, rfl, h_42⟩

theorem c_oTag1 {w00 : World} {L : List Ent} (id : Bool) (ob mp : Nat) (ms df : List UInt8) (hms : ms.length = 32) (da : Option Addr) (dn dc u : Nat) (hdf : df.length = 32 * dn) (la : Option Addr) (lc : Nat) (lx : List Value) (lg : Lg) (hu : u ≤ 1000000) (hlg : lg.length ≤ 1000000) (key : List UInt8) (hk : key.length = 32) (dm : Int) (hdm : 1 ≤ dm ∧ dm ≤ 16) (bl : Nat) (ra : Option Addr) (rn rc : Nat) (rb : List UInt8) (hrb : rb.length = rn) (hrn : rn ≤ 100000) (w : World) (h_0 : HP w00 w (Ent.blk ob .nw 50 [(1, [(.bool id)]), (32, ms.map vu8), (1, [(.slice da dn dc)]), (1, [(vi ((u : Nat) : Int))]), (1, [(.map (some mp))]), (1, [(.slice la lg.length lc)])] :: Ent.row la lg.length lc 111 67 lx :: Ent.obj mp .nw (.map (mArr lg) lg.length) :: Ent.pin (sblks lx) (fun w => Lgs w lx lg) :: Ent.view da (df.map vu8) :: Ent.blk bl .nw 37 [(1, [(.slice ra rn rc)])] :: Ent.row ra rn rc 5 1 (rb.map vu8) :: L)) :
  Cs Try.prog 21 [(.pointer (some ⟨ob, 0, none⟩)), (.agg ⟨key.map vu8⟩), (vi dm), (.slice (some ⟨bl, 0, none⟩) 1 1)].toArray w (fun v w1 => ∃ la' lc' lx', v = (.tuple [(.agg ⟨(anD id df dn u lg (2, key, dm, [rb].flatten)).map vu8⟩), (vi 0)].toArray) ∧ HP w00 w1 (Ent.blk ob .nw 50 [(1, [(.bool id)]), (32, ms.map vu8), (1, [(.slice da dn dc)]), (1, [(vi (((anU id u lg (2, key, dm, [rb].flatten)) : Nat) : Int))]), (1, [(.map (some mp))]), (1, [(.slice la' ((anL id df dn u lg (2, key, dm, [rb].flatten)).length) lc')])] :: Ent.row la' ((anL id df dn u lg (2, key, dm, [rb].flatten)).length) lc' 111 67 lx' :: Ent.obj mp .nw (.map (mArr (anL id df dn u lg (2, key, dm, [rb].flatten))) ((anL id df dn u lg (2, key, dm, [rb].flatten)).length)) :: Ent.pin (sblks lx') (fun w => Lgs w lx' (anL id df dn u lg (2, key, dm, [rb].flatten))) :: Ent.view da (df.map vu8) :: Ent.blk bl .nw 37 [(1, [(.slice ra rn rc)])] :: Ent.row ra rn rc 5 1 (rb.map vu8) :: L)) := by
 have hfl : [rb].flatten.length = rn := by simp [hrb]
 refine Cs.of (n := 19) (args := [(pO ob 0), (.agg ⟨key.map vu8⟩), (vi dm), (.slice (some ⟨bl, 0, none⟩) 1 1)]) Try.func21 rfl rfl rfl ?_
 refine WP.seq (WP.reg ?_)
 refine WL.box (v := (.agg ⟨key.map vu8⟩)) (segs := [(32, key.map vu8)]) h_0 rfl rfl (SsOk.cons (SOk.u8 hk) SsOk.nil) rfl (fun b_1 w_2 h_3 => ?_)
 refine WL.alloc (segs := [(32, (List.replicate 32 (0 : UInt8)).map vu8)]) h_3 (zv Try.typeInfo23 rfl) rfl (SsOk.cons (SOk.u8 lr) SsOk.nil) rfl (fun b_4 w_5 h_6 => ?_)
 refine qA (vi 0) rfl rfl ?_
 refine WL.nil (thn_n (WP.seq ?_))
 refine WP.drawT (SL w00.heap.size [.blk b_1 .nw 23 [(32, key.map vu8)], .blk bl .nw 37 [(1, [(.slice ra rn rc)])], .row ra rn rc 5 1 (rb.map vu8)]) (.q 0 (.q 1 (.q 2 (.q 3 (.s 4 (.q 5 (.s 6 (.q 7 (.q 8 (.s 9 (.q 10 .nil))))))))))) (by kernel_rfl) (by kernel_rfl) rfl (by kernel_rfl) (fun w_7 hc_9 => (SL.cons ((h_6.same hc_9).ok _ M1) (SL.cons ((h_6.same hc_9).ok _ M7) (SL.cons ((h_6.same hc_9).ok _ M8) (SL.nil _ _))))) (fun w_7 hc_9 => ?_)
 have h_8 := h_6.same hc_9
 refine qT rfl rfl (fun wq hS => R.move (v := (pO ob 0)) rfl) ?_
 refine qT rfl rfl (fun wq hS => R.loadA (b := b_1) (off := 0) [] [(32, key.map vu8)] [] (cs := key.map vu8) rfl Try.isAgg23 Try.sizeOf23 (hS _ M0) rfl rfl rfl rfl) ?_
 refine qT rfl rfl (fun wq hS => R.move (v := (vi dm)) rfl) ?_
 refine qT rfl rfl (fun wq hS => R.move (v := (.slice (some ⟨bl, 0, none⟩) 1 1)) rfl) ?_
 refine WT.s (Op1.one rfl (Wn.no rfl) ?_)
 refine WL.call Try.call53 rfl rfl (c_joined (some ⟨bl, 0, none⟩) 1 1 [(.slice ra rn rc)] [rb] rfl (by omega) (by omega) _ (viewB (h_8.ok _ M7) Sg.h) (Sls.cons hrb (h_8.own M8).2.2.1 (ownView (h_8.ok _ M8)) Sls.nil)) rfl ?_
 rintro _ w_12 ⟨a_10, cap_11, rfl, hc_13, ho_14⟩
 have h_15 := h_8.gotRow hc_13 ho_14
 refine WL.nil ?_
 refine ⟨(SL.cons (h_15.ok _ M2) (SL.cons (h_15.ok _ M8) (SL.cons (h_15.ok _ M9) (SL.nil _ _)))), ?_⟩
 refine qT rfl rfl (fun wq hS => R.buildS (pl := [(0, 1), (1, 32), (33, 1), (34, 1)]) (zs := [(1, [(vi 0)]), (32, (List.replicate 32 (0 : UInt8)).map vu8), (1, [(vi 0)]), (1, [(.slice none 0 0)])]) (vs := [(0, (vi 2)), (1, (.agg ⟨key.map vu8⟩)), (2, (vi dm)), (3, (.slice a_10 ([rb].flatten.length) cap_11))]) (out := [(1, [(vi 2)]), (32, key.map vu8), (1, [(vi dm)]), (1, [(.slice a_10 ([rb].flatten.length) cap_11)])]) (cs := flat [(1, [(vi 2)]), (32, key.map vu8), (1, [(vi dm)]), (1, [(.slice a_10 ([rb].flatten.length) cap_11)])]) Try.underlying103 (zv Try.typeInfo103 rfl) rfl (SsOk.cons (SOk.v rfl) (SsOk.cons (SOk.u8 lr) (SsOk.cons (SOk.v rfl) (SsOk.cons (SOk.v rfl) SsOk.nil)))) (pl103 _ Try.underlying103) rfl (FillR.cons [] [(1, [(vi 0)])] [(1, [(vi 2)])] [(32, (List.replicate 32 (0 : UInt8)).map vu8), (1, [(vi 0)]), (1, [(.slice none 0 0)])] rfl rfl rfl rfl (SsOk.cons (SOk.v rfl) SsOk.nil) rfl rfl rfl (FillR.cons [(1, [(vi 2)])] [(32, (List.replicate 32 (0 : UInt8)).map vu8)] [(32, key.map vu8)] [(1, [(vi 0)]), (1, [(.slice none 0 0)])] rfl rfl rfl rfl (SsOk.cons (SOk.u8 hk) SsOk.nil) rfl rfl rfl (FillR.cons [(1, [(vi 2)]), (32, key.map vu8)] [(1, [(vi 0)])] [(1, [(vi dm)])] [(1, [(.slice none 0 0)])] rfl rfl rfl rfl (SsOk.cons (SOk.v rfl) SsOk.nil) rfl rfl rfl (FillR.cons [(1, [(vi 2)]), (32, key.map vu8), (1, [(vi dm)])] [(1, [(.slice none 0 0)])] [(1, [(.slice a_10 ([rb].flatten.length) cap_11)])] [] rfl rfl rfl rfl (SsOk.cons (SOk.v rfl) SsOk.nil) rfl rfl rfl FillR.nil)))) rfl) ?_
 refine WT.s (Op1.one rfl (Wn.no rfl) ?_)
 have h_17 := h_15.rowView
 have h_22 := ((((h_17.up J7).up J7).up J7).up J7).up J7
 have h32_w_26 := (Lgs.ok32 (h_22.ok _ M3).1)
 refine WL.call Try.call48 rfl rfl (c_oAsk id ob mp ms df hms da dn dc u hdf la lc lx lg hu hlg 2 dm key ([rb].flatten) a_10 ([rb].flatten.length) cap_11 ⟨hk, by show (1 : Int) ≤ 2 ∧ (2 : Int) ≤ 4; omega, by show (1 : Int) ≤ dm ∧ (dm : Int) ≤ 16; omega, by show List.length ([rb].flatten) ≤ 1000000000; first | decide | (simp only [List.length_append, leN_len]; omega) | omega⟩ (rfl : List.length ([rb].flatten) = [rb].flatten.length) (by decide) (fun h => by omega) _ h_22) rfl ?_
 rintro _ w_26 ⟨la_23, lc_24, lx_25, rfl, h_27⟩
 refine WL.nil ?_
 refine ⟨(SL.cons (h_27.ok _ M7) (SL.cons (h_27.ok _ M8) (SL.cons (h_27.ok _ M9) (SL.nil _ _)))), ?_⟩
 refine qT rfl rfl (fun wq hS => R.extract rfl rfl) ?_
 refine qT rfl rfl (fun wq hS => R.extract rfl rfl) ?_
 refine WT.s (Op1.one rfl (Wn.no rfl) ?_)
 refine WL.storeA (b := b_4) (off := 0) [] [(32, (List.replicate 32 (0 : UInt8)).map vu8)] [(32, (anD id df dn u lg (2, key, dm, ([rb].flatten))).map vu8)] [] (ys := (anD id df dn u lg (2, key, dm, ([rb].flatten))).map vu8) h_27 rfl rfl Try.sizeOf23 Y6 (by decide) rfl rfl rfl rfl rfl rfl (SsOk.cons (SOk.u8 (anD_len hdf h32_w_26)) SsOk.nil) (fun w_28 h_29 => ?_)
 refine WL.nil ?_
 refine ⟨(SL.cons (h_29.ok _ M7) (SL.cons (h_29.ok _ M8) (SL.cons (h_29.ok _ M9) (SL.nil _ _)))), ?_⟩
 refine qT rfl rfl (fun wq hS => R.assign (v := (vi 0)) rfl) ?_
 refine WT.nil (thn_n (WP.ret ?_))
 refine ret_of Try.results21 (RV.cell rfl (h_29.loadA (cs := (anD id df dn u lg (2, key, dm, ([rb].flatten))).map vu8) Try.isAgg23 Try.sizeOf23 M6 rfl rfl) (RV.tmp (v := (vi 0)) rfl RV.nil)) ?_
 have h_42 := ((((((((((((h_29.up J5).drop rfl).up J5).drop rfl).up J5).drop rfl).up J6).up J6).up J6).up J6).up J6).up J6).up J6
 exact ⟨_, _, _, rfl, h_42⟩

theorem c_oTag1p {w00 : World} {L : List Ent} (id : Bool) (ob mp : Nat) (ms df : List UInt8) (hms : ms.length = 32) (da : Option Addr) (dn dc u : Nat) (hdf : df.length = 32 * dn) (la : Option Addr) (lc : Nat) (lx : List Value) (lg : Lg) (hu : u ≤ 1000000) (hlg : lg.length ≤ 1000000) (key : List UInt8) (hk : key.length = 32) (dm : Int) (hdm : 1 ≤ dm ∧ dm ≤ 16) (bl : Nat) (ra : Option Addr) (rn rk rc rc2 : Nat) (rb : List UInt8) (hrb : rb.length = rn) (hrk : rk ≤ rn) (hkc : rk ≤ rc) (hrn : rn ≤ 100000) (w : World) (h_0 : HP w00 w (Ent.blk ob .nw 50 [(1, [(.bool id)]), (32, ms.map vu8), (1, [(.slice da dn dc)]), (1, [(vi ((u : Nat) : Int))]), (1, [(.map (some mp))]), (1, [(.slice la lg.length lc)])] :: Ent.row la lg.length lc 111 67 lx :: Ent.obj mp .nw (.map (mArr lg) lg.length) :: Ent.pin (sblks lx) (fun w => Lgs w lx lg) :: Ent.view da (df.map vu8) :: Ent.blk bl .nw 37 [(1, [(.slice ra rk rc)])] :: Ent.row ra rn rc2 5 1 (rb.map vu8) :: L)) :
  Cs Try.prog 21 [(.pointer (some ⟨ob, 0, none⟩)), (.agg ⟨key.map vu8⟩), (vi dm), (.slice (some ⟨bl, 0, none⟩) 1 1)].toArray w (fun v w1 => ∃ la' lc' lx', v = (.tuple [(.agg ⟨(anD id df dn u lg (2, key, dm, [rb.take rk].flatten)).map vu8⟩), (vi 0)].toArray) ∧ HP w00 w1 (Ent.blk ob .nw 50 [(1, [(.bool id)]), (32, ms.map vu8), (1, [(.slice da dn dc)]), (1, [(vi (((anU id u lg (2, key, dm, [rb.take rk].flatten)) : Nat) : Int))]), (1, [(.map (some mp))]), (1, [(.slice la' ((anL id df dn u lg (2, key, dm, [rb.take rk].flatten)).length) lc')])] :: Ent.row la' ((anL id df dn u lg (2, key, dm, [rb.take rk].flatten)).length) lc' 111 67 lx' :: Ent.obj mp .nw (.map (mArr (anL id df dn u lg (2, key, dm, [rb.take rk].flatten))) ((anL id df dn u lg (2, key, dm, [rb.take rk].flatten)).length)) :: Ent.pin (sblks lx') (fun w => Lgs w lx' (anL id df dn u lg (2, key, dm, [rb.take rk].flatten))) :: Ent.view da (df.map vu8) :: Ent.blk bl .nw 37 [(1, [(.slice ra rk rc)])] :: Ent.row ra rn rc2 5 1 (rb.map vu8) :: L)) := by
 have hfl : [rb.take rk].flatten.length = rk := by simp [hrb]; omega
 refine Cs.of (n := 19) (args := [(pO ob 0), (.agg ⟨key.map vu8⟩), (vi dm), (.slice (some ⟨bl, 0, none⟩) 1 1)]) Try.func21 rfl rfl rfl ?_
 refine WP.seq (WP.reg ?_)
 refine WL.box (v := (.agg ⟨key.map vu8⟩)) (segs := [(32, key.map vu8)]) h_0 rfl rfl (SsOk.cons (SOk.u8 hk) SsOk.nil) rfl (fun b_1 w_2 h_3 => ?_)
 refine WL.alloc (segs := [(32, (List.replicate 32 (0 : UInt8)).map vu8)]) h_3 (zv Try.typeInfo23 rfl) rfl (SsOk.cons (SOk.u8 lr) SsOk.nil) rfl (fun b_4 w_5 h_6 => ?_)
 refine qA (vi 0) rfl rfl ?_
 refine WL.nil (thn_n (WP.seq ?_))
 refine WP.drawT (SL w00.heap.size [.blk b_1 .nw 23 [(32, key.map vu8)], .blk bl .nw 37 [(1, [(.slice ra rk rc)])], .row ra rn rc2 5 1 (rb.map vu8)]) (.q 0 (.q 1 (.q 2 (.q 3 (.s 4 (.q 5 (.s 6 (.q 7 (.q 8 (.s 9 (.q 10 .nil))))))))))) (by kernel_rfl) (by kernel_rfl) rfl (by kernel_rfl) (fun w_7 hc_9 => (SL.cons ((h_6.same hc_9).ok _ M1) (SL.cons ((h_6.same hc_9).ok _ M7) (SL.cons ((h_6.same hc_9).ok _ M8) (SL.nil _ _))))) (fun w_7 hc_9 => ?_)
 have h_8 := h_6.same hc_9
 refine qT rfl rfl (fun wq hS => R.move (v := (pO ob 0)) rfl) ?_
 refine qT rfl rfl (fun wq hS => R.loadA (b := b_1) (off := 0) [] [(32, key.map vu8)] [] (cs := key.map vu8) rfl Try.isAgg23 Try.sizeOf23 (hS _ M0) rfl rfl rfl rfl) ?_
 refine qT rfl rfl (fun wq hS => R.move (v := (vi dm)) rfl) ?_
 refine qT rfl rfl (fun wq hS => R.move (v := (.slice (some ⟨bl, 0, none⟩) 1 1)) rfl) ?_
 refine WT.s (Op1.one rfl (Wn.no rfl) ?_)
 refine WL.call Try.call53 rfl rfl (c_joined (some ⟨bl, 0, none⟩) 1 1 [(.slice ra rk rc)] [rb.take rk] rfl (by omega) (by omega) _ (viewB (h_8.ok _ M7) Sg.h) (Sls.cons (by rw [List.length_take, hrb]; omega) hkc (View.pfx rk (ownView (h_8.ok _ M8))) Sls.nil)) rfl ?_
 rintro _ w_12 ⟨a_10, cap_11, rfl, hc_13, ho_14⟩
 have h_15 := h_8.gotRow hc_13 ho_14
 refine WL.nil ?_
 refine ⟨(SL.cons (h_15.ok _ M2) (SL.cons (h_15.ok _ M8) (SL.cons (h_15.ok _ M9) (SL.nil _ _)))), ?_⟩
 refine qT rfl rfl (fun wq hS => R.buildS (pl := [(0, 1), (1, 32), (33, 1), (34, 1)]) (zs := [(1, [(vi 0)]), (32, (List.replicate 32 (0 : UInt8)).map vu8), (1, [(vi 0)]), (1, [(.slice none 0 0)])]) (vs := [(0, (vi 2)), (1, (.agg ⟨key.map vu8⟩)), (2, (vi dm)), (3, (.slice a_10 ([rb.take rk].flatten.length) cap_11))]) (out := [(1, [(vi 2)]), (32, key.map vu8), (1, [(vi dm)]), (1, [(.slice a_10 ([rb.take rk].flatten.length) cap_11)])]) (cs := flat [(1, [(vi 2)]), (32, key.map vu8), (1, [(vi dm)]), (1, [(.slice a_10 ([rb.take rk].flatten.length) cap_11)])]) Try.underlying103 (zv Try.typeInfo103 rfl) rfl (SsOk.cons (SOk.v rfl) (SsOk.cons (SOk.u8 lr) (SsOk.cons (SOk.v rfl) (SsOk.cons (SOk.v rfl) SsOk.nil)))) (pl103 _ Try.underlying103) rfl (FillR.cons [] [(1, [(vi 0)])] [(1, [(vi 2)])] [(32, (List.replicate 32 (0 : UInt8)).map vu8), (1, [(vi 0)]), (1, [(.slice none 0 0)])] rfl rfl rfl rfl (SsOk.cons (SOk.v rfl) SsOk.nil) rfl rfl rfl (FillR.cons [(1, [(vi 2)])] [(32, (List.replicate 32 (0 : UInt8)).map vu8)] [(32, key.map vu8)] [(1, [(vi 0)]), (1, [(.slice none 0 0)])] rfl rfl rfl rfl (SsOk.cons (SOk.u8 hk) SsOk.nil) rfl rfl rfl (FillR.cons [(1, [(vi 2)]), (32, key.map vu8)] [(1, [(vi 0)])] [(1, [(vi dm)])] [(1, [(.slice none 0 0)])] rfl rfl rfl rfl (SsOk.cons (SOk.v rfl) SsOk.nil) rfl rfl rfl (FillR.cons [(1, [(vi 2)]), (32, key.map vu8), (1, [(vi dm)])] [(1, [(.slice none 0 0)])] [(1, [(.slice a_10 ([rb.take rk].flatten.length) cap_11)])] [] rfl rfl rfl rfl (SsOk.cons (SOk.v rfl) SsOk.nil) rfl rfl rfl FillR.nil)))) rfl) ?_
 refine WT.s (Op1.one rfl (Wn.no rfl) ?_)
 have h_17 := h_15.rowView
 have h_22 := ((((h_17.up J7).up J7).up J7).up J7).up J7
 have h32_w_26 := (Lgs.ok32 (h_22.ok _ M3).1)
 refine WL.call Try.call48 rfl rfl (c_oAsk id ob mp ms df hms da dn dc u hdf la lc lx lg hu hlg 2 dm key ([rb.take rk].flatten) a_10 ([rb.take rk].flatten.length) cap_11 ⟨hk, by show (1 : Int) ≤ 2 ∧ (2 : Int) ≤ 4; omega, by show (1 : Int) ≤ dm ∧ (dm : Int) ≤ 16; omega, by show List.length ([rb.take rk].flatten) ≤ 1000000000; first | decide | (simp only [List.length_append, leN_len]; omega) | omega⟩ (rfl : List.length ([rb.take rk].flatten) = [rb.take rk].flatten.length) (by decide) (fun h => by omega) _ h_22) rfl ?_
 rintro _ w_26 ⟨la_23, lc_24, lx_25, rfl, h_27⟩
 refine WL.nil ?_
 refine ⟨(SL.cons (h_27.ok _ M7) (SL.cons (h_27.ok _ M8) (SL.cons (h_27.ok _ M9) (SL.nil _ _)))), ?_⟩
 refine qT rfl rfl (fun wq hS => R.extract rfl rfl) ?_
 refine qT rfl rfl (fun wq hS => R.extract rfl rfl) ?_
 refine WT.s (Op1.one rfl (Wn.no rfl) ?_)
 refine WL.storeA (b := b_4) (off := 0) [] [(32, (List.replicate 32 (0 : UInt8)).map vu8)] [(32, (anD id df dn u lg (2, key, dm, ([rb.take rk].flatten))).map vu8)] [] (ys := (anD id df dn u lg (2, key, dm, ([rb.take rk].flatten))).map vu8) h_27 rfl rfl Try.sizeOf23 Y6 (by decide) rfl rfl rfl rfl rfl rfl (SsOk.cons (SOk.u8 (anD_len hdf h32_w_26)) SsOk.nil) (fun w_28 h_29 => ?_)
 refine WL.nil ?_
 refine ⟨(SL.cons (h_29.ok _ M7) (SL.cons (h_29.ok _ M8) (SL.cons (h_29.ok _ M9) (SL.nil _ _)))), ?_⟩
 refine qT rfl rfl (fun wq hS => R.assign (v := (vi 0)) rfl) ?_
 refine WT.nil (thn_n (WP.ret ?_))
 refine ret_of Try.results21 (RV.cell rfl (h_29.loadA (cs := (anD id df dn u lg (2, key, dm, ([rb.take rk].flatten))).map vu8) Try.isAgg23 Try.sizeOf23 M6 rfl rfl) (RV.tmp (v := (vi 0)) rfl RV.nil)) ?_
 have h_42 := ((((((((((((h_29.up J5).drop rfl).up J5).drop rfl).up J5).drop rfl).up J6).up J6).up J6).up J6).up J6).up J6).up J6
 exact ⟨_, _, _, rfl, h_42⟩

theorem c_rB1 {w00 : World} {L : List Ent} (a : Option Addr) (n cap : Nat) (bs : List UInt8) (hl : bs.length = n) (bo : Nat) (oa : Option Addr) (on oc : Nat) (cur : List UInt8) (hcur : cur.length = on) (hn : n ≤ 1000) (hon : on ≤ 1000) (w : World) (hv : View w a (bs.map vu8)) (h_0 : HP w00 w (Ent.blk bo .nw 37 [(1, [(.slice oa on oc)])] :: Ent.row oa on oc 5 1 ((cur).map vu8) :: L)) :
  Cs Try.prog 77 [(.slice a n cap), (.pointer (some ⟨bo, 0, none⟩))].toArray w (fun v w1 => ∃ oa' oc', v = .tuple [].toArray ∧ HP w00 w1 (Ent.blk bo .nw 37 [(1, [(.slice oa' (on + n) oc')])] :: Ent.row oa' (on + n) oc' 5 1 ((cur ++ bs).map vu8) :: L)) := by
 refine Cs.of (n := 6) (args := [(.slice a n cap), (pO bo 0)]) Try.func77 rfl rfl rfl ?_
 refine WP.reg ?_
 refine qV rfl (R.load1 (b := bo) (off := 0) (v := (.slice oa on oc)) rfl Try.isAgg37 (h_0.ok _ M0) Sg.h) (qM (.slice a n cap) rfl rfl ?_)
 refine WL.append (km := on + n) (xs := (cur).map vu8) (ys := bs.map vu8) (zs := (cur ++ bs).map vu8) h_0 rfl rfl el37 hv ((len_map hl).trans (Nat.mul_one _).symm) (one_u8 _) (by simp only [List.map_append, List.map_nil]) (by omega) (by omega) (by omega) (fun _ _ => Y1) rfl (fun a_1 c_2 w_3 h_4 => ?_)
 refine WL.store1 (b := bo) (off := 0) (v := (.slice a_1 (on + n) c_2)) h_4 rfl rfl Try.sizeOf37 rfl At.h (by decide) Sg.h (fun w_5 h_6 => ?_)
 refine WL.nil (ret_n ?_)
 refine ret_of Try.results77 RV.nil ?_
 have h_8 := (h_6.up J1).up J1
 exact ⟨_, _, rfl, h_8⟩

theorem c_rBytes (ins : UInt64) (me ch : List UInt8) (hme : me.length = 32) (hch : ch.length = 32) (w : World) :
  Cs Try.prog 46 [(.agg ⟨flat [(1, [(vu64 ins)]), (32, me.map vu8), (32, ch.map vu8)]⟩)].toArray w (fun v w1 => ∃ a cap, v = .slice a 80 cap ∧ Chg w w1 [] ∧ Own w.heap.size w1 5 1 a 80 cap ((repB ins me ch).map vu8)) := by
 refine Cs.of (n := 34) (args := [(.agg ⟨flat [(1, [(vu64 ins)]), (32, me.map vu8), (32, ch.map vu8)]⟩)]) Try.func46 rfl rfl rfl ?_
 have h_0 := HP.init w
 refine WP.seq (WP.reg ?_)
 refine WL.box (v := (.agg ⟨flat [(1, [(vu64 ins)]), (32, me.map vu8), (32, ch.map vu8)]⟩)) (segs := [(1, [(vu64 ins)]), (32, me.map vu8), (32, ch.map vu8)]) h_0 rfl rfl (SsOk.cons (SOk.v rfl) (SsOk.cons (SOk.u8 hme) (SsOk.cons (SOk.u8 hch) SsOk.nil))) rfl (fun b_1 w_2 h_3 => ?_)
 refine qA (.slice none 0 0) rfl rfl ?_
 refine WL.nil (thn_n (WP.seq (WP.reg ?_)))
 refine qV rfl (R.fieldAddr (b := b_1) (off := 0) (off' := 0) rfl Try.underlying30 rfl Try.sizeOf28 rfl rfl) (qV rfl (R.load1 (b := b_1) (off := 0) (v := (vu64 ins)) rfl Try.isAgg28 (h_3.ok _ M0) Sg.h) ?_)
 refine WL.call Try.call76 rfl rfl (c_Put_b ins 8 rfl _) rfl ?_
 rintro _ w_6 ⟨a_4, cap_5, rfl, hc_7, ho_8⟩
 have h_9 := h_3.gotRow hc_7 ho_8
 refine qM (.tuple [(.slice a_4 8 cap_5), (vi 0)].toArray) rfl rfl (qV rfl (R.extract rfl rfl) (qV rfl (R.extract rfl rfl) (qA (.slice a_4 8 cap_5) rfl rfl (qA (vi 0) rfl rfl ?_))))
 refine WL.nil (thn_n (WP.seq (WP.reg ?_)))
 refine WL.alloc (segs := [(1, [(.slice none 0 0)])]) h_9 (zv Try.typeInfo37 rfl) rfl (SsOk.cons (SOk.v rfl) SsOk.nil) rfl (fun b_10 w_11 h_12 => ?_)
 refine WL.nil (thn_n (WP.seq (WP.reg ?_)))
 refine qV rfl (R.makeFuncL (fi := []) (ca := [(pO b_10 0)]) rfl rfl) (qA (Value.func (Fn.func 77) [].toArray [(Value.pointer (some ⟨b_10, 0, none⟩))].toArray) rfl rfl ?_)
 refine WL.nil (thn_n (WP.seq (WP.seq ?_)))
 refine WP.drawT (SL w.heap.size [.blk b_10 .nw 37 [(1, [(.slice none 0 0)])], .row a_4 8 cap_5 5 1 ((leN 8 ins.toNat).map vu8), .blk b_1 .nw 30 [(1, [(vu64 ins)]), (32, me.map vu8), (32, ch.map vu8)]]) (.q 2 (.q 3 (.q 4 (.q 5 (.q 6 (.q 9 (.s 0 (.s 1 (.s 7 (.q 8 .nil)))))))))) (by kernel_rfl) (by kernel_rfl) rfl (by kernel_rfl) (fun w_13 hc_15 => (SL.cons ((h_12.same hc_15).ok _ M0) (SL.cons ((h_12.same hc_15).ok _ M1) (SL.cons ((h_12.same hc_15).ok _ M2) (SL.nil _ _))))) (fun w_13 hc_15 => ?_)
 have h_14 := h_12.same hc_15
 refine qT rfl rfl (fun wq hS => R.move (v := (.slice a_4 8 cap_5)) rfl) ?_
 refine qT rfl rfl (fun wq hS => R.fieldAddr (b := b_1) (off := 0) (off' := 1) rfl Try.underlying30 rfl Try.sizeOf23 rfl rfl) ?_
 refine qT rfl rfl (fun wq hS => R.sliceA (b := b_1) (off := 1) (off' := 1) (l := 0) (h := 32) rfl EvB.dflt EvB.dflt (by decide) (by decide) Try.underlying23 Try.sizeOf5 rfl) ?_
 refine qT rfl rfl (fun wq hS => R.fieldAddr (b := b_1) (off := 0) (off' := 33) rfl Try.underlying30 rfl Try.sizeOf23 rfl rfl) ?_
 refine qT rfl rfl (fun wq hS => R.sliceA (b := b_1) (off := 33) (off' := 33) (l := 0) (h := 32) rfl EvB.dflt EvB.dflt (by decide) (by decide) Try.underlying23 Try.sizeOf5 rfl) ?_
 refine qT rfl rfl (fun wq hS => R.move (v := (vi 0)) rfl) ?_
 refine WT.s (Op1.one rfl (Wn.no rfl) ?_)
 refine WL.buildSl (vs := [(0, (vu8 114)), (1, (vu8 101)), (2, (vu8 112)), (3, (vu8 111)), (4, (vu8 114)), (5, (vu8 116)), (6, (vu8 0)), (7, (vu8 0))]) (cs := ([114, 101, 112, 111, 114, 116, 0, 0] : List UInt8).map vu8) h_14 Try.underlying37 Try.sizeOf5 (zv Try.typeInfo5 rfl) rfl rfl (by kernel_rfl) rfl (one_u8 _) rfl rfl (fun b_16 w_17 h_18 => ?_)
 refine WL.nil ?_
 refine ⟨(SL.cons (h_18.ok _ M1) (SL.cons (h_18.ok _ M2) (SL.cons (h_18.ok _ M3) (SL.nil _ _)))), ?_⟩
 refine WT.s (Op1.one rfl (Wn.no rfl) ?_)
 refine WL.convSl h_18 rfl Try.underlying37 Try.underlying5 At.h (by decide) rfl (fun w_19 h_20 => ?_)
 refine WL.nil ?_
 refine ⟨(SL.cons (h_20.ok _ M1) (SL.cons (h_20.ok _ M2) (SL.cons (h_20.ok _ M3) (SL.nil _ _)))), ?_⟩
 refine WT.s (Op1.one rfl (Wn.no rfl) ?_)
 refine WL.buildSl (vs := [(0, (.slice (some ⟨b_16, 0, none⟩) 8 8)), (1, (.slice a_4 8 cap_5)), (2, (.slice (some ⟨b_1, 1, none⟩) 32 32)), (3, (.slice (some ⟨b_1, 33, none⟩) 32 32))]) (cs := [(.slice (some ⟨b_16, 0, none⟩) 8 8), (.slice a_4 8 cap_5), (.slice (some ⟨b_1, 1, none⟩) 32 32), (.slice (some ⟨b_1, 33, none⟩) 32 32)]) h_20 Try.underlying36 Try.sizeOf37 (zv Try.typeInfo37 rfl) rfl rfl (by kernel_rfl) rfl (by simp [Value.oneCell']) rfl rfl (fun b_21 w_22 h_23 => ?_)
 refine WL.nil ?_
 refine ⟨(SL.cons (h_23.ok _ M2) (SL.cons (h_23.ok _ M3) (SL.cons (h_23.ok _ M4) (SL.nil _ _)))), ?_⟩
 refine qT rfl rfl (fun wq hS => R.lenS (a := some ⟨b_21, 0, none⟩) (m := 4) rfl rfl Try.underlying36) ?_
 refine WT.nil (thn_n (WP.block ?_))
 refine WP.loopU (WI.round ?_)
 refine WP.seq (WP.reg ?_)
 refine qV rfl (R.bin rfl rfl (bi_lss (r := true) (by decide))) ?_
 refine WL.nil (thn_n (WP.seq ?_))
 refine WP.condT rfl ?_
 refine WP.skip (thn_n (WP.seq (WP.block (WP.seq (WP.reg ?_)))))
 refine qV rfl (R.indexP (b := b_21) (off := 0) (off' := 0) (i := 0) rfl rfl rfl (by decide) Try.underlying36 Try.sizeOf37 rfl) (qV rfl (R.loadE (b := b_21) (off := 0) (i := 0) (v := (.slice (some ⟨b_16, 0, none⟩) 8 8)) rfl Try.isAgg37 (h_23.ok _ M0) Sg.h rfl rfl) (qA (.slice (some ⟨b_16, 0, none⟩) 8 8) rfl rfl ?_))
 refine WL.nil (thn_n (WP.reg ?_))
 refine qM (Value.func (Fn.func 77) [].toArray [(Value.pointer (some ⟨b_10, 0, none⟩))].toArray) rfl rfl (qM (.slice (some ⟨b_16, 0, none⟩) 8 8) rfl rfl ?_)
 have h_24 := h_23.rowNil 5 1
 have h_25 := h_24.up J3
 refine WL.call Try.call77 rfl rfl (c_rB1 (some ⟨b_16, 0, none⟩) 8 8 ([114, 101, 112, 111, 114, 116, 0, 0] : List UInt8) (rfl : List.length ([114, 101, 112, 111, 114, 116, 0, 0] : List UInt8) = 8) b_10 none 0 0 ([] : List UInt8) (rfl : List.length ([] : List UInt8) = 0) (by omega) (by omega) _ (viewB (h_25.ok _ M3) Sg.h) h_25) rfl ?_
 rintro _ w_28 ⟨a_26, c_27, rfl, h_29⟩
 refine WL.nil (inb_n (thn_n (WP.reg ?_)))
 refine qV rfl (R.bin rfl rfl (bi_add (c := 1) (by omega) (by omega))) (qM (vi 1) rfl rfl ?_)
 refine WL.nil (thn_n ?_)
 refine WI.round ?_
 refine WP.seq (WP.reg ?_)
 refine qV rfl (R.bin rfl rfl (bi_lss (r := true) (by decide))) ?_
 refine WL.nil (thn_n (WP.seq ?_))
 refine WP.condT rfl ?_
 refine WP.skip (thn_n (WP.seq (WP.block (WP.seq (WP.reg ?_)))))
 refine qV rfl (R.indexP (b := b_21) (off := 0) (off' := 1) (i := 1) rfl rfl rfl (by decide) Try.underlying36 Try.sizeOf37 rfl) (qV rfl (R.loadE (b := b_21) (off := 1) (i := 1) (v := (.slice a_4 8 cap_5)) rfl Try.isAgg37 (h_29.ok _ M2) Sg.h rfl rfl) (qA (.slice a_4 8 cap_5) rfl rfl ?_))
 refine WL.nil (thn_n (WP.reg ?_))
 refine qM (Value.func (Fn.func 77) [].toArray [(Value.pointer (some ⟨b_10, 0, none⟩))].toArray) rfl rfl (qM (.slice a_4 8 cap_5) rfl rfl ?_)
 have h_31 := (h_29.up J1).up J1
 refine WL.call Try.call77 rfl rfl (c_rB1 a_4 8 cap_5 (leN 8 ins.toNat) (leN_len ..) b_10 a_26 8 c_27 (([] : List UInt8) ++ ([114, 101, 112, 111, 114, 116, 0, 0] : List UInt8)) (lenApp (a := 0) (b := 8) (rfl : List.length ([] : List UInt8) = 0) (rfl : List.length ([114, 101, 112, 111, 114, 116, 0, 0] : List UInt8) = 8) (by omega) : List.length (([] : List UInt8) ++ ([114, 101, 112, 111, 114, 116, 0, 0] : List UInt8)) = 8) (by omega) (by omega) _ (ownView (h_31.ok _ M4)) h_31) rfl ?_
 rintro _ w_34 ⟨a_32, c_33, rfl, h_35⟩
 refine WL.nil (inb_n (thn_n (WP.reg ?_)))
 refine qV rfl (R.bin rfl rfl (bi_add (c := 2) (by omega) (by omega))) (qM (vi 2) rfl rfl ?_)
 refine WL.nil (thn_n ?_)
 refine WI.round ?_
 refine WP.seq (WP.reg ?_)
 refine qV rfl (R.bin rfl rfl (bi_lss (r := true) (by decide))) ?_
 refine WL.nil (thn_n (WP.seq ?_))
 refine WP.condT rfl ?_
 refine WP.skip (thn_n (WP.seq (WP.block (WP.seq (WP.reg ?_)))))
 refine qV rfl (R.indexP (b := b_21) (off := 0) (off' := 2) (i := 2) rfl rfl rfl (by decide) Try.underlying36 Try.sizeOf37 rfl) (qV rfl (R.loadE (b := b_21) (off := 2) (i := 2) (v := (.slice (some ⟨b_1, 1, none⟩) 32 32)) rfl Try.isAgg37 (h_35.ok _ M2) Sg.h rfl rfl) (qA (.slice (some ⟨b_1, 1, none⟩) 32 32) rfl rfl ?_))
 refine WL.nil (thn_n (WP.reg ?_))
 refine qM (Value.func (Fn.func 77) [].toArray [(Value.pointer (some ⟨b_10, 0, none⟩))].toArray) rfl rfl (qM (.slice (some ⟨b_1, 1, none⟩) 32 32) rfl rfl ?_)
 have h_37 := (h_35.up J1).up J1
 refine WL.call Try.call77 rfl rfl (c_rB1 (some ⟨b_1, 1, none⟩) 32 32 me hme b_10 a_32 16 c_33 ((([] : List UInt8) ++ ([114, 101, 112, 111, 114, 116, 0, 0] : List UInt8)) ++ (leN 8 ins.toNat)) (lenApp (a := 8) (b := 8) (lenApp (a := 0) (b := 8) (rfl : List.length ([] : List UInt8) = 0) (rfl : List.length ([114, 101, 112, 111, 114, 116, 0, 0] : List UInt8) = 8) (by omega) : List.length (([] : List UInt8) ++ ([114, 101, 112, 111, 114, 116, 0, 0] : List UInt8)) = 8) (leN_len ..) (by omega) : List.length ((([] : List UInt8) ++ ([114, 101, 112, 111, 114, 116, 0, 0] : List UInt8)) ++ (leN 8 ins.toNat)) = 16) (by omega) (by omega) _ (viewB (h_37.ok _ M5) (Sg.t rfl Sg.h)) h_37) rfl ?_
 rintro _ w_40 ⟨a_38, c_39, rfl, h_41⟩
 refine WL.nil (inb_n (thn_n (WP.reg ?_)))
 refine qV rfl (R.bin rfl rfl (bi_add (c := 3) (by omega) (by omega))) (qM (vi 3) rfl rfl ?_)
 refine WL.nil (thn_n ?_)
 refine WI.round ?_
 refine WP.seq (WP.reg ?_)
 refine qV rfl (R.bin rfl rfl (bi_lss (r := true) (by decide))) ?_
 refine WL.nil (thn_n (WP.seq ?_))
 refine WP.condT rfl ?_
 refine WP.skip (thn_n (WP.seq (WP.block (WP.seq (WP.reg ?_)))))
 refine qV rfl (R.indexP (b := b_21) (off := 0) (off' := 3) (i := 3) rfl rfl rfl (by decide) Try.underlying36 Try.sizeOf37 rfl) (qV rfl (R.loadE (b := b_21) (off := 3) (i := 3) (v := (.slice (some ⟨b_1, 33, none⟩) 32 32)) rfl Try.isAgg37 (h_41.ok _ M2) Sg.h rfl rfl) (qA (.slice (some ⟨b_1, 33, none⟩) 32 32) rfl rfl ?_))
 refine WL.nil (thn_n (WP.reg ?_))
 refine qM (Value.func (Fn.func 77) [].toArray [(Value.pointer (some ⟨b_10, 0, none⟩))].toArray) rfl rfl (qM (.slice (some ⟨b_1, 33, none⟩) 32 32) rfl rfl ?_)
 have h_43 := (h_41.up J1).up J1
 refine WL.call Try.call77 rfl rfl (c_rB1 (some ⟨b_1, 33, none⟩) 32 32 ch hch b_10 a_38 48 c_39 (((([] : List UInt8) ++ ([114, 101, 112, 111, 114, 116, 0, 0] : List UInt8)) ++ (leN 8 ins.toNat)) ++ me) (lenApp (a := 16) (b := 32) (lenApp (a := 8) (b := 8) (lenApp (a := 0) (b := 8) (rfl : List.length ([] : List UInt8) = 0) (rfl : List.length ([114, 101, 112, 111, 114, 116, 0, 0] : List UInt8) = 8) (by omega) : List.length (([] : List UInt8) ++ ([114, 101, 112, 111, 114, 116, 0, 0] : List UInt8)) = 8) (leN_len ..) (by omega) : List.length ((([] : List UInt8) ++ ([114, 101, 112, 111, 114, 116, 0, 0] : List UInt8)) ++ (leN 8 ins.toNat)) = 16) hme (by omega) : List.length (((([] : List UInt8) ++ ([114, 101, 112, 111, 114, 116, 0, 0] : List UInt8)) ++ (leN 8 ins.toNat)) ++ me) = 48) (by omega) (by omega) _ (viewB (h_43.ok _ M5) (Sg.t rfl (Sg.t rfl Sg.h))) h_43) rfl ?_
 rintro _ w_46 ⟨a_44, c_45, rfl, h_47⟩
 refine WL.nil (inb_n (thn_n (WP.reg ?_)))
 refine qV rfl (R.bin rfl rfl (bi_add (c := 4) (by omega) (by omega))) (qM (vi 4) rfl rfl ?_)
 refine WL.nil (thn_n ?_)
 refine WI.round ?_
 refine WP.seq (WP.reg ?_)
 refine qV rfl (R.bin rfl rfl (bi_lss (r := false) (by decide))) ?_
 refine WL.nil (thn_n (WP.seq ?_))
 refine WP.condF rfl ?_
 refine WP.exit (thn_x (thn_x (inb_hit (thn_n (WP.seq (WP.reg ?_))))))
 refine qV rfl (R.load1 (b := b_10) (off := 0) (v := (.slice a_44 80 c_45)) rfl Try.isAgg37 (h_47.ok _ M0) Sg.h) (qA (.slice a_44 80 c_45) rfl rfl ?_)
 refine WL.nil (thn_n (WP.ret ?_))
 refine ret_of Try.results46 (RV.tmp (v := (.slice a_44 80 c_45)) rfl RV.nil) ?_
 exact ⟨_, _, rfl, h_47.chgS, by first | exact h_47.ok _ M1 | (have hx := h_47.own M1; simpa [repB, markB] using hx)⟩

theorem me_len {bs : List UInt8} (h : 80 ≤ bs.length) : (me_of bs).length = 32 := by simp only [me_of, List.length_take, List.length_drop]; omega
theorem ch_len {bs : List UInt8} (h : 80 ≤ bs.length) : (ch_of bs).length = 32 := by simp only [ch_of, List.length_take, List.length_drop]; omega
theorem me_eq (bs : List UInt8) : (cutR bs).getD 2 [] = me_of bs := by simp [cutR, me_of]
theorem ch_eq (bs : List UInt8) : (cutR bs).getD 3 [] = ch_of bs := by simp [cutR, ch_of]
end Go.Proofs.Ytnhppjimimhlkaa

namespace Go.Proofs.Ytnhppjimimhlkaa
open Go.Vc Go.Orc Go.Sh Go.RowKit
set_option maxRecDepth 20000
theorem pl30 : ∀ fs, Try.prog.underlying 30 = some (.struct fs) → Places Try.prog fs [(0, 1), (1, 32), (33, 32)] := by
 intro fs h w; rw [Try.underlying30] at h; cases h; simp
theorem c_Of_ok (a : Option Addr) (cap : Nat) (bs : List UInt8) (hl : bs.length = 80) (hm : bs.take 8 = markB) (w : World) (hv : View w a (bs.map vu8)) :
  Cs Try.prog 51 [(.slice a 80 cap)].toArray w (fun v w1 => v = (.tuple [(.agg ⟨flat [(1, [(vu64 (ins_of bs))]), (32, (me_of bs).map vu8), (32, (ch_of bs).map vu8)]⟩), (vi 0)].toArray) ∧ Chg w w1 []) := by
 refine Cs.of (n := 43) (args := [(.slice a 80 cap)]) Try.func51 rfl rfl rfl ?_
 have h_0 := HP.init w
 have h_00 := h_0.old (View.arg hv) (fun f hf => by cases hf)
 refine WP.seq (WP.reg ?_)
 refine WL.alloc (segs := [(1, [(vu64 0)]), (32, (List.replicate 32 (0 : UInt8)).map vu8), (32, (List.replicate 32 (0 : UInt8)).map vu8)]) h_00 (zv Try.typeInfo30 rfl) rfl (SsOk.cons (SOk.v rfl) (SsOk.cons (SOk.u8 lr) (SsOk.cons (SOk.u8 lr) SsOk.nil))) rfl (fun b_1 w_2 h_3 => ?_)
 refine qA (vi 0) rfl rfl ?_
 refine WL.nil (thn_n (WP.seq (WP.reg ?_)))
 refine qM (.slice a 80 cap) rfl rfl ?_
 refine WL.buildSl (vs := [(0, (vi 8)), (1, (vi 8)), (2, (vi 32)), (3, (vi 32))]) (cs := ([8, 8, 32, 32] : List Int).map vi64) h_3 Try.underlying70 Try.sizeOf3 (zv Try.typeInfo3 rfl) rfl rfl (by kernel_rfl) rfl (one_i64 _) rfl rfl (fun b_4 w_5 h_6 => ?_)
 refine WL.call Try.call84 rfl rfl (c_Cut_t a 80 cap bs hl (by omega) (some ⟨b_4, 0, none⟩) 4 4 [8, 8, 32, 32] rfl (by omega) (cutR bs) (cutR_ok hl) _ (viewV (h_6.ok _ M2)) (viewB (h_6.ok _ M0) Sg.h)) rfl ?_
 rintro _ w_10 ⟨a_7, cap_8, xs_9, rfl, hc_11, hv_12, hs_13, hb_14⟩
 have h_16 := h_6.gotSls hc_11 hv_12 hs_13 hb_14
 have hxl_17 : xs_9.length = 4 := (Sls.len (h_16.ok _ M0).1).trans rfl
 refine qM (.tuple [(.slice a_7 ((cutR bs).length) cap_8), (vi 0)].toArray) rfl rfl (qV rfl (R.extract rfl rfl) (qV rfl (R.extract rfl rfl) (qA (.slice a_7 ((cutR bs).length) cap_8) rfl rfl (qA (vi 0) rfl rfl ?_))))
 refine WL.nil (thn_n (WP.seq (WP.seq (WP.reg ?_))))
 refine qM (vi 0) rfl rfl (qV rfl (R.bin rfl rfl (bi_neq (r := false) (by decide))) (qM (.bool false) rfl rfl ?_))
 refine WL.want rfl rfl ?_
 refine qM (.slice a_7 ((cutR bs).length) cap_8) rfl rfl ?_
 refine WL.want rfl rfl ?_
 refine qV rfl (R.indexS (a := a_7) (i := 0) (off := 0) (xs := xs_9) rfl rfl rfl (Nat.le_of_ble_eq_true rfl) (viewV (h_16.ok _ M1)) (by omega) Try.underlying36 Try.sizeOf37 (Nat.mul_one _).symm) ?_
 refine WL.want rfl rfl ?_
 obtain ⟨a_18, n_19, c_20, hx_21, hl_22, hn_23, hv_24, hb_25⟩ := Sls.get (i := 0) (h_16.ok _ M0).1 (Nat.le_of_ble_eq_true rfl)
 obtain rfl : n_19 = 8 := hl_22.symm.trans (cutR_at hl (i := 0) (by decide))
 have h_26 := h_16.within (e' := .view a_18 (((cutR bs).getD 0 []).map vu8)) M0 rfl (View.arg hv_24) rfl rfl (fun b hb_ => hb_25 _ (view_sblk hl_22 b hb_))
 refine qV rfl (R.loadG (a := a_7) (i := 0) (xs := xs_9) (v := (.slice a_18 8 c_20)) rfl (viewV (h_26.ok _ M2)) Try.isAgg37 hx_21) ?_
 refine WL.want rfl rfl ?_
 refine qV rfl (R.toStr (bs := (cutR bs).getD 0 []) rfl Try.underlying37 Try.underlying5 Try.underlying9 (viewV (h_26.ok _ M0)) hl_22) ?_
 refine WL.want rfl rfl ?_
 refine qV rfl (R.neStr (a := (cutR bs).getD 0 []) (b := ([114, 101, 112, 111, 114, 116, 0, 0] : List UInt8)) (r := false) rfl rfl (decide_eq_false (fun hn => hn hm))) (qV rfl (R.pickF (v := (.bool false)) rfl rfl) ?_)
 refine WL.nil (thn_n ?_)
 refine WP.condF rfl ?_
 refine WP.skip (thn_n (WP.seq (WP.reg ?_)))
 refine qM (.slice a_7 ((cutR bs).length) cap_8) rfl rfl (qV rfl (R.indexS (a := a_7) (i := 1) (off := 1) (xs := xs_9) rfl rfl rfl (Nat.le_of_ble_eq_true rfl) (viewV (h_26.ok _ M2)) (by omega) Try.underlying36 Try.sizeOf37 (Nat.mul_one _).symm) ?_)
 obtain ⟨a_27, n_28, c_29, hx_30, hl_31, hn_32, hv_33, hb_34⟩ := Sls.get (i := 1) (h_26.ok _ M1).1 (Nat.le_of_ble_eq_true rfl)
 obtain rfl : n_28 = 8 := hl_31.symm.trans (cutR_at hl (i := 1) (by decide))
 have h_35 := h_26.within (e' := .view a_27 (((cutR bs).getD 1 []).map vu8)) M1 rfl (View.arg hv_33) rfl rfl (fun b hb_ => hb_34 _ (view_sblk hl_31 b hb_))
 refine qV rfl (R.loadG (a := a_7) (i := 1) (xs := xs_9) (v := (.slice a_27 8 c_29)) rfl (viewV (h_35.ok _ M3)) Try.isAgg37 hx_30) ?_
 refine WL.call Try.call85 rfl rfl (c_Get_ok a_27 8 c_29 ((cutR bs).getD 1 []) hl_31 (by omega) (by omega) _ (viewV (h_35.ok _ M0))) rfl ?_
 rintro _ w_37 ⟨rfl, hc_36⟩
 have h_38 := h_35.same hc_36
 refine qM (.tuple [(vu64 (UInt64.ofNat (natLE ((cutR bs).getD 1 [])))), (vi 0)].toArray) rfl rfl (qV rfl (R.extract rfl rfl) (qV rfl (R.extract rfl rfl) (qA (vu64 (UInt64.ofNat (natLE ((cutR bs).getD 1 [])))) rfl rfl (qA (vi 0) rfl rfl ?_))))
 refine WL.nil (thn_n (WP.seq ?_))
 refine WP.cutG (G := Option Addr × Nat × Option Addr × Nat) [3, 31, 32, 33, 34, 35, 36, 37, 38, 39, 40, 41, 42] (fun (aY5Y3Y0Y0, cY5Y3Y0Y0, aY5Y8Y0Y0, cY5Y8Y0Y0) => [(3, (vi 0)), (31, (vu64 (UInt64.ofNat (natLE ((cutR bs).getD 1 []))))), (32, (.slice a_7 ((cutR bs).length) cap_8)), (33, (.pointer (some (gA a_7 2)))), (34, (.slice aY5Y3Y0Y0 32 cY5Y3Y0Y0)), (37, (.slice a_7 ((cutR bs).length) cap_8)), (38, (.pointer (some (gA a_7 3)))), (39, (.slice aY5Y8Y0Y0 32 cY5Y8Y0Y0)), (35, (.pointer (some (gA aY5Y3Y0Y0 0)))), (36, (.agg ⟨((cutR bs).getD 2 []).map vu8⟩)), (40, (.pointer (some (gA aY5Y8Y0Y0 0)))), (41, (.agg ⟨((cutR bs).getD 3 []).map vu8⟩)), (42, (.agg ⟨flat [(1, [(vu64 (UInt64.ofNat (natLE ((cutR bs).getD 1 []))))]), (32, ((cutR bs).getD 2 []).map vu8), (32, ((cutR bs).getD 3 []).map vu8)]⟩))]) (fun (aY5Y3Y0Y0, cY5Y3Y0Y0, aY5Y8Y0Y0, cY5Y8Y0Y0) w1 => HP w w1 [.view aY5Y8Y0Y0 (((cutR bs).getD 3 []).map vu8), .view aY5Y3Y0Y0 (((cutR bs).getD 2 []).map vu8), .view a_27 (((cutR bs).getD 1 []).map vu8), .view a_18 (((cutR bs).getD 0 []).map vu8), .pin (sblks xs_9) (fun w => Sls w xs_9 (cutR bs)), .view a_7 xs_9, .blk b_4 .nw 3 [(4, ([8, 8, 32, 32] : List Int).map vi64)], .blk b_1 .nw 30 [(1, [(vu64 (UInt64.ofNat (natLE ((cutR bs).getD 1 []))))]), (32, ((cutR bs).getD 2 []).map vu8), (32, ((cutR bs).getD 3 []).map vu8)], .view a (bs.map vu8)]) ?_ ?_
 ·refine WP.drawT (SL w.heap.size [.view a_27 (((cutR bs).getD 1 []).map vu8), .view a_18 (((cutR bs).getD 0 []).map vu8), .pin (sblks xs_9) (fun w => Sls w xs_9 (cutR bs)), .view a_7 xs_9, .blk b_4 .nw 3 [(4, ([8, 8, 32, 32] : List Int).map vi64)], .view a (bs.map vu8)]) (.q 0 (.q 1 (.q 2 (.q 3 (.q 6 (.q 7 (.q 8 (.s2 4 9 (.s2 5 9 (.s 9 (.s 10 (.q 11 (.s 12 (.q 13 .nil))))) (.s2 5 10 (.s 10 (.q 11 (.s 12 (.q 13 .nil)))) (.s 5 (.q 11 (.s 12 (.q 13 .nil)))))) (.s2 4 10 (.s2 5 10 (.s 10 (.q 11 (.s 12 (.q 13 .nil)))) (.s 5 (.q 11 (.s 12 (.q 13 .nil))))) (.s 4 (.s 5 (.q 11 (.s 12 (.q 13 .nil)))))))))))))) (by kernel_rfl) (by kernel_rfl) rfl (by kernel_rfl) (fun w_39 hc_41 => (SL.cons ((h_38.same hc_41).ok _ M0) (SL.cons ((h_38.same hc_41).ok _ M1) (SL.cons ((h_38.same hc_41).ok _ M2) (SL.cons ((h_38.same hc_41).ok _ M3) (SL.cons ((h_38.same hc_41).ok _ M4) (SL.cons ((h_38.same hc_41).ok _ M6) (SL.nil _ _)))))))) (fun w_39 hc_41 => ?_)
  have h_40 := h_38.same hc_41
  refine qT rfl rfl (fun wq hS => R.move (v := (vu64 (UInt64.ofNat (natLE ((cutR bs).getD 1 []))))) rfl) ?_
  refine qT rfl rfl (fun wq hS => R.move (v := (.slice a_7 ((cutR bs).length) cap_8)) rfl) ?_
  refine qT rfl rfl (fun wq hS => R.indexS (a := a_7) (i := 2) (off := 2) (xs := xs_9) rfl rfl rfl (Nat.le_of_ble_eq_true rfl) (viewV (hS _ M3)) (by omega) Try.underlying36 Try.sizeOf37 (Nat.mul_one _).symm) ?_
  obtain ⟨a_42, n_43, c_44, hx_45, hl_46, hn_47, hv_48, hb_49⟩ := Sls.get (i := 2) (h_40.ok _ M2).1 (Nat.le_of_ble_eq_true rfl)
  obtain rfl : n_43 = 32 := hl_46.symm.trans (cutR_at hl (i := 2) (by decide))
  have h_50 := h_40.within (e' := .view a_42 (((cutR bs).getD 2 []).map vu8)) M2 rfl (View.arg hv_48) rfl rfl (fun b hb_ => hb_49 _ (view_sblk hl_46 b hb_))
  refine qT rfl rfl (fun wq hS => R.loadG (a := a_7) (i := 2) (xs := xs_9) (v := (.slice a_42 32 c_44)) rfl (viewV (hS _ M3)) Try.isAgg37 hx_45) ?_
  refine qT rfl rfl (fun wq hS => R.move (v := (.slice a_7 ((cutR bs).length) cap_8)) rfl) ?_
  refine qT rfl rfl (fun wq hS => R.indexS (a := a_7) (i := 3) (off := 3) (xs := xs_9) rfl rfl rfl (Nat.le_of_ble_eq_true rfl) (viewV (hS _ M3)) (by omega) Try.underlying36 Try.sizeOf37 (Nat.mul_one _).symm) ?_
  obtain ⟨a_51, n_52, c_53, hx_54, hl_55, hn_56, hv_57, hb_58⟩ := Sls.get (i := 3) (h_50.ok _ M3).1 (Nat.le_of_ble_eq_true rfl)
  obtain rfl : n_52 = 32 := hl_55.symm.trans (cutR_at hl (i := 3) (by decide))
  have h_59 := h_50.within (e' := .view a_51 (((cutR bs).getD 3 []).map vu8)) M3 rfl (View.arg hv_57) rfl rfl (fun b hb_ => hb_58 _ (view_sblk hl_55 b hb_))
  refine qT rfl rfl (fun wq hS => R.loadG (a := a_7) (i := 3) (xs := xs_9) (v := (.slice a_51 32 c_53)) rfl (viewV (hS _ M3)) Try.isAgg37 hx_54) ?_
  refine WT.s2 ?_ ?_
  ·refine Op1.one rfl (Wn.no rfl) ?_
   refine qV rfl (R.s2ap (a := a_42) (k := 32) rfl Try.underlying23 (by decide)) ?_
   refine WL.nil ?_
   refine ⟨(SL.cons (h_59.ok _ M2) (SL.cons (h_59.ok _ M3) (SL.cons (h_59.ok _ M4) (SL.cons (h_59.ok _ M5) (SL.cons (h_59.ok _ M6) (SL.cons (h_59.ok _ M8) (SL.nil _ _))))))), ?_⟩
   refine WT.s2 ?_ ?_
   ·refine Op1.one rfl (Wn.no rfl) ?_
    refine qV rfl (R.loadGA (a := a_42) (i := 0) (xs := ((cutR bs).getD 2 []).map vu8) (cs := ((cutR bs).getD 2 []).map vu8) (congrArg Value.pointer (a_some0 (viewV (h_59.ok _ M1)) (by rw [len_map hl_46]; decide))) (viewV (h_59.ok _ M1)) Try.isAgg23 Try.sizeOf23 (by rw [List.drop_zero, List.take_of_length_le (by rw [len_map hl_46]; exact Nat.le_refl _)]) (len_map hl_46) (by decide)) ?_
    refine WL.nil ?_
    refine ⟨(SL.cons (h_59.ok _ M2) (SL.cons (h_59.ok _ M3) (SL.cons (h_59.ok _ M4) (SL.cons (h_59.ok _ M5) (SL.cons (h_59.ok _ M6) (SL.cons (h_59.ok _ M8) (SL.nil _ _))))))), ?_⟩
    refine WT.s (Op1.one rfl (Wn.no rfl) ?_)
    refine qV rfl (R.s2ap (a := a_51) (k := 32) rfl Try.underlying23 (by decide)) ?_
    refine WL.nil ?_
    refine ⟨(SL.cons (h_59.ok _ M2) (SL.cons (h_59.ok _ M3) (SL.cons (h_59.ok _ M4) (SL.cons (h_59.ok _ M5) (SL.cons (h_59.ok _ M6) (SL.cons (h_59.ok _ M8) (SL.nil _ _))))))), ?_⟩
    refine WT.s (Op1.one rfl (Wn.no rfl) ?_)
    refine qV rfl (R.loadGA (a := a_51) (i := 0) (xs := ((cutR bs).getD 3 []).map vu8) (cs := ((cutR bs).getD 3 []).map vu8) (congrArg Value.pointer (a_some0 (viewV (h_59.ok _ M0)) (by rw [len_map hl_55]; decide))) (viewV (h_59.ok _ M0)) Try.isAgg23 Try.sizeOf23 (by rw [List.drop_zero, List.take_of_length_le (by rw [len_map hl_55]; exact Nat.le_refl _)]) (len_map hl_55) (by decide)) ?_
    refine WL.nil ?_
    refine ⟨(SL.cons (h_59.ok _ M2) (SL.cons (h_59.ok _ M3) (SL.cons (h_59.ok _ M4) (SL.cons (h_59.ok _ M5) (SL.cons (h_59.ok _ M6) (SL.cons (h_59.ok _ M8) (SL.nil _ _))))))), ?_⟩
    refine qT rfl rfl (fun wq hS => R.buildS (pl := [(0, 1), (1, 32), (33, 32)]) (zs := [(1, [(vu64 0)]), (32, (List.replicate 32 (0 : UInt8)).map vu8), (32, (List.replicate 32 (0 : UInt8)).map vu8)]) (vs := [(0, (vu64 (UInt64.ofNat (natLE ((cutR bs).getD 1 []))))), (1, (.agg ⟨((cutR bs).getD 2 []).map vu8⟩)), (2, (.agg ⟨((cutR bs).getD 3 []).map vu8⟩))]) (out := [(1, [(vu64 (UInt64.ofNat (natLE ((cutR bs).getD 1 []))))]), (32, ((cutR bs).getD 2 []).map vu8), (32, ((cutR bs).getD 3 []).map vu8)]) (cs := flat [(1, [(vu64 (UInt64.ofNat (natLE ((cutR bs).getD 1 []))))]), (32, ((cutR bs).getD 2 []).map vu8), (32, ((cutR bs).getD 3 []).map vu8)]) Try.underlying30 (zv Try.typeInfo30 rfl) rfl (SsOk.cons (SOk.v rfl) (SsOk.cons (SOk.u8 lr) (SsOk.cons (SOk.u8 lr) SsOk.nil))) (pl30 _ Try.underlying30) rfl (FillR.cons [] [(1, [(vu64 0)])] [(1, [(vu64 (UInt64.ofNat (natLE ((cutR bs).getD 1 []))))])] [(32, (List.replicate 32 (0 : UInt8)).map vu8), (32, (List.replicate 32 (0 : UInt8)).map vu8)] rfl rfl rfl rfl (SsOk.cons (SOk.v rfl) SsOk.nil) rfl rfl rfl (FillR.cons [(1, [(vu64 (UInt64.ofNat (natLE ((cutR bs).getD 1 []))))])] [(32, (List.replicate 32 (0 : UInt8)).map vu8)] [(32, ((cutR bs).getD 2 []).map vu8)] [(32, (List.replicate 32 (0 : UInt8)).map vu8)] rfl rfl rfl rfl (SsOk.cons (SOk.u8 hl_46) SsOk.nil) rfl rfl rfl (FillR.cons [(1, [(vu64 (UInt64.ofNat (natLE ((cutR bs).getD 1 []))))]), (32, ((cutR bs).getD 2 []).map vu8)] [(32, (List.replicate 32 (0 : UInt8)).map vu8)] [(32, ((cutR bs).getD 3 []).map vu8)] [] rfl rfl rfl rfl (SsOk.cons (SOk.u8 hl_55) SsOk.nil) rfl rfl rfl FillR.nil))) rfl) ?_
    refine WT.s (Op1.one rfl (Wn.no rfl) ?_)
    refine WL.storeA (b := b_1) (off := 0) [] [(1, [(vu64 0)]), (32, (List.replicate 32 (0 : UInt8)).map vu8), (32, (List.replicate 32 (0 : UInt8)).map vu8)] [(1, [(vu64 (UInt64.ofNat (natLE ((cutR bs).getD 1 []))))]), (32, ((cutR bs).getD 2 []).map vu8), (32, ((cutR bs).getD 3 []).map vu8)] [] (ys := flat [(1, [(vu64 (UInt64.ofNat (natLE ((cutR bs).getD 1 []))))]), (32, ((cutR bs).getD 2 []).map vu8), (32, ((cutR bs).getD 3 []).map vu8)]) h_59 rfl rfl Try.sizeOf30 Y7 (by decide) rfl rfl rfl rfl rfl rfl (SsOk.cons (SOk.v rfl) (SsOk.cons (SOk.u8 hl_46) (SsOk.cons (SOk.u8 hl_55) SsOk.nil))) (fun w_61 h_62 => ?_)
    refine WL.nil ?_
    refine ⟨(SL.cons (h_62.ok _ M2) (SL.cons (h_62.ok _ M3) (SL.cons (h_62.ok _ M4) (SL.cons (h_62.ok _ M5) (SL.cons (h_62.ok _ M6) (SL.cons (h_62.ok _ M8) (SL.nil _ _))))))), ?_⟩
    refine qT rfl rfl (fun wq hS => R.assign (v := (vi 0)) rfl) ?_
    refine WT.nil (thn_n ?_)
    exact ⟨(a_42, c_44, a_51, c_53), (Ag.upd rfl (U4 rfl rfl rfl rfl (U4 rfl rfl rfl rfl (U4 rfl rfl rfl rfl (Ag.refl _ _))))), ⟨rfl, rfl, rfl, rfl, rfl, rfl, rfl, rfl, (congrArg Value.pointer (a_some0 (viewV (h_59.ok _ M1)) (by rw [len_map hl_46]; decide))), rfl, (congrArg Value.pointer (a_some0 (viewV (h_59.ok _ M0)) (by rw [len_map hl_55]; decide))), rfl, rfl, trivial⟩, h_62⟩
   ·refine Op1.one rfl (Wn.no rfl) ?_
    refine qV rfl (R.s2ap (a := a_51) (k := 32) rfl Try.underlying23 (by decide)) ?_
    refine WL.nil ?_
    refine ⟨(SL.cons (h_59.ok _ M2) (SL.cons (h_59.ok _ M3) (SL.cons (h_59.ok _ M4) (SL.cons (h_59.ok _ M5) (SL.cons (h_59.ok _ M6) (SL.cons (h_59.ok _ M8) (SL.nil _ _))))))), ?_⟩
    refine WT.s2 ?_ ?_
    ·refine Op1.one rfl (Wn.no rfl) ?_
     refine qV rfl (R.loadGA (a := a_42) (i := 0) (xs := ((cutR bs).getD 2 []).map vu8) (cs := ((cutR bs).getD 2 []).map vu8) (congrArg Value.pointer (a_some0 (viewV (h_59.ok _ M1)) (by rw [len_map hl_46]; decide))) (viewV (h_59.ok _ M1)) Try.isAgg23 Try.sizeOf23 (by rw [List.drop_zero, List.take_of_length_le (by rw [len_map hl_46]; exact Nat.le_refl _)]) (len_map hl_46) (by decide)) ?_
     refine WL.nil ?_
     refine ⟨(SL.cons (h_59.ok _ M2) (SL.cons (h_59.ok _ M3) (SL.cons (h_59.ok _ M4) (SL.cons (h_59.ok _ M5) (SL.cons (h_59.ok _ M6) (SL.cons (h_59.ok _ M8) (SL.nil _ _))))))), ?_⟩
     refine WT.s (Op1.one rfl (Wn.no rfl) ?_)
     refine qV rfl (R.loadGA (a := a_51) (i := 0) (xs := ((cutR bs).getD 3 []).map vu8) (cs := ((cutR bs).getD 3 []).map vu8) (congrArg Value.pointer (a_some0 (viewV (h_59.ok _ M0)) (by rw [len_map hl_55]; decide))) (viewV (h_59.ok _ M0)) Try.isAgg23 Try.sizeOf23 (by rw [List.drop_zero, List.take_of_length_le (by rw [len_map hl_55]; exact Nat.le_refl _)]) (len_map hl_55) (by decide)) ?_
     refine WL.nil ?_
     refine ⟨(SL.cons (h_59.ok _ M2) (SL.cons (h_59.ok _ M3) (SL.cons (h_59.ok _ M4) (SL.cons (h_59.ok _ M5) (SL.cons (h_59.ok _ M6) (SL.cons (h_59.ok _ M8) (SL.nil _ _))))))), ?_⟩
     refine qT rfl rfl (fun wq hS => R.buildS (pl := [(0, 1), (1, 32), (33, 32)]) (zs := [(1, [(vu64 0)]), (32, (List.replicate 32 (0 : UInt8)).map vu8), (32, (List.replicate 32 (0 : UInt8)).map vu8)]) (vs := [(0, (vu64 (UInt64.ofNat (natLE ((cutR bs).getD 1 []))))), (1, (.agg ⟨((cutR bs).getD 2 []).map vu8⟩)), (2, (.agg ⟨((cutR bs).getD 3 []).map vu8⟩))]) (out := [(1, [(vu64 (UInt64.ofNat (natLE ((cutR bs).getD 1 []))))]), (32, ((cutR bs).getD 2 []).map vu8), (32, ((cutR bs).getD 3 []).map vu8)]) (cs := flat [(1, [(vu64 (UInt64.ofNat (natLE ((cutR bs).getD 1 []))))]), (32, ((cutR bs).getD 2 []).map vu8), (32, ((cutR bs).getD 3 []).map vu8)]) Try.underlying30 (zv Try.typeInfo30 rfl) rfl (SsOk.cons (SOk.v rfl) (SsOk.cons (SOk.u8 lr) (SsOk.cons (SOk.u8 lr) SsOk.nil))) (pl30 _ Try.underlying30) rfl (FillR.cons [] [(1, [(vu64 0)])] [(1, [(vu64 (UInt64.ofNat (natLE ((cutR bs).getD 1 []))))])] [(32, (List.replicate 32 (0 : UInt8)).map vu8), (32, (List.replicate 32 (0 : UInt8)).map vu8)] rfl rfl rfl rfl (SsOk.cons (SOk.v rfl) SsOk.nil) rfl rfl rfl (FillR.cons [(1, [(vu64 (UInt64.ofNat (natLE ((cutR bs).getD 1 []))))])] [(32, (List.replicate 32 (0 : UInt8)).map vu8)] [(32, ((cutR bs).getD 2 []).map vu8)] [(32, (List.replicate 32 (0 : UInt8)).map vu8)] rfl rfl rfl rfl (SsOk.cons (SOk.u8 hl_46) SsOk.nil) rfl rfl rfl (FillR.cons [(1, [(vu64 (UInt64.ofNat (natLE ((cutR bs).getD 1 []))))]), (32, ((cutR bs).getD 2 []).map vu8)] [(32, (List.replicate 32 (0 : UInt8)).map vu8)] [(32, ((cutR bs).getD 3 []).map vu8)] [] rfl rfl rfl rfl (SsOk.cons (SOk.u8 hl_55) SsOk.nil) rfl rfl rfl FillR.nil))) rfl) ?_
     refine WT.s (Op1.one rfl (Wn.no rfl) ?_)
     refine WL.storeA (b := b_1) (off := 0) [] [(1, [(vu64 0)]), (32, (List.replicate 32 (0 : UInt8)).map vu8), (32, (List.replicate 32 (0 : UInt8)).map vu8)] [(1, [(vu64 (UInt64.ofNat (natLE ((cutR bs).getD 1 []))))]), (32, ((cutR bs).getD 2 []).map vu8), (32, ((cutR bs).getD 3 []).map vu8)] [] (ys := flat [(1, [(vu64 (UInt64.ofNat (natLE ((cutR bs).getD 1 []))))]), (32, ((cutR bs).getD 2 []).map vu8), (32, ((cutR bs).getD 3 []).map vu8)]) h_59 rfl rfl Try.sizeOf30 Y7 (by decide) rfl rfl rfl rfl rfl rfl (SsOk.cons (SOk.v rfl) (SsOk.cons (SOk.u8 hl_46) (SsOk.cons (SOk.u8 hl_55) SsOk.nil))) (fun w_64 h_65 => ?_)
     refine WL.nil ?_
     refine ⟨(SL.cons (h_65.ok _ M2) (SL.cons (h_65.ok _ M3) (SL.cons (h_65.ok _ M4) (SL.cons (h_65.ok _ M5) (SL.cons (h_65.ok _ M6) (SL.cons (h_65.ok _ M8) (SL.nil _ _))))))), ?_⟩
     refine qT rfl rfl (fun wq hS => R.assign (v := (vi 0)) rfl) ?_
     refine WT.nil (thn_n ?_)
     exact ⟨(a_42, c_44, a_51, c_53), (Ag.upd rfl (U4 rfl rfl rfl rfl (U4 rfl rfl rfl rfl (U4 rfl rfl rfl rfl (Ag.refl _ _))))), ⟨rfl, rfl, rfl, rfl, rfl, rfl, rfl, rfl, (congrArg Value.pointer (a_some0 (viewV (h_59.ok _ M1)) (by rw [len_map hl_46]; decide))), rfl, (congrArg Value.pointer (a_some0 (viewV (h_59.ok _ M0)) (by rw [len_map hl_55]; decide))), rfl, rfl, trivial⟩, h_65⟩
    ·refine Op1.one rfl (Wn.no rfl) ?_
     refine qV rfl (R.loadGA (a := a_51) (i := 0) (xs := ((cutR bs).getD 3 []).map vu8) (cs := ((cutR bs).getD 3 []).map vu8) (congrArg Value.pointer (a_some0 (viewV (h_59.ok _ M0)) (by rw [len_map hl_55]; decide))) (viewV (h_59.ok _ M0)) Try.isAgg23 Try.sizeOf23 (by rw [List.drop_zero, List.take_of_length_le (by rw [len_map hl_55]; exact Nat.le_refl _)]) (len_map hl_55) (by decide)) ?_
     refine WL.nil ?_
     refine ⟨(SL.cons (h_59.ok _ M2) (SL.cons (h_59.ok _ M3) (SL.cons (h_59.ok _ M4) (SL.cons (h_59.ok _ M5) (SL.cons (h_59.ok _ M6) (SL.cons (h_59.ok _ M8) (SL.nil _ _))))))), ?_⟩
     refine WT.s (Op1.one rfl (Wn.no rfl) ?_)
     refine qV rfl (R.loadGA (a := a_42) (i := 0) (xs := ((cutR bs).getD 2 []).map vu8) (cs := ((cutR bs).getD 2 []).map vu8) (congrArg Value.pointer (a_some0 (viewV (h_59.ok _ M1)) (by rw [len_map hl_46]; decide))) (viewV (h_59.ok _ M1)) Try.isAgg23 Try.sizeOf23 (by rw [List.drop_zero, List.take_of_length_le (by rw [len_map hl_46]; exact Nat.le_refl _)]) (len_map hl_46) (by decide)) ?_
     refine WL.nil ?_
     refine ⟨(SL.cons (h_59.ok _ M2) (SL.cons (h_59.ok _ M3) (SL.cons (h_59.ok _ M4) (SL.cons (h_59.ok _ M5) (SL.cons (h_59.ok _ M6) (SL.cons (h_59.ok _ M8) (SL.nil _ _))))))), ?_⟩
     refine qT rfl rfl (fun wq hS => R.buildS (pl := [(0, 1), (1, 32), (33, 32)]) (zs := [(1, [(vu64 0)]), (32, (List.replicate 32 (0 : UInt8)).map vu8), (32, (List.replicate 32 (0 : UInt8)).map vu8)]) (vs := [(0, (vu64 (UInt64.ofNat (natLE ((cutR bs).getD 1 []))))), (1, (.agg ⟨((cutR bs).getD 2 []).map vu8⟩)), (2, (.agg ⟨((cutR bs).getD 3 []).map vu8⟩))]) (out := [(1, [(vu64 (UInt64.ofNat (natLE ((cutR bs).getD 1 []))))]), (32, ((cutR bs).getD 2 []).map vu8), (32, ((cutR bs).getD 3 []).map vu8)]) (cs := flat [(1, [(vu64 (UInt64.ofNat (natLE ((cutR bs).getD 1 []))))]), (32, ((cutR bs).getD 2 []).map vu8), (32, ((cutR bs).getD 3 []).map vu8)]) Try.underlying30 (zv Try.typeInfo30 rfl) rfl (SsOk.cons (SOk.v rfl) (SsOk.cons (SOk.u8 lr) (SsOk.cons (SOk.u8 lr) SsOk.nil))) (pl30 _ Try.underlying30) rfl (FillR.cons [] [(1, [(vu64 0)])] [(1, [(vu64 (UInt64.ofNat (natLE ((cutR bs).getD 1 []))))])] [(32, (List.replicate 32 (0 : UInt8)).map vu8), (32, (List.replicate 32 (0 : UInt8)).map vu8)] rfl rfl rfl rfl (SsOk.cons (SOk.v rfl) SsOk.nil) rfl rfl rfl (FillR.cons [(1, [(vu64 (UInt64.ofNat (natLE ((cutR bs).getD 1 []))))])] [(32, (List.replicate 32 (0 : UInt8)).map vu8)] [(32, ((cutR bs).getD 2 []).map vu8)] [(32, (List.replicate 32 (0 : UInt8)).map vu8)] rfl rfl rfl rfl (SsOk.cons (SOk.u8 hl_46) SsOk.nil) rfl rfl rfl (FillR.cons [(1, [(vu64 (UInt64.ofNat (natLE ((cutR bs).getD 1 []))))]), (32, ((cutR bs).getD 2 []).map vu8)] [(32, (List.replicate 32 (0 : UInt8)).map vu8)] [(32, ((cutR bs).getD 3 []).map vu8)] [] rfl rfl rfl rfl (SsOk.cons (SOk.u8 hl_55) SsOk.nil) rfl rfl rfl FillR.nil))) rfl) ?_
     refine WT.s (Op1.one rfl (Wn.no rfl) ?_)
     refine WL.storeA (b := b_1) (off := 0) [] [(1, [(vu64 0)]), (32, (List.replicate 32 (0 : UInt8)).map vu8), (32, (List.replicate 32 (0 : UInt8)).map vu8)] [(1, [(vu64 (UInt64.ofNat (natLE ((cutR bs).getD 1 []))))]), (32, ((cutR bs).getD 2 []).map vu8), (32, ((cutR bs).getD 3 []).map vu8)] [] (ys := flat [(1, [(vu64 (UInt64.ofNat (natLE ((cutR bs).getD 1 []))))]), (32, ((cutR bs).getD 2 []).map vu8), (32, ((cutR bs).getD 3 []).map vu8)]) h_59 rfl rfl Try.sizeOf30 Y7 (by decide) rfl rfl rfl rfl rfl rfl (SsOk.cons (SOk.v rfl) (SsOk.cons (SOk.u8 hl_46) (SsOk.cons (SOk.u8 hl_55) SsOk.nil))) (fun w_67 h_68 => ?_)
     refine WL.nil ?_
     refine ⟨(SL.cons (h_68.ok _ M2) (SL.cons (h_68.ok _ M3) (SL.cons (h_68.ok _ M4) (SL.cons (h_68.ok _ M5) (SL.cons (h_68.ok _ M6) (SL.cons (h_68.ok _ M8) (SL.nil _ _))))))), ?_⟩
     refine qT rfl rfl (fun wq hS => R.assign (v := (vi 0)) rfl) ?_
     refine WT.nil (thn_n ?_)
     exact ⟨(a_42, c_44, a_51, c_53), (Ag.upd rfl (U4 rfl rfl rfl rfl (U4 rfl rfl rfl rfl (U4 rfl rfl rfl rfl (Ag.refl _ _))))), ⟨rfl, rfl, rfl, rfl, rfl, rfl, rfl, rfl, (congrArg Value.pointer (a_some0 (viewV (h_59.ok _ M1)) (by rw [len_map hl_46]; decide))), rfl, (congrArg Value.pointer (a_some0 (viewV (h_59.ok _ M0)) (by rw [len_map hl_55]; decide))), rfl, rfl, trivial⟩, h_68⟩
  ·refine Op1.one rfl (Wn.no rfl) ?_
   refine qV rfl (R.s2ap (a := a_51) (k := 32) rfl Try.underlying23 (by decide)) ?_
   refine WL.nil ?_
   refine ⟨(SL.cons (h_59.ok _ M2) (SL.cons (h_59.ok _ M3) (SL.cons (h_59.ok _ M4) (SL.cons (h_59.ok _ M5) (SL.cons (h_59.ok _ M6) (SL.cons (h_59.ok _ M8) (SL.nil _ _))))))), ?_⟩
   refine WT.s2 ?_ ?_
   ·refine Op1.one rfl (Wn.no rfl) ?_
    refine qV rfl (R.s2ap (a := a_42) (k := 32) rfl Try.underlying23 (by decide)) ?_
    refine WL.nil ?_
    refine ⟨(SL.cons (h_59.ok _ M2) (SL.cons (h_59.ok _ M3) (SL.cons (h_59.ok _ M4) (SL.cons (h_59.ok _ M5) (SL.cons (h_59.ok _ M6) (SL.cons (h_59.ok _ M8) (SL.nil _ _))))))), ?_⟩
    refine WT.s2 ?_ ?_
    ·refine Op1.one rfl (Wn.no rfl) ?_
     refine qV rfl (R.loadGA (a := a_42) (i := 0) (xs := ((cutR bs).getD 2 []).map vu8) (cs := ((cutR bs).getD 2 []).map vu8) (congrArg Value.pointer (a_some0 (viewV (h_59.ok _ M1)) (by rw [len_map hl_46]; decide))) (viewV (h_59.ok _ M1)) Try.isAgg23 Try.sizeOf23 (by rw [List.drop_zero, List.take_of_length_le (by rw [len_map hl_46]; exact Nat.le_refl _)]) (len_map hl_46) (by decide)) ?_
     refine WL.nil ?_
     refine ⟨(SL.cons (h_59.ok _ M2) (SL.cons (h_59.ok _ M3) (SL.cons (h_59.ok _ M4) (SL.cons (h_59.ok _ M5) (SL.cons (h_59.ok _ M6) (SL.cons (h_59.ok _ M8) (SL.nil _ _))))))), ?_⟩
     refine WT.s (Op1.one rfl (Wn.no rfl) ?_)
     refine qV rfl (R.loadGA (a := a_51) (i := 0) (xs := ((cutR bs).getD 3 []).map vu8) (cs := ((cutR bs).getD 3 []).map vu8) (congrArg Value.pointer (a_some0 (viewV (h_59.ok _ M0)) (by rw [len_map hl_55]; decide))) (viewV (h_59.ok _ M0)) Try.isAgg23 Try.sizeOf23 (by rw [List.drop_zero, List.take_of_length_le (by rw [len_map hl_55]; exact Nat.le_refl _)]) (len_map hl_55) (by decide)) ?_
     refine WL.nil ?_
     refine ⟨(SL.cons (h_59.ok _ M2) (SL.cons (h_59.ok _ M3) (SL.cons (h_59.ok _ M4) (SL.cons (h_59.ok _ M5) (SL.cons (h_59.ok _ M6) (SL.cons (h_59.ok _ M8) (SL.nil _ _))))))), ?_⟩
     refine qT rfl rfl (fun wq hS => R.buildS (pl := [(0, 1), (1, 32), (33, 32)]) (zs := [(1, [(vu64 0)]), (32, (List.replicate 32 (0 : UInt8)).map vu8), (32, (List.replicate 32 (0 : UInt8)).map vu8)]) (vs := [(0, (vu64 (UInt64.ofNat (natLE ((cutR bs).getD 1 []))))), (1, (.agg ⟨((cutR bs).getD 2 []).map vu8⟩)), (2, (.agg ⟨((cutR bs).getD 3 []).map vu8⟩))]) (out := [(1, [(vu64 (UInt64.ofNat (natLE ((cutR bs).getD 1 []))))]), (32, ((cutR bs).getD 2 []).map vu8), (32, ((cutR bs).getD 3 []).map vu8)]) (cs := flat [(1, [(vu64 (UInt64.ofNat (natLE ((cutR bs).getD 1 []))))]), (32, ((cutR bs).getD 2 []).map vu8), (32, ((cutR bs).getD 3 []).map vu8)]) Try.underlying30 (zv Try.typeInfo30 rfl) rfl (SsOk.cons (SOk.v rfl) (SsOk.cons (SOk.u8 lr) (SsOk.cons (SOk.u8 lr) SsOk.nil))) (pl30 _ Try.underlying30) rfl (FillR.cons [] [(1, [(vu64 0)])] [(1, [(vu64 (UInt64.ofNat (natLE ((cutR bs).getD 1 []))))])] [(32, (List.replicate 32 (0 : UInt8)).map vu8), (32, (List.replicate 32 (0 : UInt8)).map vu8)] rfl rfl rfl rfl (SsOk.cons (SOk.v rfl) SsOk.nil) rfl rfl rfl (FillR.cons [(1, [(vu64 (UInt64.ofNat (natLE ((cutR bs).getD 1 []))))])] [(32, (List.replicate 32 (0 : UInt8)).map vu8)] [(32, ((cutR bs).getD 2 []).map vu8)] [(32, (List.replicate 32 (0 : UInt8)).map vu8)] rfl rfl rfl rfl (SsOk.cons (SOk.u8 hl_46) SsOk.nil) rfl rfl rfl (FillR.cons [(1, [(vu64 (UInt64.ofNat (natLE ((cutR bs).getD 1 []))))]), (32, ((cutR bs).getD 2 []).map vu8)] [(32, (List.replicate 32 (0 : UInt8)).map vu8)] [(32, ((cutR bs).getD 3 []).map vu8)] [] rfl rfl rfl rfl (SsOk.cons (SOk.u8 hl_55) SsOk.nil) rfl rfl rfl FillR.nil))) rfl) ?_
     refine WT.s (Op1.one rfl (Wn.no rfl) ?_)
     refine WL.storeA (b := b_1) (off := 0) [] [(1, [(vu64 0)]), (32, (List.replicate 32 (0 : UInt8)).map vu8), (32, (List.replicate 32 (0 : UInt8)).map vu8)] [(1, [(vu64 (UInt64.ofNat (natLE ((cutR bs).getD 1 []))))]), (32, ((cutR bs).getD 2 []).map vu8), (32, ((cutR bs).getD 3 []).map vu8)] [] (ys := flat [(1, [(vu64 (UInt64.ofNat (natLE ((cutR bs).getD 1 []))))]), (32, ((cutR bs).getD 2 []).map vu8), (32, ((cutR bs).getD 3 []).map vu8)]) h_59 rfl rfl Try.sizeOf30 Y7 (by decide) rfl rfl rfl rfl rfl rfl (SsOk.cons (SOk.v rfl) (SsOk.cons (SOk.u8 hl_46) (SsOk.cons (SOk.u8 hl_55) SsOk.nil))) (fun w_70 h_71 => ?_)
     refine WL.nil ?_
     refine ⟨(SL.cons (h_71.ok _ M2) (SL.cons (h_71.ok _ M3) (SL.cons (h_71.ok _ M4) (SL.cons (h_71.ok _ M5) (SL.cons (h_71.ok _ M6) (SL.cons (h_71.ok _ M8) (SL.nil _ _))))))), ?_⟩
     refine qT rfl rfl (fun wq hS => R.assign (v := (vi 0)) rfl) ?_
     refine WT.nil (thn_n ?_)
     exact ⟨(a_42, c_44, a_51, c_53), (Ag.upd rfl (U4 rfl rfl rfl rfl (U4 rfl rfl rfl rfl (U4 rfl rfl rfl rfl (Ag.refl _ _))))), ⟨rfl, rfl, rfl, rfl, rfl, rfl, rfl, rfl, (congrArg Value.pointer (a_some0 (viewV (h_59.ok _ M1)) (by rw [len_map hl_46]; decide))), rfl, (congrArg Value.pointer (a_some0 (viewV (h_59.ok _ M0)) (by rw [len_map hl_55]; decide))), rfl, rfl, trivial⟩, h_71⟩
    ·refine Op1.one rfl (Wn.no rfl) ?_
     refine qV rfl (R.loadGA (a := a_51) (i := 0) (xs := ((cutR bs).getD 3 []).map vu8) (cs := ((cutR bs).getD 3 []).map vu8) (congrArg Value.pointer (a_some0 (viewV (h_59.ok _ M0)) (by rw [len_map hl_55]; decide))) (viewV (h_59.ok _ M0)) Try.isAgg23 Try.sizeOf23 (by rw [List.drop_zero, List.take_of_length_le (by rw [len_map hl_55]; exact Nat.le_refl _)]) (len_map hl_55) (by decide)) ?_
     refine WL.nil ?_
     refine ⟨(SL.cons (h_59.ok _ M2) (SL.cons (h_59.ok _ M3) (SL.cons (h_59.ok _ M4) (SL.cons (h_59.ok _ M5) (SL.cons (h_59.ok _ M6) (SL.cons (h_59.ok _ M8) (SL.nil _ _))))))), ?_⟩
     refine WT.s (Op1.one rfl (Wn.no rfl) ?_)
     refine qV rfl (R.loadGA (a := a_42) (i := 0) (xs := ((cutR bs).getD 2 []).map vu8) (cs := ((cutR bs).getD 2 []).map vu8) (congrArg Value.pointer (a_some0 (viewV (h_59.ok _ M1)) (by rw [len_map hl_46]; decide))) (viewV (h_59.ok _ M1)) Try.isAgg23 Try.sizeOf23 (by rw [List.drop_zero, List.take_of_length_le (by rw [len_map hl_46]; exact Nat.le_refl _)]) (len_map hl_46) (by decide)) ?_
     refine WL.nil ?_
     refine ⟨(SL.cons (h_59.ok _ M2) (SL.cons (h_59.ok _ M3) (SL.cons (h_59.ok _ M4) (SL.cons (h_59.ok _ M5) (SL.cons (h_59.ok _ M6) (SL.cons (h_59.ok _ M8) (SL.nil _ _))))))), ?_⟩
     refine qT rfl rfl (fun wq hS => R.buildS (pl := [(0, 1), (1, 32), (33, 32)]) (zs := [(1, [(vu64 0)]), (32, (List.replicate 32 (0 : UInt8)).map vu8), (32, (List.replicate 32 (0 : UInt8)).map vu8)]) (vs := [(0, (vu64 (UInt64.ofNat (natLE ((cutR bs).getD 1 []))))), (1, (.agg ⟨((cutR bs).getD 2 []).map vu8⟩)), (2, (.agg ⟨((cutR bs).getD 3 []).map vu8⟩))]) (out := [(1, [(vu64 (UInt64.ofNat (natLE ((cutR bs).getD 1 []))))]), (32, ((cutR bs).getD 2 []).map vu8), (32, ((cutR bs).getD 3 []).map vu8)]) (cs := flat [(1, [(vu64 (UInt64.ofNat (natLE ((cutR bs).getD 1 []))))]), (32, ((cutR bs).getD 2 []).map vu8), (32, ((cutR bs).getD 3 []).map vu8)]) Try.underlying30 (zv Try.typeInfo30 rfl) rfl (SsOk.cons (SOk.v rfl) (SsOk.cons (SOk.u8 lr) (SsOk.cons (SOk.u8 lr) SsOk.nil))) (pl30 _ Try.underlying30) rfl (FillR.cons [] [(1, [(vu64 0)])] [(1, [(vu64 (UInt64.ofNat (natLE ((cutR bs).getD 1 []))))])] [(32, (List.replicate 32 (0 : UInt8)).map vu8), (32, (List.replicate 32 (0 : UInt8)).map vu8)] rfl rfl rfl rfl (SsOk.cons (SOk.v rfl) SsOk.nil) rfl rfl rfl (FillR.cons [(1, [(vu64 (UInt64.ofNat (natLE ((cutR bs).getD 1 []))))])] [(32, (List.replicate 32 (0 : UInt8)).map vu8)] [(32, ((cutR bs).getD 2 []).map vu8)] [(32, (List.replicate 32 (0 : UInt8)).map vu8)] rfl rfl rfl rfl (SsOk.cons (SOk.u8 hl_46) SsOk.nil) rfl rfl rfl (FillR.cons [(1, [(vu64 (UInt64.ofNat (natLE ((cutR bs).getD 1 []))))]), (32, ((cutR bs).getD 2 []).map vu8)] [(32, (List.replicate 32 (0 : UInt8)).map vu8)] [(32, ((cutR bs).getD 3 []).map vu8)] [] rfl rfl rfl rfl (SsOk.cons (SOk.u8 hl_55) SsOk.nil) rfl rfl rfl FillR.nil))) rfl) ?_
     refine WT.s (Op1.one rfl (Wn.no rfl) ?_)
     refine WL.storeA (b := b_1) (off := 0) [] [(1, [(vu64 0)]), (32, (List.replicate 32 (0 : UInt8)).map vu8), (32, (List.replicate 32 (0 : UInt8)).map vu8)] [(1, [(vu64 (UInt64.ofNat (natLE ((cutR bs).getD 1 []))))]), (32, ((cutR bs).getD 2 []).map vu8), (32, ((cutR bs).getD 3 []).map vu8)] [] (ys := flat [(1, [(vu64 (UInt64.ofNat (natLE ((cutR bs).getD 1 []))))]), (32, ((cutR bs).getD 2 []).map vu8), (32, ((cutR bs).getD 3 []).map vu8)]) h_59 rfl rfl Try.sizeOf30 Y7 (by decide) rfl rfl rfl rfl rfl rfl (SsOk.cons (SOk.v rfl) (SsOk.cons (SOk.u8 hl_46) (SsOk.cons (SOk.u8 hl_55) SsOk.nil))) (fun w_73 h_74 => ?_)
     refine WL.nil ?_
     refine ⟨(SL.cons (h_74.ok _ M2) (SL.cons (h_74.ok _ M3) (SL.cons (h_74.ok _ M4) (SL.cons (h_74.ok _ M5) (SL.cons (h_74.ok _ M6) (SL.cons (h_74.ok _ M8) (SL.nil _ _))))))), ?_⟩
     refine qT rfl rfl (fun wq hS => R.assign (v := (vi 0)) rfl) ?_
     refine WT.nil (thn_n ?_)
     exact ⟨(a_42, c_44, a_51, c_53), (Ag.upd rfl (U4 rfl rfl rfl rfl (U4 rfl rfl rfl rfl (U4 rfl rfl rfl rfl (Ag.refl _ _))))), ⟨rfl, rfl, rfl, rfl, rfl, rfl, rfl, rfl, (congrArg Value.pointer (a_some0 (viewV (h_59.ok _ M1)) (by rw [len_map hl_46]; decide))), rfl, (congrArg Value.pointer (a_some0 (viewV (h_59.ok _ M0)) (by rw [len_map hl_55]; decide))), rfl, rfl, trivial⟩, h_74⟩
   ·refine Op1.one rfl (Wn.no rfl) ?_
    refine qV rfl (R.loadGA (a := a_51) (i := 0) (xs := ((cutR bs).getD 3 []).map vu8) (cs := ((cutR bs).getD 3 []).map vu8) (congrArg Value.pointer (a_some0 (viewV (h_59.ok _ M0)) (by rw [len_map hl_55]; decide))) (viewV (h_59.ok _ M0)) Try.isAgg23 Try.sizeOf23 (by rw [List.drop_zero, List.take_of_length_le (by rw [len_map hl_55]; exact Nat.le_refl _)]) (len_map hl_55) (by decide)) ?_
    refine WL.nil ?_
    refine ⟨(SL.cons (h_59.ok _ M2) (SL.cons (h_59.ok _ M3) (SL.cons (h_59.ok _ M4) (SL.cons (h_59.ok _ M5) (SL.cons (h_59.ok _ M6) (SL.cons (h_59.ok _ M8) (SL.nil _ _))))))), ?_⟩
    refine WT.s (Op1.one rfl (Wn.no rfl) ?_)
    refine qV rfl (R.s2ap (a := a_42) (k := 32) rfl Try.underlying23 (by decide)) ?_
    refine WL.nil ?_
    refine ⟨(SL.cons (h_59.ok _ M2) (SL.cons (h_59.ok _ M3) (SL.cons (h_59.ok _ M4) (SL.cons (h_59.ok _ M5) (SL.cons (h_59.ok _ M6) (SL.cons (h_59.ok _ M8) (SL.nil _ _))))))), ?_⟩
    refine WT.s (Op1.one rfl (Wn.no rfl) ?_)
    refine qV rfl (R.loadGA (a := a_42) (i := 0) (xs := ((cutR bs).getD 2 []).map vu8) (cs := ((cutR bs).getD 2 []).map vu8) (congrArg Value.pointer (a_some0 (viewV (h_59.ok _ M1)) (by rw [len_map hl_46]; decide))) (viewV (h_59.ok _ M1)) Try.isAgg23 Try.sizeOf23 (by rw [List.drop_zero, List.take_of_length_le (by rw [len_map hl_46]; exact Nat.le_refl _)]) (len_map hl_46) (by decide)) ?_
    refine WL.nil ?_
    refine ⟨(SL.cons (h_59.ok _ M2) (SL.cons (h_59.ok _ M3) (SL.cons (h_59.ok _ M4) (SL.cons (h_59.ok _ M5) (SL.cons (h_59.ok _ M6) (SL.cons (h_59.ok _ M8) (SL.nil _ _))))))), ?_⟩
    refine qT rfl rfl (fun wq hS => R.buildS (pl := [(0, 1), (1, 32), (33, 32)]) (zs := [(1, [(vu64 0)]), (32, (List.replicate 32 (0 : UInt8)).map vu8), (32, (List.replicate 32 (0 : UInt8)).map vu8)]) (vs := [(0, (vu64 (UInt64.ofNat (natLE ((cutR bs).getD 1 []))))), (1, (.agg ⟨((cutR bs).getD 2 []).map vu8⟩)), (2, (.agg ⟨((cutR bs).getD 3 []).map vu8⟩))]) (out := [(1, [(vu64 (UInt64.ofNat (natLE ((cutR bs).getD 1 []))))]), (32, ((cutR bs).getD 2 []).map vu8), (32, ((cutR bs).getD 3 []).map vu8)]) (cs := flat [(1, [(vu64 (UInt64.ofNat (natLE ((cutR bs).getD 1 []))))]), (32, ((cutR bs).getD 2 []).map vu8), (32, ((cutR bs).getD 3 []).map vu8)]) Try.underlying30 (zv Try.typeInfo30 rfl) rfl (SsOk.cons (SOk.v rfl) (SsOk.cons (SOk.u8 lr) (SsOk.cons (SOk.u8 lr) SsOk.nil))) (pl30 _ Try.underlying30) rfl (FillR.cons [] [(1, [(vu64 0)])] [(1, [(vu64 (UInt64.ofNat (natLE ((cutR bs).getD 1 []))))])] [(32, (List.replicate 32 (0 : UInt8)).map vu8), (32, (List.replicate 32 (0 : UInt8)).map vu8)] rfl rfl rfl rfl (SsOk.cons (SOk.v rfl) SsOk.nil) rfl rfl rfl (FillR.cons [(1, [(vu64 (UInt64.ofNat (natLE ((cutR bs).getD 1 []))))])] [(32, (List.replicate 32 (0 : UInt8)).map vu8)] [(32, ((cutR bs).getD 2 []).map vu8)] [(32, (List.replicate 32 (0 : UInt8)).map vu8)] rfl rfl rfl rfl (SsOk.cons (SOk.u8 hl_46) SsOk.nil) rfl rfl rfl (FillR.cons [(1, [(vu64 (UInt64.ofNat (natLE ((cutR bs).getD 1 []))))]), (32, ((cutR bs).getD 2 []).map vu8)] [(32, (List.replicate 32 (0 : UInt8)).map vu8)] [(32, ((cutR bs).getD 3 []).map vu8)] [] rfl rfl rfl rfl (SsOk.cons (SOk.u8 hl_55) SsOk.nil) rfl rfl rfl FillR.nil))) rfl) ?_
    refine WT.s (Op1.one rfl (Wn.no rfl) ?_)
    refine WL.storeA (b := b_1) (off := 0) [] [(1, [(vu64 0)]), (32, (List.replicate 32 (0 : UInt8)).map vu8), (32, (List.replicate 32 (0 : UInt8)).map vu8)] [(1, [(vu64 (UInt64.ofNat (natLE ((cutR bs).getD 1 []))))]), (32, ((cutR bs).getD 2 []).map vu8), (32, ((cutR bs).getD 3 []).map vu8)] [] (ys := flat [(1, [(vu64 (UInt64.ofNat (natLE ((cutR bs).getD 1 []))))]), (32, ((cutR bs).getD 2 []).map vu8), (32, ((cutR bs).getD 3 []).map vu8)]) h_59 rfl rfl Try.sizeOf30 Y7 (by decide) rfl rfl rfl rfl rfl rfl (SsOk.cons (SOk.v rfl) (SsOk.cons (SOk.u8 hl_46) (SsOk.cons (SOk.u8 hl_55) SsOk.nil))) (fun w_76 h_77 => ?_)
    refine WL.nil ?_
    refine ⟨(SL.cons (h_77.ok _ M2) (SL.cons (h_77.ok _ M3) (SL.cons (h_77.ok _ M4) (SL.cons (h_77.ok _ M5) (SL.cons (h_77.ok _ M6) (SL.cons (h_77.ok _ M8) (SL.nil _ _))))))), ?_⟩
    refine qT rfl rfl (fun wq hS => R.assign (v := (vi 0)) rfl) ?_
    refine WT.nil (thn_n ?_)
    exact ⟨(a_42, c_44, a_51, c_53), (Ag.upd rfl (U4 rfl rfl rfl rfl (U4 rfl rfl rfl rfl (U4 rfl rfl rfl rfl (Ag.refl _ _))))), ⟨rfl, rfl, rfl, rfl, rfl, rfl, rfl, rfl, (congrArg Value.pointer (a_some0 (viewV (h_59.ok _ M1)) (by rw [len_map hl_46]; decide))), rfl, (congrArg Value.pointer (a_some0 (viewV (h_59.ok _ M0)) (by rw [len_map hl_55]; decide))), rfl, rfl, trivial⟩, h_77⟩
 ·rintro ⟨a_81, c_82, a_83, c_84⟩ J_78 w_79 h_80
  refine thn_n (WP.ret ?_)
  refine ret_of Try.results51 (RV.cell rfl (h_80.loadA (cs := flat [(1, [(vu64 (UInt64.ofNat (natLE ((cutR bs).getD 1 []))))]), (32, ((cutR bs).getD 2 []).map vu8), (32, ((cutR bs).getD 3 []).map vu8)]) Try.isAgg30 Try.sizeOf30 M7 rfl rfl) (RV.tmp (v := (vi 0)) rfl RV.nil)) ?_
  have e2 := me_eq bs
  have e3 := ch_eq bs
  refine ⟨?_, h_80.chgS⟩
  rw [e2, e3]
  rfl

theorem c_atag_nil (a : Option Addr) (n cap : Nat) (w : World) :
  Cs Try.prog 47 [(.pointer none), (.slice a n cap)].toArray w (fun v w1 => v = (.tuple [(.agg ⟨(List.replicate 32 (0 : UInt8)).map vu8⟩), (vi 1)].toArray) ∧ Chg w w1 []) := by
 refine Cs.of (n := 24) (args := [(.pointer none), (.slice a n cap)]) Try.func47 rfl rfl rfl ?_
 have h_0 := HP.init w
 refine WP.seq (WP.reg ?_)
 refine WL.alloc (segs := [(32, (List.replicate 32 (0 : UInt8)).map vu8)]) h_0 (zv Try.typeInfo23 rfl) rfl (SsOk.cons (SOk.u8 lr) SsOk.nil) rfl (fun b_1 w_2 h_3 => ?_)
 refine qA (vi 0) rfl rfl ?_
 refine WL.nil (thn_n (WP.seq (WP.reg ?_)))
 refine qM (.pointer none) rfl rfl ?_
 refine WL.call Try.call20 rfl rfl (c_oKey_nil 9 none 0 0 _ ) rfl ?_
 rintro _ w_5 ⟨rfl, hc_4⟩
 have h_6 := h_3.same hc_4
 refine qM (.tuple [(.agg ⟨(List.replicate 32 (0 : UInt8)).map vu8⟩), (vi 1)].toArray) rfl rfl (qV rfl (R.extract rfl rfl) (qV rfl (R.extract rfl rfl) ?_))
 refine WL.alloc (segs := [(32, (List.replicate 32 (0 : UInt8)).map vu8)]) h_6 (zv Try.typeInfo23 rfl) rfl (SsOk.cons (SOk.u8 lr) SsOk.nil) rfl (fun b_7 w_8 h_9 => ?_)
 refine WL.storeA (b := b_7) (off := 0) [] [(32, (List.replicate 32 (0 : UInt8)).map vu8)] [(32, (List.replicate 32 (0 : UInt8)).map vu8)] [] (ys := (List.replicate 32 (0 : UInt8)).map vu8) h_9 rfl rfl Try.sizeOf23 At.h (by decide) rfl rfl rfl rfl rfl rfl (SsOk.cons (SOk.u8 lr) SsOk.nil) (fun w_10 h_11 => ?_)
 refine qA (vi 1) rfl rfl ?_
 refine WL.nil (thn_n (WP.seq (WP.seq (WP.reg ?_))))
 refine qM (vi 1) rfl rfl (qV rfl (R.bin rfl rfl (bi_neq (r := true) (by decide))) ?_)
 refine WL.nil (thn_n ?_)
 refine WP.condT rfl ?_
 refine WP.seq (WP.reg ?_)
 refine qV rfl (R.buildA (vs := []) (cs := (List.replicate 32 (0 : UInt8)).map vu8) Try.underlying23 Try.sizeOf5 (zv Try.typeInfo23 rfl) rfl rfl) (qM (vi 1) rfl rfl ?_)
 refine WL.storeA (b := b_1) (off := 0) [] [(32, (List.replicate 32 (0 : UInt8)).map vu8)] [(32, (List.replicate 32 (0 : UInt8)).map vu8)] [] (ys := (List.replicate 32 (0 : UInt8)).map vu8) h_11 rfl rfl Try.sizeOf23 Y1 (by decide) rfl rfl rfl rfl rfl rfl (SsOk.cons (SOk.u8 lr) SsOk.nil) (fun w_12 h_13 => ?_)
 refine qA (vi 1) rfl rfl ?_
 refine WL.nil (thn_n (WP.ret (thn_r ?_)))
 refine ret_of Try.results47 (RV.cell rfl (h_13.loadA (cs := (List.replicate 32 (0 : UInt8)).map vu8) Try.isAgg23 Try.sizeOf23 M1 rfl rfl) (RV.tmp (v := (vi 1)) rfl RV.nil)) ?_
 exact ⟨rfl, h_13.chgS⟩

theorem c_atag_v {w00 : World} {L : List Ent} (id : Bool) (ob mp : Nat) (ms df : List UInt8) (hms : ms.length = 32) (da : Option Addr) (dn dc u : Nat) (hdf : df.length = 32 * dn) (la : Option Addr) (lc : Nat) (lx : List Value) (lg : Lg) (hu : u ≤ 500000) (hlg : lg.length ≤ 500000) (a : Option Addr) (n cap : Nat) (bs : List UInt8) (hl : bs.length = n) (hn : n ≤ 100000) (hcap : n ≤ cap) (w : World) (h_0 : HP w00 w (Ent.blk ob .nw 50 [(1, [(.bool id)]), (32, ms.map vu8), (1, [(.slice da dn dc)]), (1, [(vi ((u : Nat) : Int))]), (1, [(.map (some mp))]), (1, [(.slice la lg.length lc)])] :: Ent.row la lg.length lc 111 67 lx :: Ent.obj mp .nw (.map (mArr lg) lg.length) :: Ent.pin (sblks lx) (fun w => Lgs w lx lg) :: Ent.view da (df.map vu8) :: Ent.view a (bs.map vu8) :: L)) :
  Cs Try.prog 47 [(.pointer (some ⟨ob, 0, none⟩)), (.slice a n cap)].toArray w (fun v w1 => ∃ la' lc' lx', v = (.tuple [(.agg ⟨(tgD id df dn u lg ms bs).map vu8⟩), (vi 0)].toArray) ∧ HP w00 w1 (Ent.blk ob .nw 50 [(1, [(.bool id)]), (32, ms.map vu8), (1, [(.slice da dn dc)]), (1, [(vi (((tgU id df dn u lg ms bs) : Nat) : Int))]), (1, [(.map (some mp))]), (1, [(.slice la' ((tgL id df dn u lg ms bs).length) lc')])] :: Ent.row la' ((tgL id df dn u lg ms bs).length) lc' 111 67 lx' :: Ent.obj mp .nw (.map (mArr (tgL id df dn u lg ms bs)) ((tgL id df dn u lg ms bs).length)) :: Ent.pin (sblks lx') (fun w => Lgs w lx' (tgL id df dn u lg ms bs)) :: Ent.view da (df.map vu8) :: Ent.view a (bs.map vu8) :: L)) := by
 refine Cs.of (n := 24) (args := [(pO ob 0), (.slice a n cap)]) Try.func47 rfl rfl rfl ?_
 refine WP.seq (WP.reg ?_)
 refine WL.alloc (segs := [(32, (List.replicate 32 (0 : UInt8)).map vu8)]) h_0 (zv Try.typeInfo23 rfl) rfl (SsOk.cons (SOk.u8 lr) SsOk.nil) rfl (fun b_1 w_2 h_3 => ?_)
 refine qA (vi 0) rfl rfl ?_
 refine WL.nil (thn_n (WP.seq (WP.reg ?_)))
 refine qM (pO ob 0) rfl rfl ?_
 have h_4 := HP_viewNil h_3
 have h_5 := h_4.slsNil
 have h_12 := ((((((h_5.up J1).up J1).up J7).up J7).up J7).up J7).up J7
 have h32_w_16 := Lgs.ok32 (h_12.ok _ M3).1
 refine WL.call Try.call20 rfl rfl (c_oKey id ob mp ms df hms da dn dc u hdf la lc lx lg (by first | omega | (have h1 := anU_le id u lg (tgQ1 ms); exact Nat.le_trans h1 (by omega))) (by first | omega | (have h1 := anL_le id df dn u lg (tgQ1 ms); exact Nat.le_trans h1 (by omega))) none 0 0 [] ([] : List (List UInt8)) rfl 9 (by omega) (by simp only [List.flatten_cons, List.flatten_nil, List.length_append, List.length_nil]; omega) (by omega) _ h_12) rfl ?_
 rintro _ w_16 ⟨la_13, lc_14, lx_15, rfl, h_17⟩
 refine qM (.tuple [(.agg ⟨(anD id df dn u lg (3, ms, 9, ([] : List (List UInt8)).flatten)).map vu8⟩), (vi 0)].toArray) rfl rfl (qV rfl (R.extract rfl rfl) (qV rfl (R.extract rfl rfl) ?_))
 refine WL.alloc (segs := [(32, (List.replicate 32 (0 : UInt8)).map vu8)]) h_17 (zv Try.typeInfo23 rfl) rfl (SsOk.cons (SOk.u8 lr) SsOk.nil) rfl (fun b_18 w_19 h_20 => ?_)
 refine WL.storeA (b := b_18) (off := 0) [] [(32, (List.replicate 32 (0 : UInt8)).map vu8)] [(32, (anD id df dn u lg (3, ms, 9, ([] : List (List UInt8)).flatten)).map vu8)] [] (ys := (anD id df dn u lg (3, ms, 9, ([] : List (List UInt8)).flatten)).map vu8) h_20 rfl rfl Try.sizeOf23 At.h (by decide) rfl rfl rfl rfl rfl rfl (SsOk.cons (SOk.u8 (anD_len hdf h32_w_16)) SsOk.nil) (fun w_21 h_22 => ?_)
 refine qA (vi 0) rfl rfl ?_
 refine WL.nil (thn_n (WP.seq (WP.seq (WP.reg ?_))))
 refine qM (vi 0) rfl rfl (qV rfl (R.bin rfl rfl (bi_neq (r := false) (by decide))) ?_)
 refine WL.nil (thn_n ?_)
 refine WP.condF rfl ?_
 refine WP.skip (thn_n (WP.seq (WP.reg ?_)))
 refine qM (pO ob 0) rfl rfl (qV rfl (R.loadA (b := b_18) (off := 0) [] [(32, (anD id df dn u lg (3, ms, 9, ([] : List (List UInt8)).flatten)).map vu8)] [] (cs := (anD id df dn u lg (3, ms, 9, ([] : List (List UInt8)).flatten)).map vu8) rfl Try.isAgg23 Try.sizeOf23 (h_22.ok _ M0) rfl rfl rfl rfl) (qM (.slice a n cap) rfl rfl ?_))
 refine WL.buildSl (vs := [(0, (.slice a n cap))]) (cs := [(.slice a n cap)]) h_22 Try.underlying36 Try.sizeOf37 (zv Try.typeInfo37 rfl) rfl rfl (by kernel_rfl) rfl (by simp [Value.oneCell']) rfl rfl (fun b_23 w_24 h_25 => ?_)
 have h_26 := HP_blkView h_25
 have hbl_27 : ∀ b ∈ sblks [(.slice a n cap)], ∃ e ∈ ((Ent.view (some ⟨b_23, 0, none⟩) [(.slice a n cap)] :: Ent.blk b_18 .nw 23 [(32, (anD id df dn u lg (3, ms, 9, ([] : List (List UInt8)).flatten)).map vu8)] :: Ent.blk ob .nw 50 [(1, [(.bool id)]), (32, ms.map vu8), (1, [(.slice da dn dc)]), (1, [(vi ((anU id u lg (3, ms, 9, ([] : List (List UInt8)).flatten) : Nat) : Int))]), (1, [(.map (some mp))]), (1, [(.slice la_13 ((anL id df dn u lg (3, ms, 9, ([] : List (List UInt8)).flatten)).length) lc_14)])] :: Ent.row la_13 ((anL id df dn u lg (3, ms, 9, ([] : List (List UInt8)).flatten)).length) lc_14 111 67 lx_15 :: Ent.obj mp .nw (.map (mArr (anL id df dn u lg (3, ms, 9, ([] : List (List UInt8)).flatten))) ((anL id df dn u lg (3, ms, 9, ([] : List (List UInt8)).flatten)).length)) :: Ent.pin (sblks lx_15) (fun w => Lgs w lx_15 (anL id df dn u lg (3, ms, 9, ([] : List (List UInt8)).flatten))) :: Ent.view da (df.map vu8) :: Ent.pin (sblks []) (fun w => Sls w [] []) :: Ent.view none [] :: Ent.blk b_1 .nw 23 [(32, (List.replicate 32 (0 : UInt8)).map vu8)] :: Ent.view a (bs.map vu8) :: L) : List Ent), e.mut = false ∧ b ∈ e.blocks := by
  intro b hb
  rcases List.mem_append.1 hb with hb | hb
  ·exact ⟨_, M10, rfl, sblk_in_view hl b hb⟩
  cases hb
 have h_28 := HP_within (e' := .pin (sblks [(.slice a n cap)]) (fun w => Sls w [(.slice a n cap)] [bs])) h_26 (Sls.pin (Sls.cons hl (by omega) (viewV (h_26.ok _ M10)) Sls.nil)) rfl rfl hbl_27
 have h_35 := ((((((h_28.up J1).up J1).up J7).up J7).up J7).up J7).up J7
 have h32_w_39 := Lgs.ok32 (h_35.ok _ M3).1
 refine WL.call Try.call21 rfl rfl (c_oTag id ob mp ms df hms da dn dc (anU id u lg (3, ms, 9, ([] : List (List UInt8)).flatten)) hdf la_13 lc_14 lx_15 (anL id df dn u lg (3, ms, 9, ([] : List (List UInt8)).flatten)) (by first | omega | (have h1 := anU_le id u lg (tgQ1 ms); exact Nat.le_trans h1 (by omega))) (by first | omega | (have h1 := anL_le id df dn u lg (tgQ1 ms); exact Nat.le_trans h1 (by omega))) (some ⟨b_23, 0, none⟩) 1 1 [(.slice a n cap)] [bs] rfl (anD id df dn u lg (3, ms, 9, ([] : List (List UInt8)).flatten)) (anD_len hdf h32_w_16) 7 (by omega) (by simp only [List.flatten_cons, List.flatten_nil, List.length_append, List.length_nil]; omega) (by omega) _ h_35) rfl ?_
 rintro _ w_39 ⟨la_36, lc_37, lx_38, rfl, h_40⟩
 refine qV rfl (R.extract rfl rfl) (qV rfl (R.extract rfl rfl) ?_)
 refine WL.storeA (b := b_1) (off := 0) [] [(32, (List.replicate 32 (0 : UInt8)).map vu8)] [(32, (anD id df dn (anU id u lg (3, ms, 9, ([] : List (List UInt8)).flatten)) (anL id df dn u lg (3, ms, 9, ([] : List (List UInt8)).flatten)) (2, anD id df dn u lg (3, ms, 9, ([] : List (List UInt8)).flatten), 7, [bs].flatten)).map vu8)] [] (ys := (anD id df dn (anU id u lg (3, ms, 9, ([] : List (List UInt8)).flatten)) (anL id df dn u lg (3, ms, 9, ([] : List (List UInt8)).flatten)) (2, anD id df dn u lg (3, ms, 9, ([] : List (List UInt8)).flatten), 7, [bs].flatten)).map vu8) h_40 rfl rfl Try.sizeOf23 Y10 (by decide) rfl rfl rfl rfl rfl rfl (SsOk.cons (SOk.u8 (anD_len hdf h32_w_39)) SsOk.nil) (fun w_41 h_42 => ?_)
 refine qA (vi 0) rfl rfl ?_
 refine WL.nil (thn_n (WP.ret ?_))
 refine ret_of Try.results47 (RV.cell rfl (h_42.loadA (cs := (anD id df dn (anU id u lg (3, ms, 9, ([] : List (List UInt8)).flatten)) (anL id df dn u lg (3, ms, 9, ([] : List (List UInt8)).flatten)) (2, anD id df dn u lg (3, ms, 9, ([] : List (List UInt8)).flatten), 7, [bs].flatten)).map vu8) Try.isAgg23 Try.sizeOf23 M10 rfl rfl) (RV.tmp (v := (vi 0)) rfl RV.nil)) ?_
 have h_60 := (((((((((((((((((h_42.up J5).drop rfl).up J5).drop rfl).up J5).drop rfl).up J5).drop rfl).up J5).drop rfl).up J5).drop rfl).up J5).up J5).up J5).up J5).up J5).up J5
 exact ⟨_, _, _, rfl, h_60⟩

theorem c_atag_r {w00 : World} {L : List Ent} (id : Bool) (ob mp : Nat) (ms df : List UInt8) (hms : ms.length = 32) (da : Option Addr) (dn dc u : Nat) (hdf : df.length = 32 * dn) (la : Option Addr) (lc : Nat) (lx : List Value) (lg : Lg) (hu : u ≤ 500000) (hlg : lg.length ≤ 500000) (a : Option Addr) (n cap : Nat) (bs : List UInt8) (hl : bs.length = n) (hn : n ≤ 100000) (w : World) (h_0 : HP w00 w (Ent.blk ob .nw 50 [(1, [(.bool id)]), (32, ms.map vu8), (1, [(.slice da dn dc)]), (1, [(vi ((u : Nat) : Int))]), (1, [(.map (some mp))]), (1, [(.slice la lg.length lc)])] :: Ent.row la lg.length lc 111 67 lx :: Ent.obj mp .nw (.map (mArr lg) lg.length) :: Ent.pin (sblks lx) (fun w => Lgs w lx lg) :: Ent.view da (df.map vu8) :: Ent.row a n cap 5 1 (bs.map vu8) :: L)) :
  Cs Try.prog 47 [(.pointer (some ⟨ob, 0, none⟩)), (.slice a n cap)].toArray w (fun v w1 => ∃ la' lc' lx', v = (.tuple [(.agg ⟨(tgD id df dn u lg ms bs).map vu8⟩), (vi 0)].toArray) ∧ HP w00 w1 (Ent.blk ob .nw 50 [(1, [(.bool id)]), (32, ms.map vu8), (1, [(.slice da dn dc)]), (1, [(vi (((tgU id df dn u lg ms bs) : Nat) : Int))]), (1, [(.map (some mp))]), (1, [(.slice la' ((tgL id df dn u lg ms bs).length) lc')])] :: Ent.row la' ((tgL id df dn u lg ms bs).length) lc' 111 67 lx' :: Ent.obj mp .nw (.map (mArr (tgL id df dn u lg ms bs)) ((tgL id df dn u lg ms bs).length)) :: Ent.pin (sblks lx') (fun w => Lgs w lx' (tgL id df dn u lg ms bs)) :: Ent.view da (df.map vu8) :: Ent.row a n cap 5 1 (bs.map vu8) :: L)) := by
 refine Cs.of (n := 24) (args := [(pO ob 0), (.slice a n cap)]) Try.func47 rfl rfl rfl ?_
 refine WP.seq (WP.reg ?_)
 refine WL.alloc (segs := [(32, (List.replicate 32 (0 : UInt8)).map vu8)]) h_0 (zv Try.typeInfo23 rfl) rfl (SsOk.cons (SOk.u8 lr) SsOk.nil) rfl (fun b_1 w_2 h_3 => ?_)
 refine qA (vi 0) rfl rfl ?_
 refine WL.nil (thn_n (WP.seq (WP.reg ?_)))
 refine qM (pO ob 0) rfl rfl ?_
 have h_4 := HP_viewNil h_3
 have h_5 := h_4.slsNil
 have h_12 := ((((((h_5.up J1).up J1).up J7).up J7).up J7).up J7).up J7
 have h32_w_16 := Lgs.ok32 (h_12.ok _ M3).1
 refine WL.call Try.call20 rfl rfl (c_oKey id ob mp ms df hms da dn dc u hdf la lc lx lg (by first | omega | (have h1 := anU_le id u lg (tgQ1 ms); exact Nat.le_trans h1 (by omega))) (by first | omega | (have h1 := anL_le id df dn u lg (tgQ1 ms); exact Nat.le_trans h1 (by omega))) none 0 0 [] ([] : List (List UInt8)) rfl 9 (by omega) (by simp only [List.flatten_cons, List.flatten_nil, List.length_append, List.length_nil]; omega) (by omega) _ h_12) rfl ?_
 rintro _ w_16 ⟨la_13, lc_14, lx_15, rfl, h_17⟩
 refine qM (.tuple [(.agg ⟨(anD id df dn u lg (3, ms, 9, ([] : List (List UInt8)).flatten)).map vu8⟩), (vi 0)].toArray) rfl rfl (qV rfl (R.extract rfl rfl) (qV rfl (R.extract rfl rfl) ?_))
 refine WL.alloc (segs := [(32, (List.replicate 32 (0 : UInt8)).map vu8)]) h_17 (zv Try.typeInfo23 rfl) rfl (SsOk.cons (SOk.u8 lr) SsOk.nil) rfl (fun b_18 w_19 h_20 => ?_)
 refine WL.storeA (b := b_18) (off := 0) [] [(32, (List.replicate 32 (0 : UInt8)).map vu8)] [(32, (anD id df dn u lg (3, ms, 9, ([] : List (List UInt8)).flatten)).map vu8)] [] (ys := (anD id df dn u lg (3, ms, 9, ([] : List (List UInt8)).flatten)).map vu8) h_20 rfl rfl Try.sizeOf23 At.h (by decide) rfl rfl rfl rfl rfl rfl (SsOk.cons (SOk.u8 (anD_len hdf h32_w_16)) SsOk.nil) (fun w_21 h_22 => ?_)
 refine qA (vi 0) rfl rfl ?_
 refine WL.nil (thn_n (WP.seq (WP.seq (WP.reg ?_))))
 refine qM (vi 0) rfl rfl (qV rfl (R.bin rfl rfl (bi_neq (r := false) (by decide))) ?_)
 refine WL.nil (thn_n ?_)
 refine WP.condF rfl ?_
 refine WP.skip (thn_n (WP.seq (WP.reg ?_)))
 refine qM (pO ob 0) rfl rfl (qV rfl (R.loadA (b := b_18) (off := 0) [] [(32, (anD id df dn u lg (3, ms, 9, ([] : List (List UInt8)).flatten)).map vu8)] [] (cs := (anD id df dn u lg (3, ms, 9, ([] : List (List UInt8)).flatten)).map vu8) rfl Try.isAgg23 Try.sizeOf23 (h_22.ok _ M0) rfl rfl rfl rfl) (qM (.slice a n cap) rfl rfl ?_))
 refine WL.buildSl (vs := [(0, (.slice a n cap))]) (cs := [(.slice a n cap)]) h_22 Try.underlying36 Try.sizeOf37 (zv Try.typeInfo37 rfl) rfl rfl (by kernel_rfl) rfl (by simp [Value.oneCell']) rfl rfl (fun b_23 w_24 h_25 => ?_)
 have h_32 := ((((((h_25.up J10).up J1).up J7).up J7).up J7).up J7).up J7
 have h32_w_36 := Lgs.ok32 (h_32.ok _ M3).1
 refine WL.call Try.call21 rfl rfl (c_oTag1 id ob mp ms df hms da dn dc (anU id u lg (3, ms, 9, ([] : List (List UInt8)).flatten)) hdf la_13 lc_14 lx_15 (anL id df dn u lg (3, ms, 9, ([] : List (List UInt8)).flatten)) (by first | omega | (have h1 := anU_le id u lg (tgQ1 ms); exact Nat.le_trans h1 (by omega))) (by first | omega | (have h1 := anL_le id df dn u lg (tgQ1 ms); exact Nat.le_trans h1 (by omega))) (anD id df dn u lg (3, ms, 9, ([] : List (List UInt8)).flatten)) (anD_len hdf h32_w_16) 7 (by omega) b_23 a n cap bs hl (by omega) _ h_32) rfl ?_
 rintro _ w_36 ⟨la_33, lc_34, lx_35, rfl, h_37⟩
 refine qV rfl (R.extract rfl rfl) (qV rfl (R.extract rfl rfl) ?_)
 refine WL.storeA (b := b_1) (off := 0) [] [(32, (List.replicate 32 (0 : UInt8)).map vu8)] [(32, (anD id df dn (anU id u lg (3, ms, 9, ([] : List (List UInt8)).flatten)) (anL id df dn u lg (3, ms, 9, ([] : List (List UInt8)).flatten)) (2, anD id df dn u lg (3, ms, 9, ([] : List (List UInt8)).flatten), 7, [bs].flatten)).map vu8)] [] (ys := (anD id df dn (anU id u lg (3, ms, 9, ([] : List (List UInt8)).flatten)) (anL id df dn u lg (3, ms, 9, ([] : List (List UInt8)).flatten)) (2, anD id df dn u lg (3, ms, 9, ([] : List (List UInt8)).flatten), 7, [bs].flatten)).map vu8) h_37 rfl rfl Try.sizeOf23 Y10 (by decide) rfl rfl rfl rfl rfl rfl (SsOk.cons (SOk.u8 (anD_len hdf h32_w_36)) SsOk.nil) (fun w_38 h_39 => ?_)
 refine qA (vi 0) rfl rfl ?_
 refine WL.nil (thn_n (WP.ret ?_))
 refine ret_of Try.results47 (RV.cell rfl (h_39.loadA (cs := (anD id df dn (anU id u lg (3, ms, 9, ([] : List (List UInt8)).flatten)) (anL id df dn u lg (3, ms, 9, ([] : List (List UInt8)).flatten)) (2, anD id df dn u lg (3, ms, 9, ([] : List (List UInt8)).flatten), 7, [bs].flatten)).map vu8) Try.isAgg23 Try.sizeOf23 M10 rfl rfl) (RV.tmp (v := (vi 0)) rfl RV.nil)) ?_
 have h_55 := (((((((((((((((h_39.up J5).drop rfl).up J6).drop rfl).up J6).drop rfl).up J6).drop rfl).up J6).drop rfl).up J5).up J5).up J5).up J5).up J5).up J5
 exact ⟨_, _, _, rfl, h_55⟩

theorem c_atag_p {w00 : World} {L : List Ent} (id : Bool) (ob mp : Nat) (ms df : List UInt8) (hms : ms.length = 32) (da : Option Addr) (dn dc u : Nat) (hdf : df.length = 32 * dn) (la : Option Addr) (lc : Nat) (lx : List Value) (lg : Lg) (hu : u ≤ 500000) (hlg : lg.length ≤ 500000) (a : Option Addr) (n k cap cap2 : Nat) (bs : List UInt8) (hl : bs.length = n) (hn : n ≤ 100000) (hk : k ≤ n) (hkc : k ≤ cap) (w : World) (h_0 : HP w00 w (Ent.blk ob .nw 50 [(1, [(.bool id)]), (32, ms.map vu8), (1, [(.slice da dn dc)]), (1, [(vi ((u : Nat) : Int))]), (1, [(.map (some mp))]), (1, [(.slice la lg.length lc)])] :: Ent.row la lg.length lc 111 67 lx :: Ent.obj mp .nw (.map (mArr lg) lg.length) :: Ent.pin (sblks lx) (fun w => Lgs w lx lg) :: Ent.view da (df.map vu8) :: Ent.row a n cap2 5 1 (bs.map vu8) :: L)) :
  Cs Try.prog 47 [(.pointer (some ⟨ob, 0, none⟩)), (.slice a k cap)].toArray w (fun v w1 => ∃ la' lc' lx', v = (.tuple [(.agg ⟨(tgD id df dn u lg ms (bs.take k)).map vu8⟩), (vi 0)].toArray) ∧ HP w00 w1 (Ent.blk ob .nw 50 [(1, [(.bool id)]), (32, ms.map vu8), (1, [(.slice da dn dc)]), (1, [(vi (((tgU id df dn u lg ms (bs.take k)) : Nat) : Int))]), (1, [(.map (some mp))]), (1, [(.slice la' ((tgL id df dn u lg ms (bs.take k)).length) lc')])] :: Ent.row la' ((tgL id df dn u lg ms (bs.take k)).length) lc' 111 67 lx' :: Ent.obj mp .nw (.map (mArr (tgL id df dn u lg ms (bs.take k))) ((tgL id df dn u lg ms (bs.take k)).length)) :: Ent.pin (sblks lx') (fun w => Lgs w lx' (tgL id df dn u lg ms (bs.take k))) :: Ent.view da (df.map vu8) :: Ent.row a n cap2 5 1 (bs.map vu8) :: L)) := by
 refine Cs.of (n := 24) (args := [(pO ob 0), (.slice a k cap)]) Try.func47 rfl rfl rfl ?_
 refine WP.seq (WP.reg ?_)
 refine WL.alloc (segs := [(32, (List.replicate 32 (0 : UInt8)).map vu8)]) h_0 (zv Try.typeInfo23 rfl) rfl (SsOk.cons (SOk.u8 lr) SsOk.nil) rfl (fun b_1 w_2 h_3 => ?_)
 refine qA (vi 0) rfl rfl ?_
 refine WL.nil (thn_n (WP.seq (WP.reg ?_)))
 refine qM (pO ob 0) rfl rfl ?_
 have h_4 := HP_viewNil h_3
 have h_5 := h_4.slsNil
 have h_12 := ((((((h_5.up J1).up J1).up J7).up J7).up J7).up J7).up J7
 have h32_w_16 := Lgs.ok32 (h_12.ok _ M3).1
 refine WL.call Try.call20 rfl rfl (c_oKey id ob mp ms df hms da dn dc u hdf la lc lx lg (by first | omega | (have h1 := anU_le id u lg (tgQ1 ms); exact Nat.le_trans h1 (by omega))) (by first | omega | (have h1 := anL_le id df dn u lg (tgQ1 ms); exact Nat.le_trans h1 (by omega))) none 0 0 [] ([] : List (List UInt8)) rfl 9 (by omega) (by decide) (by omega) _ h_12) rfl ?_
 rintro _ w_16 ⟨la_13, lc_14, lx_15, rfl, h_17⟩
 refine qM (.tuple [(.agg ⟨(anD id df dn u lg (3, ms, 9, ([] : List (List UInt8)).flatten)).map vu8⟩), (vi 0)].toArray) rfl rfl (qV rfl (R.extract rfl rfl) (qV rfl (R.extract rfl rfl) ?_))
 refine WL.alloc (segs := [(32, (List.replicate 32 (0 : UInt8)).map vu8)]) h_17 (zv Try.typeInfo23 rfl) rfl (SsOk.cons (SOk.u8 lr) SsOk.nil) rfl (fun b_18 w_19 h_20 => ?_)
 refine WL.storeA (b := b_18) (off := 0) [] [(32, (List.replicate 32 (0 : UInt8)).map vu8)] [(32, (anD id df dn u lg (3, ms, 9, ([] : List (List UInt8)).flatten)).map vu8)] [] (ys := (anD id df dn u lg (3, ms, 9, ([] : List (List UInt8)).flatten)).map vu8) h_20 rfl rfl Try.sizeOf23 At.h (by decide) rfl rfl rfl rfl rfl rfl (SsOk.cons (SOk.u8 (anD_len hdf h32_w_16)) SsOk.nil) (fun w_21 h_22 => ?_)
 refine qA (vi 0) rfl rfl ?_
 refine WL.nil (thn_n (WP.seq (WP.seq (WP.reg ?_))))
 refine qM (vi 0) rfl rfl (qV rfl (R.bin rfl rfl (bi_neq (r := false) (by decide))) ?_)
 refine WL.nil (thn_n ?_)
 refine WP.condF rfl ?_
 refine WP.skip (thn_n (WP.seq (WP.reg ?_)))
 refine qM (pO ob 0) rfl rfl (qV rfl (R.loadA (b := b_18) (off := 0) [] [(32, (anD id df dn u lg (3, ms, 9, ([] : List (List UInt8)).flatten)).map vu8)] [] (cs := (anD id df dn u lg (3, ms, 9, ([] : List (List UInt8)).flatten)).map vu8) rfl Try.isAgg23 Try.sizeOf23 (h_22.ok _ M0) rfl rfl rfl rfl) (qM (.slice a k cap) rfl rfl ?_))
 refine WL.buildSl (vs := [(0, (.slice a k cap))]) (cs := [(.slice a k cap)]) h_22 Try.underlying36 Try.sizeOf37 (zv Try.typeInfo37 rfl) rfl rfl (by kernel_rfl) rfl (by simp [Value.oneCell']) rfl rfl (fun b_23 w_24 h_25 => ?_)
 have h_32 := ((((((h_25.up J10).up J1).up J7).up J7).up J7).up J7).up J7
 have h32_w_36 := Lgs.ok32 (h_32.ok _ M3).1
 refine WL.call Try.call21 rfl rfl (c_oTag1p id ob mp ms df hms da dn dc (anU id u lg (3, ms, 9, ([] : List (List UInt8)).flatten)) hdf la_13 lc_14 lx_15 (anL id df dn u lg (3, ms, 9, ([] : List (List UInt8)).flatten)) (by first | omega | (have h1 := anU_le id u lg (tgQ1 ms); exact Nat.le_trans h1 (by omega))) (by first | omega | (have h1 := anL_le id df dn u lg (tgQ1 ms); exact Nat.le_trans h1 (by omega))) (anD id df dn u lg (3, ms, 9, ([] : List (List UInt8)).flatten)) (anD_len hdf h32_w_16) 7 (by omega) b_23 a n k cap cap2 bs hl (by omega) hkc (by omega) _ h_32) rfl ?_
 rintro _ w_36 ⟨la_33, lc_34, lx_35, rfl, h_37⟩
 refine qV rfl (R.extract rfl rfl) (qV rfl (R.extract rfl rfl) ?_)
 refine WL.storeA (b := b_1) (off := 0) [] [(32, (List.replicate 32 (0 : UInt8)).map vu8)] [(32, (anD id df dn (anU id u lg (3, ms, 9, ([] : List (List UInt8)).flatten)) (anL id df dn u lg (3, ms, 9, ([] : List (List UInt8)).flatten)) (2, anD id df dn u lg (3, ms, 9, ([] : List (List UInt8)).flatten), 7, [bs.take k].flatten)).map vu8)] [] (ys := (anD id df dn (anU id u lg (3, ms, 9, ([] : List (List UInt8)).flatten)) (anL id df dn u lg (3, ms, 9, ([] : List (List UInt8)).flatten)) (2, anD id df dn u lg (3, ms, 9, ([] : List (List UInt8)).flatten), 7, [bs.take k].flatten)).map vu8) h_37 rfl rfl Try.sizeOf23 Y10 (by decide) rfl rfl rfl rfl rfl rfl (SsOk.cons (SOk.u8 (anD_len hdf h32_w_36)) SsOk.nil) (fun w_38 h_39 => ?_)
 refine qA (vi 0) rfl rfl ?_
 refine WL.nil (thn_n (WP.ret ?_))
 refine ret_of Try.results47 (RV.cell rfl (h_39.loadA (cs := (anD id df dn (anU id u lg (3, ms, 9, ([] : List (List UInt8)).flatten)) (anL id df dn u lg (3, ms, 9, ([] : List (List UInt8)).flatten)) (2, anD id df dn u lg (3, ms, 9, ([] : List (List UInt8)).flatten), 7, [bs.take k].flatten)).map vu8) Try.isAgg23 Try.sizeOf23 M10 rfl rfl) (RV.tmp (v := (vi 0)) rfl RV.nil)) ?_
 have h_55 := (((((((((((((((h_39.up J5).drop rfl).up J6).drop rfl).up J6).drop rfl).up J6).drop rfl).up J6).drop rfl).up J5).up J5).up J5).up J5).up J5).up J5
 exact ⟨_, _, _, rfl, h_55⟩

theorem c_Iss_nil (ins : UInt64) (me ch : List UInt8) (hme : me.length = 32) (hch : ch.length = 32) (w : World) :
  Cs Try.prog 13 [(.pointer none), (.agg ⟨flat [(1, [(vu64 ins)]), (32, me.map vu8), (32, ch.map vu8)]⟩)].toArray w (fun v w1 => v = (.tuple [(.slice none 0 0), (vi 1)].toArray) ∧ Chg w w1 []) := by
 refine Cs.of (n := 23) (args := [(.pointer none), (.agg ⟨flat [(1, [(vu64 ins)]), (32, me.map vu8), (32, ch.map vu8)]⟩)]) Try.func13 rfl rfl rfl ?_
 have h_0 := HP.init w
 refine WP.seq (WP.reg ?_)
 refine WL.box (v := (.agg ⟨flat [(1, [(vu64 ins)]), (32, me.map vu8), (32, ch.map vu8)]⟩)) (segs := [(1, [(vu64 ins)]), (32, me.map vu8), (32, ch.map vu8)]) h_0 rfl rfl (SsOk.cons (SOk.v rfl) (SsOk.cons (SOk.u8 hme) (SsOk.cons (SOk.u8 hch) SsOk.nil))) rfl (fun b_1 w_2 h_3 => ?_)
 refine qA (.slice none 0 0) rfl rfl (qA (vi 0) rfl rfl ?_)
 refine WL.nil (thn_n (WP.seq (WP.reg ?_)))
 refine qV rfl (R.loadA (b := b_1) (off := 0) [] [(1, [(vu64 ins)]), (32, me.map vu8), (32, ch.map vu8)] [] (cs := flat [(1, [(vu64 ins)]), (32, me.map vu8), (32, ch.map vu8)]) rfl Try.isAgg30 Try.sizeOf30 (h_3.ok _ M0) rfl rfl rfl rfl) ?_
 refine WL.call Try.call46 rfl rfl (c_rBytes ins me ch hme hch _) rfl ?_
 rintro _ w_6 ⟨a_4, cap_5, rfl, hc_7, ho_8⟩
 have h_9 := h_3.gotRow hc_7 ho_8
 refine qA (.slice a_4 80 cap_5) rfl rfl ?_
 refine WL.nil (thn_n (WP.seq (WP.reg ?_)))
 refine qM (.pointer none) rfl rfl (qM (.slice a_4 80 cap_5) rfl rfl ?_)
 refine WL.call Try.call47 rfl rfl (c_atag_nil a_4 80 cap_5 _ ) rfl ?_
 rintro _ w_11 ⟨rfl, hc_10⟩
 have h_12 := h_9.same hc_10
 refine qM (.tuple [(.agg ⟨(List.replicate 32 (0 : UInt8)).map vu8⟩), (vi 1)].toArray) rfl rfl (qV rfl (R.extract rfl rfl) (qV rfl (R.extract rfl rfl) ?_))
 refine WL.alloc (segs := [(32, (List.replicate 32 (0 : UInt8)).map vu8)]) h_12 (zv Try.typeInfo23 rfl) rfl (SsOk.cons (SOk.u8 lr) SsOk.nil) rfl (fun b_13 w_14 h_15 => ?_)
 refine WL.storeA (b := b_13) (off := 0) [] [(32, (List.replicate 32 (0 : UInt8)).map vu8)] [(32, (List.replicate 32 (0 : UInt8)).map vu8)] [] (ys := (List.replicate 32 (0 : UInt8)).map vu8) h_15 rfl rfl Try.sizeOf23 At.h (by decide) rfl rfl rfl rfl rfl rfl (SsOk.cons (SOk.u8 lr) SsOk.nil) (fun w_16 h_17 => ?_)
 refine qA (vi 1) rfl rfl ?_
 refine WL.nil (thn_n (WP.seq (WP.seq (WP.reg ?_))))
 refine qM (vi 1) rfl rfl (qV rfl (R.bin rfl rfl (bi_neq (r := true) (by decide))) ?_)
 refine WL.nil (thn_n ?_)
 refine WP.condT rfl ?_
 refine WP.seq (WP.reg ?_)
 refine qM (vi 1) rfl rfl (qA (.slice none 0 0) rfl rfl (qA (vi 1) rfl rfl ?_))
 refine WL.nil (thn_n (WP.ret (thn_r ?_)))
 refine ret_of Try.results13 (RV.tmp (v := (.slice none 0 0)) rfl (RV.tmp (v := (vi 1)) rfl RV.nil)) ?_
 exact ⟨rfl, h_17.chgS⟩

theorem c_Iss {w00 : World} {L : List Ent} (id : Bool) (ob mp : Nat) (ms df : List UInt8) (hms : ms.length = 32) (da : Option Addr) (dn dc u : Nat) (hdf : df.length = 32 * dn) (la : Option Addr) (lc : Nat) (lx : List Value) (lg : Lg) (hu : u ≤ 500000) (hlg : lg.length ≤ 500000) (ins : UInt64) (me ch : List UInt8) (hme : me.length = 32) (hch : ch.length = 32) (w : World) (h_0 : HP w00 w (Ent.blk ob .nw 50 [(1, [(.bool id)]), (32, ms.map vu8), (1, [(.slice da dn dc)]), (1, [(vi ((u : Nat) : Int))]), (1, [(.map (some mp))]), (1, [(.slice la lg.length lc)])] :: Ent.row la lg.length lc 111 67 lx :: Ent.obj mp .nw (.map (mArr lg) lg.length) :: Ent.pin (sblks lx) (fun w => Lgs w lx lg) :: Ent.view da (df.map vu8) :: L)) :
  Cs Try.prog 13 [(.pointer (some ⟨ob, 0, none⟩)), (.agg ⟨flat [(1, [(vu64 ins)]), (32, me.map vu8), (32, ch.map vu8)]⟩)].toArray w (fun v w1 => ∃ ra rc la' lc' lx', v = .tuple [.slice ra 112 rc, vi 0].toArray ∧ HP w00 w1 (Ent.row ra 112 rc 5 1 ((repB ins me ch ++ tgD id df dn u lg ms (repB ins me ch)).map vu8) :: Ent.blk ob .nw 50 [(1, [(.bool id)]), (32, ms.map vu8), (1, [(.slice da dn dc)]), (1, [(vi (((tgU id df dn u lg ms (repB ins me ch)) : Nat) : Int))]), (1, [(.map (some mp))]), (1, [(.slice la' ((tgL id df dn u lg ms (repB ins me ch)).length) lc')])] :: Ent.row la' ((tgL id df dn u lg ms (repB ins me ch)).length) lc' 111 67 lx' :: Ent.obj mp .nw (.map (mArr (tgL id df dn u lg ms (repB ins me ch))) ((tgL id df dn u lg ms (repB ins me ch)).length)) :: Ent.pin (sblks lx') (fun w => Lgs w lx' (tgL id df dn u lg ms (repB ins me ch))) :: Ent.view da (df.map vu8) :: L)) := by
 refine Cs.of (n := 23) (args := [(pO ob 0), (.agg ⟨flat [(1, [(vu64 ins)]), (32, me.map vu8), (32, ch.map vu8)]⟩)]) Try.func13 rfl rfl rfl ?_
 refine WP.seq (WP.reg ?_)
 refine WL.box (v := (.agg ⟨flat [(1, [(vu64 ins)]), (32, me.map vu8), (32, ch.map vu8)]⟩)) (segs := [(1, [(vu64 ins)]), (32, me.map vu8), (32, ch.map vu8)]) h_0 rfl rfl (SsOk.cons (SOk.v rfl) (SsOk.cons (SOk.u8 hme) (SsOk.cons (SOk.u8 hch) SsOk.nil))) rfl (fun b_1 w_2 h_3 => ?_)
 refine qA (.slice none 0 0) rfl rfl (qA (vi 0) rfl rfl ?_)
 refine WL.nil (thn_n (WP.seq (WP.reg ?_)))
 refine qV rfl (R.loadA (b := b_1) (off := 0) [] [(1, [(vu64 ins)]), (32, me.map vu8), (32, ch.map vu8)] [] (cs := flat [(1, [(vu64 ins)]), (32, me.map vu8), (32, ch.map vu8)]) rfl Try.isAgg30 Try.sizeOf30 (h_3.ok _ M0) rfl rfl rfl rfl) ?_
 refine WL.call Try.call46 rfl rfl (c_rBytes ins me ch hme hch _) rfl ?_
 rintro _ w_6 ⟨a_4, cap_5, rfl, hc_7, ho_8⟩
 have h_9 := h_3.gotRow hc_7 ho_8
 refine qA (.slice a_4 80 cap_5) rfl rfl ?_
 refine WL.nil (thn_n (WP.seq (WP.reg ?_)))
 refine qM (pO ob 0) rfl rfl (qM (.slice a_4 80 cap_5) rfl rfl ?_)
 have h_14 := ((((h_9.up J6).up J6).up J6).up J6).up J6
 have h32_w_18 := Lgs.ok32 (h_14.ok _ M3).1
 refine WL.call Try.call47 rfl rfl (c_atag_r id ob mp ms df hms da dn dc u hdf la lc lx lg hu hlg a_4 80 cap_5 (repB ins me ch) (repB_len hme hch) (by omega) _ h_14) rfl ?_
 rintro _ w_18 ⟨la_15, lc_16, lx_17, rfl, h_19⟩
 refine qM (.tuple [(.agg ⟨(tgD id df dn u lg ms (repB ins me ch)).map vu8⟩), (vi 0)].toArray) rfl rfl (qV rfl (R.extract rfl rfl) (qV rfl (R.extract rfl rfl) ?_))
 refine WL.alloc (segs := [(32, (List.replicate 32 (0 : UInt8)).map vu8)]) h_19 (zv Try.typeInfo23 rfl) rfl (SsOk.cons (SOk.u8 lr) SsOk.nil) rfl (fun b_20 w_21 h_22 => ?_)
 refine WL.storeA (b := b_20) (off := 0) [] [(32, (List.replicate 32 (0 : UInt8)).map vu8)] [(32, (tgD id df dn u lg ms (repB ins me ch)).map vu8)] [] (ys := (tgD id df dn u lg ms (repB ins me ch)).map vu8) h_22 rfl rfl Try.sizeOf23 At.h (by decide) rfl rfl rfl rfl rfl rfl (SsOk.cons (SOk.u8 (tgD_len (dn := dn) hdf h32_w_18)) SsOk.nil) (fun w_23 h_24 => ?_)
 refine qA (vi 0) rfl rfl ?_
 refine WL.nil (thn_n (WP.seq (WP.seq (WP.reg ?_))))
 refine qM (vi 0) rfl rfl (qV rfl (R.bin rfl rfl (bi_neq (r := false) (by decide))) ?_)
 refine WL.nil (thn_n ?_)
 refine WP.condF rfl ?_
 refine WP.skip (thn_n (WP.seq (WP.reg ?_)))
 refine qM (.slice a_4 80 cap_5) rfl rfl (qV rfl (R.sliceA (b := b_20) (off := 0) (off' := 0) (l := 0) (h := 32) rfl EvB.dflt EvB.dflt (by decide) (by decide) Try.underlying23 Try.sizeOf5 rfl) ?_)
 refine WL.append (km := 112) (xs := (repB ins me ch).map vu8) (ys := (tgD id df dn u lg ms (repB ins me ch)).map vu8) (zs := ((repB ins me ch) ++ (tgD id df dn u lg ms (repB ins me ch))).map vu8) h_24 rfl rfl el37 (viewB (h_24.ok _ M0) Sg.h) ((len_map (tgD_len (dn := dn) hdf h32_w_18)).trans (Nat.mul_one _).symm) (one_u8 _) (by simp only [List.map_append, List.map_nil]) rfl (by omega) (by omega) (fun _ _ => Y6) rfl (fun a_25 c_26 w_27 h_28 => ?_)
 refine qA (.slice a_25 112 c_26) rfl rfl (qA (vi 0) rfl rfl ?_)
 refine WL.nil (thn_n (WP.ret ?_))
 refine ret_of Try.results13 (RV.tmp (v := (.slice a_25 112 c_26)) rfl (RV.tmp (v := (vi 0)) rfl RV.nil)) ?_
 have h_37 := ((((((((h_28.drop rfl).up J6).drop rfl).up J4).up J4).up J4).up J4).up J4).up J5
 exact ⟨_, _, _, _, _, rfl, h_37⟩

theorem c_Spl_len (a : Option Addr) (n cap : Nat) (hn : n ≠ 112) (w : World) :
  Cs Try.prog 18 [(.slice a n cap)].toArray w (fun v w1 => v = (.tuple [(.agg ⟨flat [(1, [(vu64 0)]), (32, (List.replicate 32 (0 : UInt8)).map vu8), (32, (List.replicate 32 (0 : UInt8)).map vu8)]⟩), (.agg ⟨(List.replicate 32 (0 : UInt8)).map vu8⟩), (vi 4)].toArray) ∧ Chg w w1 []) := by
 refine Cs.of (n := 34) (args := [(.slice a n cap)]) Try.func18 rfl rfl rfl ?_
 have h_0 := HP.init w
 refine WP.seq (WP.reg ?_)
 refine WL.alloc (segs := [(1, [(vu64 0)]), (32, (List.replicate 32 (0 : UInt8)).map vu8), (32, (List.replicate 32 (0 : UInt8)).map vu8)]) h_0 (zv Try.typeInfo30 rfl) rfl (SsOk.cons (SOk.v rfl) (SsOk.cons (SOk.u8 lr) (SsOk.cons (SOk.u8 lr) SsOk.nil))) rfl (fun b_1 w_2 h_3 => ?_)
 refine WL.alloc (segs := [(32, (List.replicate 32 (0 : UInt8)).map vu8)]) h_3 (zv Try.typeInfo23 rfl) rfl (SsOk.cons (SOk.u8 lr) SsOk.nil) rfl (fun b_4 w_5 h_6 => ?_)
 refine qA (vi 0) rfl rfl ?_
 refine WL.nil (thn_n (WP.seq (WP.seq (WP.reg ?_))))
 refine qM (.slice a n cap) rfl rfl (qV rfl (R.lenS (a := a) (m := n) rfl rfl Try.underlying37) ?_)
 refine WL.call Try.call19 rfl rfl (c_aSize  _ ) rfl ?_
 rintro _ w_8 ⟨rfl, hc_7⟩
 have h_9 := h_6.same hc_7
 refine qV rfl (R.bin rfl rfl (bi_neq (r := decide ((((n : Nat) : Int) : Int) ≠ 112)) rfl)) ?_
 refine WL.nil (thn_n ?_)
 refine WP.condT (congrArg Value.bool (decide_eq_true (by omega))) ?_
 refine WP.seq (WP.reg ?_)
 refine qV rfl (R.buildS (pl := [(0, 1), (1, 32), (33, 32)]) (zs := [(1, [(vu64 0)]), (32, (List.replicate 32 (0 : UInt8)).map vu8), (32, (List.replicate 32 (0 : UInt8)).map vu8)]) (vs := []) (out := [(1, [(vu64 0)]), (32, (List.replicate 32 (0 : UInt8)).map vu8), (32, (List.replicate 32 (0 : UInt8)).map vu8)]) (cs := flat [(1, [(vu64 0)]), (32, (List.replicate 32 (0 : UInt8)).map vu8), (32, (List.replicate 32 (0 : UInt8)).map vu8)]) Try.underlying30 (zv Try.typeInfo30 rfl) rfl (SsOk.cons (SOk.v rfl) (SsOk.cons (SOk.u8 lr) (SsOk.cons (SOk.u8 lr) SsOk.nil))) (pl30 _ Try.underlying30) rfl FillR.nil rfl) (qV rfl (R.buildA (vs := []) (cs := (List.replicate 32 (0 : UInt8)).map vu8) Try.underlying23 Try.sizeOf5 (zv Try.typeInfo23 rfl) rfl rfl) ?_)
 refine WL.storeA (b := b_1) (off := 0) [] [(1, [(vu64 0)]), (32, (List.replicate 32 (0 : UInt8)).map vu8), (32, (List.replicate 32 (0 : UInt8)).map vu8)] [(1, [(vu64 0)]), (32, (List.replicate 32 (0 : UInt8)).map vu8), (32, (List.replicate 32 (0 : UInt8)).map vu8)] [] (ys := flat [(1, [(vu64 0)]), (32, (List.replicate 32 (0 : UInt8)).map vu8), (32, (List.replicate 32 (0 : UInt8)).map vu8)]) h_9 rfl rfl Try.sizeOf30 Y1 (by decide) rfl rfl rfl rfl rfl rfl (SsOk.cons (SOk.v rfl) (SsOk.cons (SOk.u8 lr) (SsOk.cons (SOk.u8 lr) SsOk.nil))) (fun w_11 h_12 => ?_)
 refine WL.storeA (b := b_4) (off := 0) [] [(32, (List.replicate 32 (0 : UInt8)).map vu8)] [(32, (List.replicate 32 (0 : UInt8)).map vu8)] [] (ys := (List.replicate 32 (0 : UInt8)).map vu8) h_12 rfl rfl Try.sizeOf23 At.h (by decide) rfl rfl rfl rfl rfl rfl (SsOk.cons (SOk.u8 lr) SsOk.nil) (fun w_13 h_14 => ?_)
 refine qA (vi 4) rfl rfl ?_
 refine WL.nil (thn_n (WP.ret (thn_r ?_)))
 refine ret_of Try.results18 (RV.cell rfl (h_14.loadA (cs := flat [(1, [(vu64 0)]), (32, (List.replicate 32 (0 : UInt8)).map vu8), (32, (List.replicate 32 (0 : UInt8)).map vu8)]) Try.isAgg30 Try.sizeOf30 M1 rfl rfl) (RV.cell rfl (h_14.loadA (cs := (List.replicate 32 (0 : UInt8)).map vu8) Try.isAgg23 Try.sizeOf23 M0 rfl rfl) (RV.tmp (v := (vi 4)) rfl RV.nil))) ?_
 exact ⟨rfl, h_14.chgS⟩

theorem c_Spl_ok (a : Option Addr) (cap : Nat) (bs : List UInt8) (hl : bs.length = 112) (hcap : 112 ≤ cap) (hm : ((bs.drop 0).take 80).take 8 = markB) (w : World) (hv : View w a (bs.map vu8)) :
  Cs Try.prog 18 [(.slice a 112 cap)].toArray w (fun v w1 => v = (.tuple [(.agg ⟨flat [(1, [(vu64 (ins_of ((bs.drop 0).take 80)))]), (32, (me_of ((bs.drop 0).take 80)).map vu8), (32, (ch_of ((bs.drop 0).take 80)).map vu8)]⟩), (.agg ⟨((bs.drop 80).take 32).map vu8⟩), (vi 0)].toArray) ∧ Chg w w1 []) := by
 refine Cs.of (n := 34) (args := [(.slice a 112 cap)]) Try.func18 rfl rfl rfl ?_
 have h_0 := HP.init w
 have h_00 := h_0.old (View.arg hv) (fun f hf => by cases hf)
 refine WP.seq (WP.reg ?_)
 refine WL.alloc (segs := [(1, [(vu64 0)]), (32, (List.replicate 32 (0 : UInt8)).map vu8), (32, (List.replicate 32 (0 : UInt8)).map vu8)]) h_00 (zv Try.typeInfo30 rfl) rfl (SsOk.cons (SOk.v rfl) (SsOk.cons (SOk.u8 lr) (SsOk.cons (SOk.u8 lr) SsOk.nil))) rfl (fun b_1 w_2 h_3 => ?_)
 refine WL.alloc (segs := [(32, (List.replicate 32 (0 : UInt8)).map vu8)]) h_3 (zv Try.typeInfo23 rfl) rfl (SsOk.cons (SOk.u8 lr) SsOk.nil) rfl (fun b_4 w_5 h_6 => ?_)
 refine qA (vi 0) rfl rfl ?_
 refine WL.nil (thn_n (WP.seq (WP.seq (WP.reg ?_))))
 refine qM (.slice a 112 cap) rfl rfl (qV rfl (R.lenS (a := a) (m := 112) rfl rfl Try.underlying37) ?_)
 refine WL.call Try.call19 rfl rfl (c_aSize  _ ) rfl ?_
 rintro _ w_8 ⟨rfl, hc_7⟩
 have h_9 := h_6.same hc_7
 refine qV rfl (R.bin rfl rfl (bi_neq (r := false) (by decide))) ?_
 refine WL.nil (thn_n ?_)
 refine WP.condF rfl ?_
 refine WP.skip (thn_n (WP.seq (WP.reg ?_)))
 refine WL.call Try.call49 rfl rfl (c_rSize  _ ) rfl ?_
 rintro _ w_11 ⟨rfl, hc_10⟩
 have h_12 := h_9.same hc_10
 refine qA (vi 80) rfl rfl ?_
 refine WL.nil (thn_n (WP.seq (WP.reg ?_)))
 refine qM (.slice a 112 cap) rfl rfl (qM (vi 80) rfl rfl (qM (vi 80) rfl rfl (qV rfl (R.sliceS3 (a := a) (len := 112) (l := 0) (h := 80) (m := 80) rfl EvB.dflt rfl rfl rfl rfl (by decide) (by decide) (by omega) Try.underlying37 Try.sizeOf5) ?_)))
 refine WL.call Try.call51 rfl rfl (c_Of_ok (slA a 0 80 1) 80 ((bs.drop 0).take 80) (subLen (K := 112) hl (by omega) : List.length ((bs.drop 0).take 80) = 80) hm _ (View.slM (l := 0) (m := 80) (k := 80) (viewV (h_12.ok _ M2)) (by omega))) rfl ?_
 rintro _ w_14 ⟨rfl, hc_13⟩
 have h_15 := h_12.same hc_13
 refine qM (.tuple [(.agg ⟨flat [(1, [(vu64 (ins_of ((bs.drop 0).take 80)))]), (32, (me_of ((bs.drop 0).take 80)).map vu8), (32, (ch_of ((bs.drop 0).take 80)).map vu8)]⟩), (vi 0)].toArray) rfl rfl (qV rfl (R.extract rfl rfl) (qV rfl (R.extract rfl rfl) ?_))
 refine WL.alloc (segs := [(1, [(vu64 0)]), (32, (List.replicate 32 (0 : UInt8)).map vu8), (32, (List.replicate 32 (0 : UInt8)).map vu8)]) h_15 (zv Try.typeInfo30 rfl) rfl (SsOk.cons (SOk.v rfl) (SsOk.cons (SOk.u8 lr) (SsOk.cons (SOk.u8 lr) SsOk.nil))) rfl (fun b_16 w_17 h_18 => ?_)
 refine WL.storeA (b := b_16) (off := 0) [] [(1, [(vu64 0)]), (32, (List.replicate 32 (0 : UInt8)).map vu8), (32, (List.replicate 32 (0 : UInt8)).map vu8)] [(1, [(vu64 (ins_of ((bs.drop 0).take 80)))]), (32, (me_of ((bs.drop 0).take 80)).map vu8), (32, (ch_of ((bs.drop 0).take 80)).map vu8)] [] (ys := flat [(1, [(vu64 (ins_of ((bs.drop 0).take 80)))]), (32, (me_of ((bs.drop 0).take 80)).map vu8), (32, (ch_of ((bs.drop 0).take 80)).map vu8)]) h_18 rfl rfl Try.sizeOf30 At.h (by decide) rfl rfl rfl rfl rfl rfl (SsOk.cons (SOk.v rfl) (SsOk.cons (SOk.u8 (me_len (by rw [(subLen (K := 112) hl (by omega) : List.length ((bs.drop 0).take 80) = 80)]; decide))) (SsOk.cons (SOk.u8 (ch_len (by rw [(subLen (K := 112) hl (by omega) : List.length ((bs.drop 0).take 80) = 80)]; decide))) SsOk.nil))) (fun w_19 h_20 => ?_)
 refine qA (vi 0) rfl rfl ?_
 refine WL.nil (thn_n (WP.seq (WP.seq (WP.reg ?_))))
 refine qM (vi 0) rfl rfl (qV rfl (R.bin rfl rfl (bi_neq (r := false) (by decide))) ?_)
 refine WL.nil (thn_n ?_)
 refine WP.condF rfl ?_
 refine WP.skip (thn_n (WP.seq ?_))
 refine WP.drawT (SL w.heap.size [.blk b_16 .nw 30 [(1, [(vu64 (ins_of ((bs.drop 0).take 80)))]), (32, (me_of ((bs.drop 0).take 80)).map vu8), (32, (ch_of ((bs.drop 0).take 80)).map vu8)], .view a (bs.map vu8)]) (.q 0 (.q 1 (.q 2 (.q 3 (.q 4 (.q 5 (.s 6 (.s 7 (.q 8 .nil))))))))) (by kernel_rfl) (by kernel_rfl) rfl (by kernel_rfl) (fun w_21 hc_23 => (SL.cons ((h_20.same hc_23).ok _ M0) (SL.cons ((h_20.same hc_23).ok _ M3) (SL.nil _ _)))) (fun w_21 hc_23 => ?_)
 have h_22 := h_20.same hc_23
 refine qT rfl rfl (fun wq hS => R.loadA (b := b_16) (off := 0) [] [(1, [(vu64 (ins_of ((bs.drop 0).take 80)))]), (32, (me_of ((bs.drop 0).take 80)).map vu8), (32, (ch_of ((bs.drop 0).take 80)).map vu8)] [] (cs := flat [(1, [(vu64 (ins_of ((bs.drop 0).take 80)))]), (32, (me_of ((bs.drop 0).take 80)).map vu8), (32, (ch_of ((bs.drop 0).take 80)).map vu8)]) rfl Try.isAgg30 Try.sizeOf30 (hS _ M0) rfl rfl rfl rfl) ?_
 refine qT rfl rfl (fun wq hS => R.move (v := (.slice a 112 cap)) rfl) ?_
 refine qT rfl rfl (fun wq hS => R.move (v := (vi 80)) rfl) ?_
 refine qT rfl rfl (fun wq hS => R.sliceS (a := a) (len := 112) (l := 80) (h := 112) rfl (EvB.it (l := 80) rfl rfl) EvB.dflt (by decide) (by omega) Try.underlying37 Try.sizeOf5) ?_
 refine qT rfl rfl (fun wq hS => R.s2ap (a := slA a 80 cap 1) (k := 32) rfl Try.underlying23 (by decide)) ?_
 refine qT rfl rfl (fun wq hS => R.loadGA (a := slA a 80 cap 1) (i := 0) (xs := ((bs.drop 80).take 32).map vu8) (cs := ((bs.drop 80).take 32).map vu8) (congrArg Value.pointer (a_some0 (View.slM (l := 80) (m := cap) (k := 32) (viewV (hS _ M1)) (by omega)) (by rw [len_map (subLen (K := 112) hl (by omega) : List.length ((bs.drop 80).take 32) = 32)]; decide))) (View.slM (l := 80) (m := cap) (k := 32) (viewV (hS _ M1)) (by omega)) Try.isAgg23 Try.sizeOf23 (by rw [List.drop_zero, List.take_of_length_le (by rw [len_map (subLen (K := 112) hl (by omega) : List.length ((bs.drop 80).take 32) = 32)]; exact Nat.le_refl _)]) (len_map (subLen (K := 112) hl (by omega) : List.length ((bs.drop 80).take 32) = 32)) (by decide)) ?_
 refine WT.s (Op1.one rfl (Wn.no rfl) ?_)
 refine WL.storeA (b := b_1) (off := 0) [] [(1, [(vu64 0)]), (32, (List.replicate 32 (0 : UInt8)).map vu8), (32, (List.replicate 32 (0 : UInt8)).map vu8)] [(1, [(vu64 (ins_of ((bs.drop 0).take 80)))]), (32, (me_of ((bs.drop 0).take 80)).map vu8), (32, (ch_of ((bs.drop 0).take 80)).map vu8)] [] (ys := flat [(1, [(vu64 (ins_of ((bs.drop 0).take 80)))]), (32, (me_of ((bs.drop 0).take 80)).map vu8), (32, (ch_of ((bs.drop 0).take 80)).map vu8)]) h_22 rfl rfl Try.sizeOf30 Y2 (by decide) rfl rfl rfl rfl rfl rfl (SsOk.cons (SOk.v rfl) (SsOk.cons (SOk.u8 (me_len (by rw [(subLen (K := 112) hl (by omega) : List.length ((bs.drop 0).take 80) = 80)]; decide))) (SsOk.cons (SOk.u8 (ch_len (by rw [(subLen (K := 112) hl (by omega) : List.length ((bs.drop 0).take 80) = 80)]; decide))) SsOk.nil))) (fun w_24 h_25 => ?_)
 refine WL.nil ?_
 refine ⟨(SL.cons (h_25.ok _ M0) (SL.cons (h_25.ok _ M3) (SL.nil _ _))), ?_⟩
 refine WT.s (Op1.one rfl (Wn.no rfl) ?_)
 refine WL.storeA (b := b_4) (off := 0) [] [(32, (List.replicate 32 (0 : UInt8)).map vu8)] [(32, ((bs.drop 80).take 32).map vu8)] [] (ys := ((bs.drop 80).take 32).map vu8) h_25 rfl rfl Try.sizeOf23 Y1 (by decide) rfl rfl rfl rfl rfl rfl (SsOk.cons (SOk.u8 (subLen (K := 112) hl (by omega) : List.length ((bs.drop 80).take 32) = 32)) SsOk.nil) (fun w_26 h_27 => ?_)
 refine WL.nil ?_
 refine ⟨(SL.cons (h_27.ok _ M0) (SL.cons (h_27.ok _ M3) (SL.nil _ _))), ?_⟩
 refine qT rfl rfl (fun wq hS => R.assign (v := (vi 0)) rfl) ?_
 refine WT.nil (thn_n (WP.ret ?_))
 refine ret_of Try.results18 (RV.cell rfl (h_27.loadA (cs := flat [(1, [(vu64 (ins_of ((bs.drop 0).take 80)))]), (32, (me_of ((bs.drop 0).take 80)).map vu8), (32, (ch_of ((bs.drop 0).take 80)).map vu8)]) Try.isAgg30 Try.sizeOf30 M2 rfl rfl) (RV.cell rfl (h_27.loadA (cs := ((bs.drop 80).take 32).map vu8) Try.isAgg23 Try.sizeOf23 M1 rfl rfl) (RV.tmp (v := (vi 0)) rfl RV.nil))) ?_
 exact ⟨rfl, h_27.chgS⟩

theorem c_Ver_len (id : Bool) (ob mp : Nat) (ms : List UInt8) (hms : ms.length = 32) (da : Option Addr) (dn dc u : Nat) (la : Option Addr) (ln lc : Nat) (a : Option Addr) (n cap : Nat) (hn : n ≠ 112) (w : World) (hcb : (Ent.blk ob .ro 50 [(1, [(.bool id)]), (32, ms.map vu8), (1, [(.slice da dn dc)]), (1, [(vi ((u : Nat) : Int))]), (1, [(.map (some mp))]), (1, [(.slice la ln lc)])]).ok w.heap.size w) :
  Cs Try.prog 15 [(.pointer (some ⟨ob, 0, none⟩)), (.slice a n cap)].toArray w (fun v w1 => v = (.tuple [(.agg ⟨flat [(1, [(vu64 0)]), (32, (List.replicate 32 (0 : UInt8)).map vu8), (32, (List.replicate 32 (0 : UInt8)).map vu8)]⟩), (.bool false), (vi 4)].toArray) ∧ Chg w w1 []) := by
 refine Cs.of (n := 48) (args := [(pO ob 0), (.slice a n cap)]) Try.func15 rfl rfl rfl ?_
 have h_0 := HP.init w
 have h_00 := h_0.old hcb (fun f hf => by cases hf)
 refine WP.seq (WP.reg ?_)
 refine WL.alloc (segs := [(1, [(vu64 0)]), (32, (List.replicate 32 (0 : UInt8)).map vu8), (32, (List.replicate 32 (0 : UInt8)).map vu8)]) h_00 (zv Try.typeInfo30 rfl) rfl (SsOk.cons (SOk.v rfl) (SsOk.cons (SOk.u8 lr) (SsOk.cons (SOk.u8 lr) SsOk.nil))) rfl (fun b_1 w_2 h_3 => ?_)
 refine qA (.bool false) rfl rfl (qA (vi 0) rfl rfl ?_)
 refine WL.nil (thn_n (WP.seq (WP.seq (WP.reg ?_))))
 refine qM (pO ob 0) rfl rfl (qV rfl (R.buildS (pl := [(0, 1), (1, 32), (33, 1), (34, 1)]) (zs := [(1, [(vi 0)]), (32, (List.replicate 32 (0 : UInt8)).map vu8), (1, [(vi 0)]), (1, [(.slice none 0 0)])]) (vs := []) (out := [(1, [(vi 0)]), (32, (List.replicate 32 (0 : UInt8)).map vu8), (1, [(vi 0)]), (1, [(.slice none 0 0)])]) (cs := flat [(1, [(vi 0)]), (32, (List.replicate 32 (0 : UInt8)).map vu8), (1, [(vi 0)]), (1, [(.slice none 0 0)])]) Try.underlying103 (zv Try.typeInfo103 rfl) rfl (SsOk.cons (SOk.v rfl) (SsOk.cons (SOk.u8 lr) (SsOk.cons (SOk.v rfl) (SsOk.cons (SOk.v rfl) SsOk.nil)))) (pl103 _ Try.underlying103) rfl FillR.nil rfl) ?_)
 refine WL.call Try.call48 rfl rfl (c_oAsk_0 id ob mp ms hms da dn dc u la ln lc 0 (List.replicate 32 (0 : UInt8)) none 0 0 lr _ (h_3.argR M1)) rfl ?_
 rintro _ w_6 ⟨rfl, hc_5⟩
 have h_7 := h_3.same hc_5
 refine qM (.tuple [(.agg ⟨(List.replicate 32 (0 : UInt8)).map vu8⟩), (vi 2)].toArray) rfl rfl (qV rfl (R.extract rfl rfl) (qV rfl (R.extract rfl rfl) ?_))
 refine WL.alloc (segs := [(32, (List.replicate 32 (0 : UInt8)).map vu8)]) h_7 (zv Try.typeInfo23 rfl) rfl (SsOk.cons (SOk.u8 lr) SsOk.nil) rfl (fun b_8 w_9 h_10 => ?_)
 refine WL.storeA (b := b_8) (off := 0) [] [(32, (List.replicate 32 (0 : UInt8)).map vu8)] [(32, (List.replicate 32 (0 : UInt8)).map vu8)] [] (ys := (List.replicate 32 (0 : UInt8)).map vu8) h_10 rfl rfl Try.sizeOf23 At.h (by decide) rfl rfl rfl rfl rfl rfl (SsOk.cons (SOk.u8 lr) SsOk.nil) (fun w_11 h_12 => ?_)
 refine qA (vi 2) rfl rfl ?_
 refine WL.nil (thn_n (WP.seq (WP.reg ?_)))
 refine qM (vi 2) rfl rfl (qV rfl (R.bin rfl rfl (bi_eql (r := false) (by decide))) ?_)
 refine WL.nil (thn_n ?_)
 refine WP.condF rfl ?_
 refine WP.skip (thn_n (WP.seq (WP.reg ?_)))
 refine qM (.slice a n cap) rfl rfl ?_
 refine WL.call Try.call18 rfl rfl (c_Spl_len a n cap hn _ ) rfl ?_
 rintro _ w_14 ⟨rfl, hc_13⟩
 have h_15 := h_12.same hc_13
 refine qM (.tuple [(.agg ⟨flat [(1, [(vu64 0)]), (32, (List.replicate 32 (0 : UInt8)).map vu8), (32, (List.replicate 32 (0 : UInt8)).map vu8)]⟩), (.agg ⟨(List.replicate 32 (0 : UInt8)).map vu8⟩), (vi 4)].toArray) rfl rfl (qV rfl (R.extract rfl rfl) (qV rfl (R.extract rfl rfl) (qV rfl (R.extract rfl rfl) ?_)))
 refine WL.alloc (segs := [(1, [(vu64 0)]), (32, (List.replicate 32 (0 : UInt8)).map vu8), (32, (List.replicate 32 (0 : UInt8)).map vu8)]) h_15 (zv Try.typeInfo30 rfl) rfl (SsOk.cons (SOk.v rfl) (SsOk.cons (SOk.u8 lr) (SsOk.cons (SOk.u8 lr) SsOk.nil))) rfl (fun b_16 w_17 h_18 => ?_)
 refine WL.alloc (segs := [(32, (List.replicate 32 (0 : UInt8)).map vu8)]) h_18 (zv Try.typeInfo23 rfl) rfl (SsOk.cons (SOk.u8 lr) SsOk.nil) rfl (fun b_19 w_20 h_21 => ?_)
 refine WL.storeA (b := b_16) (off := 0) [] [(1, [(vu64 0)]), (32, (List.replicate 32 (0 : UInt8)).map vu8), (32, (List.replicate 32 (0 : UInt8)).map vu8)] [(1, [(vu64 0)]), (32, (List.replicate 32 (0 : UInt8)).map vu8), (32, (List.replicate 32 (0 : UInt8)).map vu8)] [] (ys := flat [(1, [(vu64 0)]), (32, (List.replicate 32 (0 : UInt8)).map vu8), (32, (List.replicate 32 (0 : UInt8)).map vu8)]) h_21 rfl rfl Try.sizeOf30 Y1 (by decide) rfl rfl rfl rfl rfl rfl (SsOk.cons (SOk.v rfl) (SsOk.cons (SOk.u8 lr) (SsOk.cons (SOk.u8 lr) SsOk.nil))) (fun w_22 h_23 => ?_)
 refine WL.storeA (b := b_19) (off := 0) [] [(32, (List.replicate 32 (0 : UInt8)).map vu8)] [(32, (List.replicate 32 (0 : UInt8)).map vu8)] [] (ys := (List.replicate 32 (0 : UInt8)).map vu8) h_23 rfl rfl Try.sizeOf23 At.h (by decide) rfl rfl rfl rfl rfl rfl (SsOk.cons (SOk.u8 lr) SsOk.nil) (fun w_24 h_25 => ?_)
 refine qA (vi 4) rfl rfl ?_
 refine WL.nil (thn_n (WP.seq (WP.seq (WP.reg ?_))))
 refine qM (vi 4) rfl rfl (qV rfl (R.bin rfl rfl (bi_neq (r := true) (by decide))) ?_)
 refine WL.nil (thn_n ?_)
 refine WP.condT rfl ?_
 refine WP.seq (WP.reg ?_)
 refine qV rfl (R.buildS (pl := [(0, 1), (1, 32), (33, 32)]) (zs := [(1, [(vu64 0)]), (32, (List.replicate 32 (0 : UInt8)).map vu8), (32, (List.replicate 32 (0 : UInt8)).map vu8)]) (vs := []) (out := [(1, [(vu64 0)]), (32, (List.replicate 32 (0 : UInt8)).map vu8), (32, (List.replicate 32 (0 : UInt8)).map vu8)]) (cs := flat [(1, [(vu64 0)]), (32, (List.replicate 32 (0 : UInt8)).map vu8), (32, (List.replicate 32 (0 : UInt8)).map vu8)]) Try.underlying30 (zv Try.typeInfo30 rfl) rfl (SsOk.cons (SOk.v rfl) (SsOk.cons (SOk.u8 lr) (SsOk.cons (SOk.u8 lr) SsOk.nil))) (pl30 _ Try.underlying30) rfl FillR.nil rfl) (qM (vi 4) rfl rfl ?_)
 refine WL.storeA (b := b_1) (off := 0) [] [(1, [(vu64 0)]), (32, (List.replicate 32 (0 : UInt8)).map vu8), (32, (List.replicate 32 (0 : UInt8)).map vu8)] [(1, [(vu64 0)]), (32, (List.replicate 32 (0 : UInt8)).map vu8), (32, (List.replicate 32 (0 : UInt8)).map vu8)] [] (ys := flat [(1, [(vu64 0)]), (32, (List.replicate 32 (0 : UInt8)).map vu8), (32, (List.replicate 32 (0 : UInt8)).map vu8)]) h_25 rfl rfl Try.sizeOf30 Y3 (by decide) rfl rfl rfl rfl rfl rfl (SsOk.cons (SOk.v rfl) (SsOk.cons (SOk.u8 lr) (SsOk.cons (SOk.u8 lr) SsOk.nil))) (fun w_27 h_28 => ?_)
 refine qA (.bool false) rfl rfl (qA (vi 4) rfl rfl ?_)
 refine WL.nil (thn_n (WP.ret (thn_r ?_)))
 refine ret_of Try.results15 (RV.cell rfl (h_28.loadA (cs := flat [(1, [(vu64 0)]), (32, (List.replicate 32 (0 : UInt8)).map vu8), (32, (List.replicate 32 (0 : UInt8)).map vu8)]) Try.isAgg30 Try.sizeOf30 M3 rfl rfl) (RV.tmp (v := (.bool false)) rfl (RV.tmp (v := (vi 4)) rfl RV.nil))) ?_
 exact ⟨rfl, h_28.chgS⟩

theorem c_Ver {w00 : World} {L : List Ent} (id : Bool) (ob mp : Nat) (ms df : List UInt8) (hms : ms.length = 32) (da : Option Addr) (dn dc u : Nat) (hdf : df.length = 32 * dn) (la : Option Addr) (lc : Nat) (lx : List Value) (lg : Lg) (hu : u ≤ 500000) (hlg : lg.length ≤ 500000) (a : Option Addr) (cap : Nat) (bs : List UInt8) (hl : bs.length = 112) (hcap : 112 ≤ cap) (hm : ((bs.drop 0).take 80).take 8 = markB) (w : World) (h_0 : HP w00 w (Ent.blk ob .nw 50 [(1, [(.bool id)]), (32, ms.map vu8), (1, [(.slice da dn dc)]), (1, [(vi ((u : Nat) : Int))]), (1, [(.map (some mp))]), (1, [(.slice la lg.length lc)])] :: Ent.row la lg.length lc 111 67 lx :: Ent.obj mp .nw (.map (mArr lg) lg.length) :: Ent.pin (sblks lx) (fun w => Lgs w lx lg) :: Ent.view da (df.map vu8) :: Ent.view a (bs.map vu8) :: L)) :
  Cs Try.prog 15 [(.pointer (some ⟨ob, 0, none⟩)), (.slice a 112 cap)].toArray w (fun v w1 => ∃ la' lc' lx', v = (.tuple [(.agg ⟨flat [(1, [(vu64 (ins_of ((bs.drop 0).take 80)))]), (32, (me_of ((bs.drop 0).take 80)).map vu8), (32, (ch_of ((bs.drop 0).take 80)).map vu8)]⟩), (.bool (decide (tgD id df dn u lg ms ((bs.drop 0).take 80) = (bs.drop 80).take 32))), (vi 0)].toArray) ∧ HP w00 w1 (Ent.blk ob .nw 50 [(1, [(.bool id)]), (32, ms.map vu8), (1, [(.slice da dn dc)]), (1, [(vi (((tgU id df dn u lg ms ((bs.drop 0).take 80)) : Nat) : Int))]), (1, [(.map (some mp))]), (1, [(.slice la' ((tgL id df dn u lg ms ((bs.drop 0).take 80)).length) lc')])] :: Ent.row la' ((tgL id df dn u lg ms ((bs.drop 0).take 80)).length) lc' 111 67 lx' :: Ent.obj mp .nw (.map (mArr (tgL id df dn u lg ms ((bs.drop 0).take 80))) ((tgL id df dn u lg ms ((bs.drop 0).take 80)).length)) :: Ent.pin (sblks lx') (fun w => Lgs w lx' (tgL id df dn u lg ms ((bs.drop 0).take 80))) :: Ent.view da (df.map vu8) :: Ent.view a (bs.map vu8) :: L)) := by
 refine Cs.of (n := 48) (args := [(pO ob 0), (.slice a 112 cap)]) Try.func15 rfl rfl rfl ?_
 refine WP.seq (WP.reg ?_)
 refine WL.alloc (segs := [(1, [(vu64 0)]), (32, (List.replicate 32 (0 : UInt8)).map vu8), (32, (List.replicate 32 (0 : UInt8)).map vu8)]) h_0 (zv Try.typeInfo30 rfl) rfl (SsOk.cons (SOk.v rfl) (SsOk.cons (SOk.u8 lr) (SsOk.cons (SOk.u8 lr) SsOk.nil))) rfl (fun b_1 w_2 h_3 => ?_)
 refine qA (.bool false) rfl rfl (qA (vi 0) rfl rfl ?_)
 refine WL.nil (thn_n (WP.seq (WP.seq (WP.reg ?_))))
 refine qM (pO ob 0) rfl rfl (qV rfl (R.buildS (pl := [(0, 1), (1, 32), (33, 1), (34, 1)]) (zs := [(1, [(vi 0)]), (32, (List.replicate 32 (0 : UInt8)).map vu8), (1, [(vi 0)]), (1, [(.slice none 0 0)])]) (vs := []) (out := [(1, [(vi 0)]), (32, (List.replicate 32 (0 : UInt8)).map vu8), (1, [(vi 0)]), (1, [(.slice none 0 0)])]) (cs := flat [(1, [(vi 0)]), (32, (List.replicate 32 (0 : UInt8)).map vu8), (1, [(vi 0)]), (1, [(.slice none 0 0)])]) Try.underlying103 (zv Try.typeInfo103 rfl) rfl (SsOk.cons (SOk.v rfl) (SsOk.cons (SOk.u8 lr) (SsOk.cons (SOk.v rfl) (SsOk.cons (SOk.v rfl) SsOk.nil)))) (pl103 _ Try.underlying103) rfl FillR.nil rfl) ?_)
 refine WL.call Try.call48 rfl rfl (c_oAsk_0 id ob mp ms hms da dn dc u la lg.length lc 0 (List.replicate 32 (0 : UInt8)) none 0 0 lr _ (h_3.argR M1)) rfl ?_
 rintro _ w_6 ⟨rfl, hc_5⟩
 have h_7 := h_3.same hc_5
 refine qM (.tuple [(.agg ⟨(List.replicate 32 (0 : UInt8)).map vu8⟩), (vi 2)].toArray) rfl rfl (qV rfl (R.extract rfl rfl) (qV rfl (R.extract rfl rfl) ?_))
 refine WL.alloc (segs := [(32, (List.replicate 32 (0 : UInt8)).map vu8)]) h_7 (zv Try.typeInfo23 rfl) rfl (SsOk.cons (SOk.u8 lr) SsOk.nil) rfl (fun b_8 w_9 h_10 => ?_)
 refine WL.storeA (b := b_8) (off := 0) [] [(32, (List.replicate 32 (0 : UInt8)).map vu8)] [(32, (List.replicate 32 (0 : UInt8)).map vu8)] [] (ys := (List.replicate 32 (0 : UInt8)).map vu8) h_10 rfl rfl Try.sizeOf23 At.h (by decide) rfl rfl rfl rfl rfl rfl (SsOk.cons (SOk.u8 lr) SsOk.nil) (fun w_11 h_12 => ?_)
 refine qA (vi 2) rfl rfl ?_
 refine WL.nil (thn_n (WP.seq (WP.reg ?_)))
 refine qM (vi 2) rfl rfl (qV rfl (R.bin rfl rfl (bi_eql (r := false) (by decide))) ?_)
 refine WL.nil (thn_n ?_)
 refine WP.condF rfl ?_
 refine WP.skip (thn_n (WP.seq (WP.reg ?_)))
 refine qM (.slice a 112 cap) rfl rfl ?_
 refine WL.call Try.call18 rfl rfl (c_Spl_ok a cap bs hl (by omega) hm _ (viewV (h_12.ok _ M7))) rfl ?_
 rintro _ w_14 ⟨rfl, hc_13⟩
 have h_15 := h_12.same hc_13
 refine qM (.tuple [(.agg ⟨flat [(1, [(vu64 (ins_of ((bs.drop 0).take 80)))]), (32, (me_of ((bs.drop 0).take 80)).map vu8), (32, (ch_of ((bs.drop 0).take 80)).map vu8)]⟩), (.agg ⟨((bs.drop 80).take 32).map vu8⟩), (vi 0)].toArray) rfl rfl (qV rfl (R.extract rfl rfl) (qV rfl (R.extract rfl rfl) (qV rfl (R.extract rfl rfl) ?_)))
 refine WL.alloc (segs := [(1, [(vu64 0)]), (32, (List.replicate 32 (0 : UInt8)).map vu8), (32, (List.replicate 32 (0 : UInt8)).map vu8)]) h_15 (zv Try.typeInfo30 rfl) rfl (SsOk.cons (SOk.v rfl) (SsOk.cons (SOk.u8 lr) (SsOk.cons (SOk.u8 lr) SsOk.nil))) rfl (fun b_16 w_17 h_18 => ?_)
 refine WL.alloc (segs := [(32, (List.replicate 32 (0 : UInt8)).map vu8)]) h_18 (zv Try.typeInfo23 rfl) rfl (SsOk.cons (SOk.u8 lr) SsOk.nil) rfl (fun b_19 w_20 h_21 => ?_)
 refine WL.storeA (b := b_16) (off := 0) [] [(1, [(vu64 0)]), (32, (List.replicate 32 (0 : UInt8)).map vu8), (32, (List.replicate 32 (0 : UInt8)).map vu8)] [(1, [(vu64 (ins_of ((bs.drop 0).take 80)))]), (32, (me_of ((bs.drop 0).take 80)).map vu8), (32, (ch_of ((bs.drop 0).take 80)).map vu8)] [] (ys := flat [(1, [(vu64 (ins_of ((bs.drop 0).take 80)))]), (32, (me_of ((bs.drop 0).take 80)).map vu8), (32, (ch_of ((bs.drop 0).take 80)).map vu8)]) h_21 rfl rfl Try.sizeOf30 Y1 (by decide) rfl rfl rfl rfl rfl rfl (SsOk.cons (SOk.v rfl) (SsOk.cons (SOk.u8 (me_len (by simp only [List.length_take, List.length_drop, hl]; decide))) (SsOk.cons (SOk.u8 (ch_len (by simp only [List.length_take, List.length_drop, hl]; decide))) SsOk.nil))) (fun w_22 h_23 => ?_)
 refine WL.storeA (b := b_19) (off := 0) [] [(32, (List.replicate 32 (0 : UInt8)).map vu8)] [(32, ((bs.drop 80).take 32).map vu8)] [] (ys := ((bs.drop 80).take 32).map vu8) h_23 rfl rfl Try.sizeOf23 At.h (by decide) rfl rfl rfl rfl rfl rfl (SsOk.cons (SOk.u8 (by simp only [List.length_take, List.length_drop, hl]; decide)) SsOk.nil) (fun w_24 h_25 => ?_)
 refine qA (vi 0) rfl rfl ?_
 refine WL.nil (thn_n (WP.seq (WP.seq (WP.reg ?_))))
 refine qM (vi 0) rfl rfl (qV rfl (R.bin rfl rfl (bi_neq (r := false) (by decide))) ?_)
 refine WL.nil (thn_n ?_)
 refine WP.condF rfl ?_
 refine WP.skip (thn_n (WP.seq (WP.reg ?_)))
 refine qM (pO ob 0) rfl rfl (qM (.slice a 112 cap) rfl rfl ?_)
 refine WL.call Try.call49 rfl rfl (c_rSize  _ ) rfl ?_
 rintro _ w_27 ⟨rfl, hc_26⟩
 have h_28 := h_25.same hc_26
 refine qV rfl (R.sliceS (a := a) (len := 112) (l := 0) (h := 80) rfl EvB.dflt (EvB.it (l := 80) rfl rfl) (by decide) (by omega) Try.underlying37 Try.sizeOf5) ?_
 have h_29 := h_28.within (e' := .view (slA a 0 cap 1) (((bs.drop 0).take 80).map vu8)) M9 rfl (View.arg (View.slM (l := 0) (m := cap) (k := 80) (viewV (h_28.ok _ M9)) (by omega))) rfl rfl (fun b hb_ => sub_blk (by rw [len_map hl]; decide) b hb_)
 have h_34 := ((((h_29.up J9).up J9).up J9).up J9).up J9
 have h32_w_38 := Lgs.ok32 (h_34.ok _ M3).1
 refine WL.call Try.call47 rfl rfl (c_atag_v id ob mp ms df hms da dn dc u hdf la lc lx lg hu hlg (slA a 0 cap 1) 80 cap ((bs.drop 0).take 80) (subLen (K := 112) hl (by omega) : List.length ((bs.drop 0).take 80) = 80) (by omega) (by omega) _ h_34) rfl ?_
 rintro _ w_38 ⟨la_35, lc_36, lx_37, rfl, h_39⟩
 refine qM (.tuple [(.agg ⟨(tgD id df dn u lg ms ((bs.drop 0).take 80)).map vu8⟩), (vi 0)].toArray) rfl rfl (qV rfl (R.extract rfl rfl) (qV rfl (R.extract rfl rfl) ?_))
 refine WL.alloc (segs := [(32, (List.replicate 32 (0 : UInt8)).map vu8)]) h_39 (zv Try.typeInfo23 rfl) rfl (SsOk.cons (SOk.u8 lr) SsOk.nil) rfl (fun b_40 w_41 h_42 => ?_)
 refine WL.storeA (b := b_40) (off := 0) [] [(32, (List.replicate 32 (0 : UInt8)).map vu8)] [(32, (tgD id df dn u lg ms ((bs.drop 0).take 80)).map vu8)] [] (ys := (tgD id df dn u lg ms ((bs.drop 0).take 80)).map vu8) h_42 rfl rfl Try.sizeOf23 At.h (by decide) rfl rfl rfl rfl rfl rfl (SsOk.cons (SOk.u8 (tgD_len (dn := dn) hdf h32_w_38)) SsOk.nil) (fun w_43 h_44 => ?_)
 refine qA (vi 0) rfl rfl ?_
 refine WL.nil (thn_n (WP.seq (WP.seq (WP.reg ?_))))
 refine qM (vi 0) rfl rfl (qV rfl (R.bin rfl rfl (bi_neq (r := false) (by decide))) ?_)
 refine WL.nil (thn_n ?_)
 refine WP.condF rfl ?_
 refine WP.skip (thn_n (WP.seq ?_))
 refine WP.drawT (SL w00.heap.size [.blk b_40 .nw 23 [(32, (tgD id df dn u lg ms ((bs.drop 0).take 80)).map vu8)], .blk ob .nw 50 [(1, [(.bool id)]), (32, ms.map vu8), (1, [(.slice da dn dc)]), (1, [(vn ((tgU id df dn u lg ms ((bs.drop 0).take 80))))]), (1, [(.map (some mp))]), (1, [(.slice la_35 ((tgL id df dn u lg ms ((bs.drop 0).take 80)).length) lc_36)])], .row la_35 ((tgL id df dn u lg ms ((bs.drop 0).take 80)).length) lc_36 111 67 lx_37, .obj mp .nw (.map (mArr (tgL id df dn u lg ms ((bs.drop 0).take 80))) ((tgL id df dn u lg ms ((bs.drop 0).take 80)).length)), .pin (sblks lx_37) (fun w => Lgs w lx_37 (tgL id df dn u lg ms ((bs.drop 0).take 80))), .view da (df.map vu8), .view (slA a 0 cap 1) (((bs.drop 0).take 80).map vu8), .blk b_19 .nw 23 [(32, ((bs.drop 80).take 32).map vu8)], .blk b_16 .nw 30 [(1, [(vu64 (ins_of ((bs.drop 0).take 80)))]), (32, (me_of ((bs.drop 0).take 80)).map vu8), (32, (ch_of ((bs.drop 0).take 80)).map vu8)], .blk b_8 .nw 23 [(32, (List.replicate 32 (0 : UInt8)).map vu8)], .view a (bs.map vu8)]) (.q 0 (.q 1 (.q 2 (.q 3 (.s 4 (.q 5 (.q 6 .nil))))))) (by kernel_rfl) (by kernel_rfl) rfl (by kernel_rfl) (fun w_45 hc_47 => (SL.cons ((h_44.same hc_47).ok _ M0) (SL.cons ((h_44.same hc_47).ok _ M1) (SL.cons ((h_44.same hc_47).ok _ M2) (SL.cons ((h_44.same hc_47).ok _ M3) (SL.cons ((h_44.same hc_47).ok _ M4) (SL.cons ((h_44.same hc_47).ok _ M5) (SL.cons ((h_44.same hc_47).ok _ M6) (SL.cons ((h_44.same hc_47).ok _ M7) (SL.cons ((h_44.same hc_47).ok _ M8) (SL.cons ((h_44.same hc_47).ok _ M9) (SL.cons ((h_44.same hc_47).ok _ M11) (SL.nil _ _))))))))))))) (fun w_45 hc_47 => ?_)
 have h_46 := h_44.same hc_47
 refine qT rfl rfl (fun wq hS => R.loadA (b := b_16) (off := 0) [] [(1, [(vu64 (ins_of ((bs.drop 0).take 80)))]), (32, (me_of ((bs.drop 0).take 80)).map vu8), (32, (ch_of ((bs.drop 0).take 80)).map vu8)] [] (cs := flat [(1, [(vu64 (ins_of ((bs.drop 0).take 80)))]), (32, (me_of ((bs.drop 0).take 80)).map vu8), (32, (ch_of ((bs.drop 0).take 80)).map vu8)]) rfl Try.isAgg30 Try.sizeOf30 (hS _ M8) rfl rfl rfl rfl) ?_
 refine qT rfl rfl (fun wq hS => R.loadA (b := b_40) (off := 0) [] [(32, (tgD id df dn u lg ms ((bs.drop 0).take 80)).map vu8)] [] (cs := (tgD id df dn u lg ms ((bs.drop 0).take 80)).map vu8) rfl Try.isAgg23 Try.sizeOf23 (hS _ M0) rfl rfl rfl rfl) ?_
 refine qT rfl rfl (fun wq hS => R.loadA (b := b_19) (off := 0) [] [(32, ((bs.drop 80).take 32).map vu8)] [] (cs := ((bs.drop 80).take 32).map vu8) rfl Try.isAgg23 Try.sizeOf23 (hS _ M7) rfl rfl rfl rfl) ?_
 refine qT rfl rfl (fun wq hS => R.eqA (xs := (tgD id df dn u lg ms ((bs.drop 0).take 80)).map vu8) (ys := ((bs.drop 80).take 32).map vu8) (r := decide (tgD id df dn u lg ms ((bs.drop 0).take 80) = (bs.drop 80).take 32)) rfl rfl Try.eqGuardType23 kt23 (by decide) ag23 (Typ.u8s Try.underlying23 ce23 Try.underlying5 ce5 (tgD_len (dn := dn) hdf h32_w_38)) (Typ.u8s Try.underlying23 ce23 Try.underlying5 ce5 (by simp only [List.length_take, List.length_drop, hl]; decide)) (map_inj_u8.trans (decT _))) ?_
 refine WT.s (Op1.one rfl (Wn.no rfl) ?_)
 refine WL.storeA (b := b_1) (off := 0) [] [(1, [(vu64 0)]), (32, (List.replicate 32 (0 : UInt8)).map vu8), (32, (List.replicate 32 (0 : UInt8)).map vu8)] [(1, [(vu64 (ins_of ((bs.drop 0).take 80)))]), (32, (me_of ((bs.drop 0).take 80)).map vu8), (32, (ch_of ((bs.drop 0).take 80)).map vu8)] [] (ys := flat [(1, [(vu64 (ins_of ((bs.drop 0).take 80)))]), (32, (me_of ((bs.drop 0).take 80)).map vu8), (32, (ch_of ((bs.drop 0).take 80)).map vu8)]) h_46 rfl rfl Try.sizeOf30 Y10 (by decide) rfl rfl rfl rfl rfl rfl (SsOk.cons (SOk.v rfl) (SsOk.cons (SOk.u8 (me_len (by simp only [List.length_take, List.length_drop, hl]; decide))) (SsOk.cons (SOk.u8 (ch_len (by simp only [List.length_take, List.length_drop, hl]; decide))) SsOk.nil))) (fun w_48 h_49 => ?_)
 refine WL.nil ?_
 refine ⟨(SL.cons (h_49.ok _ M0) (SL.cons (h_49.ok _ M1) (SL.cons (h_49.ok _ M2) (SL.cons (h_49.ok _ M3) (SL.cons (h_49.ok _ M4) (SL.cons (h_49.ok _ M5) (SL.cons (h_49.ok _ M6) (SL.cons (h_49.ok _ M7) (SL.cons (h_49.ok _ M8) (SL.cons (h_49.ok _ M9) (SL.cons (h_49.ok _ M11) (SL.nil _ _)))))))))))), ?_⟩
 refine qT rfl rfl (fun wq hS => R.assign (v := (.bool (decide (tgD id df dn u lg ms ((bs.drop 0).take 80) = (bs.drop 80).take 32)))) rfl) ?_
 refine qT rfl rfl (fun wq hS => R.assign (v := (vi 0)) rfl) ?_
 refine WT.nil (thn_n (WP.ret ?_))
 refine ret_of Try.results15 (RV.cell rfl (h_49.loadA (cs := flat [(1, [(vu64 (ins_of ((bs.drop 0).take 80)))]), (32, (me_of ((bs.drop 0).take 80)).map vu8), (32, (ch_of ((bs.drop 0).take 80)).map vu8)]) Try.isAgg30 Try.sizeOf30 M10 rfl rfl) (RV.tmp (v := (.bool (decide (tgD id df dn u lg ms ((bs.drop 0).take 80) = (bs.drop 80).take 32)))) rfl (RV.tmp (v := (vi 0)) rfl RV.nil))) ?_
 have h_66 := ((((((((((((((((h_49.drop rfl).up J5).drop rfl).up J5).drop rfl).up J5).drop rfl).up J5).drop rfl).up J5).drop rfl).up J5).up J5).up J5).up J5).up J5).up J5
 exact ⟨_, _, _, rfl, h_66⟩

theorem c_Ver_r {w00 : World} {L : List Ent} (id : Bool) (ob mp : Nat) (ms df : List UInt8) (hms : ms.length = 32) (da : Option Addr) (dn dc u : Nat) (hdf : df.length = 32 * dn) (la : Option Addr) (lc : Nat) (lx : List Value) (lg : Lg) (hu : u ≤ 500000) (hlg : lg.length ≤ 500000) (a : Option Addr) (cap : Nat) (bs : List UInt8) (hl : bs.length = 112) (hcap : 112 ≤ cap) (hm : ((bs.drop 0).take 80).take 8 = markB) (w : World) (h_0 : HP w00 w (Ent.blk ob .nw 50 [(1, [(.bool id)]), (32, ms.map vu8), (1, [(.slice da dn dc)]), (1, [(vi ((u : Nat) : Int))]), (1, [(.map (some mp))]), (1, [(.slice la lg.length lc)])] :: Ent.row la lg.length lc 111 67 lx :: Ent.obj mp .nw (.map (mArr lg) lg.length) :: Ent.pin (sblks lx) (fun w => Lgs w lx lg) :: Ent.view da (df.map vu8) :: Ent.row a 112 cap 5 1 (bs.map vu8) :: L)) :
  Cs Try.prog 15 [(.pointer (some ⟨ob, 0, none⟩)), (.slice a 112 cap)].toArray w (fun v w1 => ∃ la' lc' lx', v = (.tuple [(.agg ⟨flat [(1, [(vu64 (ins_of ((bs.drop 0).take 80)))]), (32, (me_of ((bs.drop 0).take 80)).map vu8), (32, (ch_of ((bs.drop 0).take 80)).map vu8)]⟩), (.bool (decide (tgD id df dn u lg ms (bs.take 80) = (bs.drop 80).take 32))), (vi 0)].toArray) ∧ HP w00 w1 (Ent.blk ob .nw 50 [(1, [(.bool id)]), (32, ms.map vu8), (1, [(.slice da dn dc)]), (1, [(vi (((tgU id df dn u lg ms (bs.take 80)) : Nat) : Int))]), (1, [(.map (some mp))]), (1, [(.slice la' ((tgL id df dn u lg ms (bs.take 80)).length) lc')])] :: Ent.row la' ((tgL id df dn u lg ms (bs.take 80)).length) lc' 111 67 lx' :: Ent.obj mp .nw (.map (mArr (tgL id df dn u lg ms (bs.take 80))) ((tgL id df dn u lg ms (bs.take 80)).length)) :: Ent.pin (sblks lx') (fun w => Lgs w lx' (tgL id df dn u lg ms (bs.take 80))) :: Ent.view da (df.map vu8) :: Ent.row a 112 cap 5 1 (bs.map vu8) :: L)) := by
 refine Cs.of (n := 48) (args := [(pO ob 0), (.slice a 112 cap)]) Try.func15 rfl rfl rfl ?_
 refine WP.seq (WP.reg ?_)
 refine WL.alloc (segs := [(1, [(vu64 0)]), (32, (List.replicate 32 (0 : UInt8)).map vu8), (32, (List.replicate 32 (0 : UInt8)).map vu8)]) h_0 (zv Try.typeInfo30 rfl) rfl (SsOk.cons (SOk.v rfl) (SsOk.cons (SOk.u8 lr) (SsOk.cons (SOk.u8 lr) SsOk.nil))) rfl (fun b_1 w_2 h_3 => ?_)
 refine qA (.bool false) rfl rfl (qA (vi 0) rfl rfl ?_)
 refine WL.nil (thn_n (WP.seq (WP.seq (WP.reg ?_))))
 refine qM (pO ob 0) rfl rfl (qV rfl (R.buildS (pl := [(0, 1), (1, 32), (33, 1), (34, 1)]) (zs := [(1, [(vi 0)]), (32, (List.replicate 32 (0 : UInt8)).map vu8), (1, [(vi 0)]), (1, [(.slice none 0 0)])]) (vs := []) (out := [(1, [(vi 0)]), (32, (List.replicate 32 (0 : UInt8)).map vu8), (1, [(vi 0)]), (1, [(.slice none 0 0)])]) (cs := flat [(1, [(vi 0)]), (32, (List.replicate 32 (0 : UInt8)).map vu8), (1, [(vi 0)]), (1, [(.slice none 0 0)])]) Try.underlying103 (zv Try.typeInfo103 rfl) rfl (SsOk.cons (SOk.v rfl) (SsOk.cons (SOk.u8 lr) (SsOk.cons (SOk.v rfl) (SsOk.cons (SOk.v rfl) SsOk.nil)))) (pl103 _ Try.underlying103) rfl FillR.nil rfl) ?_)
 refine WL.call Try.call48 rfl rfl (c_oAsk_0 id ob mp ms hms da dn dc u la lg.length lc 0 (List.replicate 32 (0 : UInt8)) none 0 0 lr _ (h_3.argR M1)) rfl ?_
 rintro _ w_6 ⟨rfl, hc_5⟩
 have h_7 := h_3.same hc_5
 refine qM (.tuple [(.agg ⟨(List.replicate 32 (0 : UInt8)).map vu8⟩), (vi 2)].toArray) rfl rfl (qV rfl (R.extract rfl rfl) (qV rfl (R.extract rfl rfl) ?_))
 refine WL.alloc (segs := [(32, (List.replicate 32 (0 : UInt8)).map vu8)]) h_7 (zv Try.typeInfo23 rfl) rfl (SsOk.cons (SOk.u8 lr) SsOk.nil) rfl (fun b_8 w_9 h_10 => ?_)
 refine WL.storeA (b := b_8) (off := 0) [] [(32, (List.replicate 32 (0 : UInt8)).map vu8)] [(32, (List.replicate 32 (0 : UInt8)).map vu8)] [] (ys := (List.replicate 32 (0 : UInt8)).map vu8) h_10 rfl rfl Try.sizeOf23 At.h (by decide) rfl rfl rfl rfl rfl rfl (SsOk.cons (SOk.u8 lr) SsOk.nil) (fun w_11 h_12 => ?_)
 refine qA (vi 2) rfl rfl ?_
 refine WL.nil (thn_n (WP.seq (WP.reg ?_)))
 refine qM (vi 2) rfl rfl (qV rfl (R.bin rfl rfl (bi_eql (r := false) (by decide))) ?_)
 refine WL.nil (thn_n ?_)
 refine WP.condF rfl ?_
 refine WP.skip (thn_n (WP.seq (WP.reg ?_)))
 refine qM (.slice a 112 cap) rfl rfl ?_
 refine WL.call Try.call18 rfl rfl (c_Spl_ok a cap bs hl (h_12.own M7).2.2.1 hm _ (ownView (h_12.ok _ M7))) rfl ?_
 rintro _ w_14 ⟨rfl, hc_13⟩
 have h_15 := h_12.same hc_13
 refine qM (.tuple [(.agg ⟨flat [(1, [(vu64 (ins_of ((bs.drop 0).take 80)))]), (32, (me_of ((bs.drop 0).take 80)).map vu8), (32, (ch_of ((bs.drop 0).take 80)).map vu8)]⟩), (.agg ⟨((bs.drop 80).take 32).map vu8⟩), (vi 0)].toArray) rfl rfl (qV rfl (R.extract rfl rfl) (qV rfl (R.extract rfl rfl) (qV rfl (R.extract rfl rfl) ?_)))
 refine WL.alloc (segs := [(1, [(vu64 0)]), (32, (List.replicate 32 (0 : UInt8)).map vu8), (32, (List.replicate 32 (0 : UInt8)).map vu8)]) h_15 (zv Try.typeInfo30 rfl) rfl (SsOk.cons (SOk.v rfl) (SsOk.cons (SOk.u8 lr) (SsOk.cons (SOk.u8 lr) SsOk.nil))) rfl (fun b_16 w_17 h_18 => ?_)
 refine WL.alloc (segs := [(32, (List.replicate 32 (0 : UInt8)).map vu8)]) h_18 (zv Try.typeInfo23 rfl) rfl (SsOk.cons (SOk.u8 lr) SsOk.nil) rfl (fun b_19 w_20 h_21 => ?_)
 refine WL.storeA (b := b_16) (off := 0) [] [(1, [(vu64 0)]), (32, (List.replicate 32 (0 : UInt8)).map vu8), (32, (List.replicate 32 (0 : UInt8)).map vu8)] [(1, [(vu64 (ins_of ((bs.drop 0).take 80)))]), (32, (me_of ((bs.drop 0).take 80)).map vu8), (32, (ch_of ((bs.drop 0).take 80)).map vu8)] [] (ys := flat [(1, [(vu64 (ins_of ((bs.drop 0).take 80)))]), (32, (me_of ((bs.drop 0).take 80)).map vu8), (32, (ch_of ((bs.drop 0).take 80)).map vu8)]) h_21 rfl rfl Try.sizeOf30 Y1 (by decide) rfl rfl rfl rfl rfl rfl (SsOk.cons (SOk.v rfl) (SsOk.cons (SOk.u8 (me_len (by simp only [List.length_take, List.length_drop, hl]; decide))) (SsOk.cons (SOk.u8 (ch_len (by simp only [List.length_take, List.length_drop, hl]; decide))) SsOk.nil))) (fun w_22 h_23 => ?_)
 refine WL.storeA (b := b_19) (off := 0) [] [(32, (List.replicate 32 (0 : UInt8)).map vu8)] [(32, ((bs.drop 80).take 32).map vu8)] [] (ys := ((bs.drop 80).take 32).map vu8) h_23 rfl rfl Try.sizeOf23 At.h (by decide) rfl rfl rfl rfl rfl rfl (SsOk.cons (SOk.u8 (by simp only [List.length_take, List.length_drop, hl]; decide)) SsOk.nil) (fun w_24 h_25 => ?_)
 refine qA (vi 0) rfl rfl ?_
 refine WL.nil (thn_n (WP.seq (WP.seq (WP.reg ?_))))
 refine qM (vi 0) rfl rfl (qV rfl (R.bin rfl rfl (bi_neq (r := false) (by decide))) ?_)
 refine WL.nil (thn_n ?_)
 refine WP.condF rfl ?_
 refine WP.skip (thn_n (WP.seq (WP.reg ?_)))
 refine qM (pO ob 0) rfl rfl (qM (.slice a 112 cap) rfl rfl ?_)
 refine WL.call Try.call49 rfl rfl (c_rSize  _ ) rfl ?_
 rintro _ w_27 ⟨rfl, hc_26⟩
 have h_28 := h_25.same hc_26
 refine qV rfl (R.sliceR0 (h := 80) rfl EvB.dflt (EvB.it (l := 80) rfl rfl) (by omega) Try.underlying37 Try.sizeOf5 (h_28.ok _ M9)) ?_
 have h_34 := (((((h_28.up J9).up J9).up J9).up J9).up J9).up J9
 have h32_w_38 := Lgs.ok32 (h_34.ok _ M3).1
 refine WL.call Try.call47 rfl rfl (c_atag_p id ob mp ms df hms da dn dc u hdf la lc lx lg hu hlg a 112 80 cap cap bs hl (by omega) (by omega) (by omega) _ h_34) rfl ?_
 rintro _ w_38 ⟨la_35, lc_36, lx_37, rfl, h_39⟩
 refine qM (.tuple [(.agg ⟨(tgD id df dn u lg ms (bs.take 80)).map vu8⟩), (vi 0)].toArray) rfl rfl (qV rfl (R.extract rfl rfl) (qV rfl (R.extract rfl rfl) ?_))
 refine WL.alloc (segs := [(32, (List.replicate 32 (0 : UInt8)).map vu8)]) h_39 (zv Try.typeInfo23 rfl) rfl (SsOk.cons (SOk.u8 lr) SsOk.nil) rfl (fun b_40 w_41 h_42 => ?_)
 refine WL.storeA (b := b_40) (off := 0) [] [(32, (List.replicate 32 (0 : UInt8)).map vu8)] [(32, (tgD id df dn u lg ms (bs.take 80)).map vu8)] [] (ys := (tgD id df dn u lg ms (bs.take 80)).map vu8) h_42 rfl rfl Try.sizeOf23 At.h (by decide) rfl rfl rfl rfl rfl rfl (SsOk.cons (SOk.u8 (tgD_len (dn := dn) hdf h32_w_38)) SsOk.nil) (fun w_43 h_44 => ?_)
 refine qA (vi 0) rfl rfl ?_
 refine WL.nil (thn_n (WP.seq (WP.seq (WP.reg ?_))))
 refine qM (vi 0) rfl rfl (qV rfl (R.bin rfl rfl (bi_neq (r := false) (by decide))) ?_)
 refine WL.nil (thn_n ?_)
 refine WP.condF rfl ?_
 refine WP.skip (thn_n (WP.seq ?_))
 refine WP.drawT (SL w00.heap.size [.blk b_40 .nw 23 [(32, (tgD id df dn u lg ms (bs.take 80)).map vu8)], .blk ob .nw 50 [(1, [(.bool id)]), (32, ms.map vu8), (1, [(.slice da dn dc)]), (1, [(vn ((tgU id df dn u lg ms (bs.take 80))))]), (1, [(.map (some mp))]), (1, [(.slice la_35 ((tgL id df dn u lg ms (bs.take 80)).length) lc_36)])], .row la_35 ((tgL id df dn u lg ms (bs.take 80)).length) lc_36 111 67 lx_37, .obj mp .nw (.map (mArr (tgL id df dn u lg ms (bs.take 80))) ((tgL id df dn u lg ms (bs.take 80)).length)), .pin (sblks lx_37) (fun w => Lgs w lx_37 (tgL id df dn u lg ms (bs.take 80))), .view da (df.map vu8), .row a 112 cap 5 1 (bs.map vu8), .blk b_19 .nw 23 [(32, ((bs.drop 80).take 32).map vu8)], .blk b_16 .nw 30 [(1, [(vu64 (ins_of ((bs.drop 0).take 80)))]), (32, (me_of ((bs.drop 0).take 80)).map vu8), (32, (ch_of ((bs.drop 0).take 80)).map vu8)], .blk b_8 .nw 23 [(32, (List.replicate 32 (0 : UInt8)).map vu8)]]) (.q 0 (.q 1 (.q 2 (.q 3 (.s 4 (.q 5 (.q 6 .nil))))))) (by kernel_rfl) (by kernel_rfl) rfl (by kernel_rfl) (fun w_45 hc_47 => (SL.cons ((h_44.same hc_47).ok _ M0) (SL.cons ((h_44.same hc_47).ok _ M1) (SL.cons ((h_44.same hc_47).ok _ M2) (SL.cons ((h_44.same hc_47).ok _ M3) (SL.cons ((h_44.same hc_47).ok _ M4) (SL.cons ((h_44.same hc_47).ok _ M5) (SL.cons ((h_44.same hc_47).ok _ M6) (SL.cons ((h_44.same hc_47).ok _ M7) (SL.cons ((h_44.same hc_47).ok _ M8) (SL.cons ((h_44.same hc_47).ok _ M9) (SL.nil _ _)))))))))))) (fun w_45 hc_47 => ?_)
 have h_46 := h_44.same hc_47
 refine qT rfl rfl (fun wq hS => R.loadA (b := b_16) (off := 0) [] [(1, [(vu64 (ins_of ((bs.drop 0).take 80)))]), (32, (me_of ((bs.drop 0).take 80)).map vu8), (32, (ch_of ((bs.drop 0).take 80)).map vu8)] [] (cs := flat [(1, [(vu64 (ins_of ((bs.drop 0).take 80)))]), (32, (me_of ((bs.drop 0).take 80)).map vu8), (32, (ch_of ((bs.drop 0).take 80)).map vu8)]) rfl Try.isAgg30 Try.sizeOf30 (hS _ M8) rfl rfl rfl rfl) ?_
 refine qT rfl rfl (fun wq hS => R.loadA (b := b_40) (off := 0) [] [(32, (tgD id df dn u lg ms (bs.take 80)).map vu8)] [] (cs := (tgD id df dn u lg ms (bs.take 80)).map vu8) rfl Try.isAgg23 Try.sizeOf23 (hS _ M0) rfl rfl rfl rfl) ?_
 refine qT rfl rfl (fun wq hS => R.loadA (b := b_19) (off := 0) [] [(32, ((bs.drop 80).take 32).map vu8)] [] (cs := ((bs.drop 80).take 32).map vu8) rfl Try.isAgg23 Try.sizeOf23 (hS _ M7) rfl rfl rfl rfl) ?_
 refine qT rfl rfl (fun wq hS => R.eqA (xs := (tgD id df dn u lg ms (bs.take 80)).map vu8) (ys := ((bs.drop 80).take 32).map vu8) (r := decide (tgD id df dn u lg ms (bs.take 80) = (bs.drop 80).take 32)) rfl rfl Try.eqGuardType23 kt23 (by decide) ag23 (Typ.u8s Try.underlying23 ce23 Try.underlying5 ce5 (tgD_len (dn := dn) hdf h32_w_38)) (Typ.u8s Try.underlying23 ce23 Try.underlying5 ce5 (by simp only [List.length_take, List.length_drop, hl]; decide)) (map_inj_u8.trans (decT _))) ?_
 refine WT.s (Op1.one rfl (Wn.no rfl) ?_)
 refine WL.storeA (b := b_1) (off := 0) [] [(1, [(vu64 0)]), (32, (List.replicate 32 (0 : UInt8)).map vu8), (32, (List.replicate 32 (0 : UInt8)).map vu8)] [(1, [(vu64 (ins_of ((bs.drop 0).take 80)))]), (32, (me_of ((bs.drop 0).take 80)).map vu8), (32, (ch_of ((bs.drop 0).take 80)).map vu8)] [] (ys := flat [(1, [(vu64 (ins_of ((bs.drop 0).take 80)))]), (32, (me_of ((bs.drop 0).take 80)).map vu8), (32, (ch_of ((bs.drop 0).take 80)).map vu8)]) h_46 rfl rfl Try.sizeOf30 Y10 (by decide) rfl rfl rfl rfl rfl rfl (SsOk.cons (SOk.v rfl) (SsOk.cons (SOk.u8 (me_len (by simp only [List.length_take, List.length_drop, hl]; decide))) (SsOk.cons (SOk.u8 (ch_len (by simp only [List.length_take, List.length_drop, hl]; decide))) SsOk.nil))) (fun w_48 h_49 => ?_)
 refine WL.nil ?_
 refine ⟨(SL.cons (h_49.ok _ M0) (SL.cons (h_49.ok _ M1) (SL.cons (h_49.ok _ M2) (SL.cons (h_49.ok _ M3) (SL.cons (h_49.ok _ M4) (SL.cons (h_49.ok _ M5) (SL.cons (h_49.ok _ M6) (SL.cons (h_49.ok _ M7) (SL.cons (h_49.ok _ M8) (SL.cons (h_49.ok _ M9) (SL.nil _ _))))))))))), ?_⟩
 refine qT rfl rfl (fun wq hS => R.assign (v := (.bool (decide (tgD id df dn u lg ms (bs.take 80) = (bs.drop 80).take 32)))) rfl) ?_
 refine qT rfl rfl (fun wq hS => R.assign (v := (vi 0)) rfl) ?_
 refine WT.nil (thn_n (WP.ret ?_))
 refine ret_of Try.results15 (RV.cell rfl (h_49.loadA (cs := flat [(1, [(vu64 (ins_of ((bs.drop 0).take 80)))]), (32, (me_of ((bs.drop 0).take 80)).map vu8), (32, (ch_of ((bs.drop 0).take 80)).map vu8)]) Try.isAgg30 Try.sizeOf30 M10 rfl rfl) (RV.tmp (v := (.bool (decide (tgD id df dn u lg ms (bs.take 80) = (bs.drop 80).take 32)))) rfl (RV.tmp (v := (vi 0)) rfl RV.nil))) ?_
 have h_64 := ((((((((((((((h_49.drop rfl).up J6).drop rfl).up J6).drop rfl).up J6).drop rfl).up J6).drop rfl).up J5).up J5).up J5).up J5).up J5).up J5
 exact ⟨_, _, _, rfl, h_64⟩

theorem c_num19 (e : Int) (be : -9223372036854775808 ≤ e ∧ e < 9223372036854775808) (w : World) :
  Cs Try.prog 14 [(vi e)].toArray w (fun v w1 => v = vi e ∧ Chg w w1 []) := by
 refine Cs.of (n := 4) (args := [(vi e)]) Try.func14 rfl rfl rfl ?_
 have h_0 := HP.init w
 refine WP.seq (WP.reg ?_)
 refine qA (vi 0) rfl rfl ?_
 refine WL.nil (thn_n (WP.seq (WP.reg ?_)))
 refine qM (vi e) rfl rfl (qA (vi e) rfl rfl ?_)
 refine WL.nil (thn_n (WP.ret ?_))
 refine ret_of Try.results14 (RV.tmp (v := (vi e)) rfl RV.nil) ?_
 exact ⟨rfl, h_0.chgS⟩
end Go.Proofs.Ytnhppjimimhlkaa

namespace Go.Proofs.Ytnhppjimimhlkaa
open Go.Vc Go.Orc Go.Sh Go.RowKit
set_option maxRecDepth 20000
theorem ce28 : Try.prog.cellsOf 28 = 1 := by kernel_rfl
theorem ce30 : Try.prog.cellsOf 30 = 65 := by kernel_rfl
theorem kt30 : Try.prog.keyTypeAt 3 30 = true := by kernel_rfl
theorem ag30 : aggB Try.prog 30 = true := by unfold aggB; rw [Try.underlying30]
theorem c_known19  (w : World) :
  Cs Try.prog 11 [].toArray w (fun v w1 => v = (.bool true) ∧ Chg w w1 []) := by
 refine Cs.of (n := 96) (args := []) Try.func11 rfl rfl rfl ?_
 have h_0 := HP.init w
 refine WP.seq (WP.reg ?_)
 refine qA (.bool false) rfl rfl ?_
 refine WL.nil (thn_n (WP.seq (WP.reg ?_)))
 refine qV rfl (R.buildA (vs := []) (cs := (List.replicate 32 (0 : UInt8)).map vu8) Try.underlying23 Try.sizeOf5 (zv Try.typeInfo23 rfl) rfl rfl) ?_
 have h_1 := HP_viewNil h_0
 refine WL.call Try.call17 rfl rfl (c_ONew true (List.replicate 32 (0 : UInt8)) ([] : List UInt8) lr none 0 0 (rfl : List.length ([] : List UInt8) = 32 * 0) (by decide) _ h_1) rfl ?_
 rintro _ w_6 ⟨b_2, b_3, a_4, c_5, rfl, h_7⟩
 refine qA (pO b_2 0) rfl rfl ?_
 refine WL.nil (thn_n (WP.seq (WP.reg ?_)))
 refine qM (pO b_2 0) rfl rfl (qV rfl (R.buildS (pl := [(0, 1), (1, 32), (33, 32)]) (zs := [(1, [(vu64 0)]), (32, (List.replicate 32 (0 : UInt8)).map vu8), (32, (List.replicate 32 (0 : UInt8)).map vu8)]) (vs := [(0, (vu64 3))]) (out := [(1, [(vu64 3)]), (32, (List.replicate 32 (0 : UInt8)).map vu8), (32, (List.replicate 32 (0 : UInt8)).map vu8)]) (cs := flat [(1, [(vu64 3)]), (32, (List.replicate 32 (0 : UInt8)).map vu8), (32, (List.replicate 32 (0 : UInt8)).map vu8)]) Try.underlying30 (zv Try.typeInfo30 rfl) rfl (SsOk.cons (SOk.v rfl) (SsOk.cons (SOk.u8 lr) (SsOk.cons (SOk.u8 lr) SsOk.nil))) (pl30 _ Try.underlying30) rfl (FillR.cons [] [(1, [(vu64 0)])] [(1, [(vu64 3)])] [(32, (List.replicate 32 (0 : UInt8)).map vu8), (32, (List.replicate 32 (0 : UInt8)).map vu8)] rfl rfl rfl rfl (SsOk.cons (SOk.v rfl) SsOk.nil) rfl rfl rfl FillR.nil) rfl) ?_)
 have h_13 := ((((h_7.up J4).up J4).up J4).up J4).up J4
 have h32_w_19 := Lgs.ok32 (h_13.ok _ M3).1
 refine WL.call Try.call13 rfl rfl (c_Iss true b_2 b_3 (List.replicate 32 (0 : UInt8)) ([] : List UInt8) lr a_4 0 c_5 0 (rfl : List.length ([] : List UInt8) = 32 * 0) none 0 [] ([] : Lg) (by decide +kernel) (by decide +kernel) (3 : UInt64) (List.replicate 32 (0 : UInt8)) (List.replicate 32 (0 : UInt8)) lr lr _ h_13) rfl ?_
 rintro _ w_19 ⟨a_14, c_15, la_16, lc_17, lx_18, rfl, h_20⟩
 refine qM (.tuple [(.slice a_14 112 c_15), (vi 0)].toArray) rfl rfl (qV rfl (R.extract rfl rfl) (qV rfl (R.extract rfl rfl) (qA (.slice a_14 112 c_15) rfl rfl (qA (vi 0) rfl rfl ?_))))
 refine WL.nil (thn_n (WP.seq (WP.seq (WP.reg ?_))))
 refine qM (vi 0) rfl rfl ?_
 refine WL.call Try.call14 rfl rfl (c_num19 0 (by omega) _ ) rfl ?_
 rintro _ w_22 ⟨rfl, hc_21⟩
 have h_23 := h_20.same hc_21
 refine qV rfl (R.bin rfl rfl (bi_neq (r := false) (by decide))) (qM (.bool false) rfl rfl ?_)
 refine WL.want rfl rfl ?_
 refine qM (.slice a_14 112 c_15) rfl rfl ?_
 refine WL.want rfl rfl ?_
 refine qV rfl (R.lenS (a := a_14) (m := 112) rfl rfl Try.underlying37) ?_
 refine WL.want rfl rfl ?_
 refine qV rfl (R.bin rfl rfl (bi_neq (r := false) (by decide))) (qV rfl (R.pickF (v := (.bool false)) rfl rfl) ?_)
 refine WL.nil (thn_n ?_)
 refine WP.condF rfl ?_
 refine WP.skip (thn_n (WP.seq (WP.reg ?_)))
 refine qM (pO b_2 0) rfl rfl (qM (.slice a_14 112 c_15) rfl rfl ?_)
 have hcp_24 := (h_23.own M0).2.2.1
 have h_29 := ((((h_23.up J5).up J5).up J5).up J5).up J5
 refine WL.call Try.call15 rfl rfl (c_Ver_r true b_2 b_3 (List.replicate 32 (0 : UInt8)) ([] : List UInt8) lr a_4 0 c_5 (tgU true ([] : List UInt8) 0 0 ([] : Lg) (List.replicate 32 (0 : UInt8)) (repB (3 : UInt64) (List.replicate 32 (0 : UInt8)) (List.replicate 32 (0 : UInt8)))) (rfl : List.length ([] : List UInt8) = 32 * 0) la_16 lc_17 lx_18 (tgL true ([] : List UInt8) 0 0 ([] : Lg) (List.replicate 32 (0 : UInt8)) (repB (3 : UInt64) (List.replicate 32 (0 : UInt8)) (List.replicate 32 (0 : UInt8)))) (by decide +kernel) (by decide +kernel) a_14 c_15 (repB (3 : UInt64) (List.replicate 32 (0 : UInt8)) (List.replicate 32 (0 : UInt8)) ++ tgD true ([] : List UInt8) 0 0 ([] : Lg) (List.replicate 32 (0 : UInt8)) (repB (3 : UInt64) (List.replicate 32 (0 : UInt8)) (List.replicate 32 (0 : UInt8)))) (iss_len (repB_len lr lr) (tgD_len (dn := 0) (rfl : List.length ([] : List UInt8) = 32 * 0) h32_w_19)) hcp_24 (by decide +kernel) _ h_29) rfl ?_
 rintro _ w_33 ⟨la_30, lc_31, lx_32, rfl, h_34⟩
 refine qM (.tuple [(.agg ⟨flat [(1, [(vu64 (ins_of (((repB (3 : UInt64) (List.replicate 32 (0 : UInt8)) (List.replicate 32 (0 : UInt8)) ++ tgD true ([] : List UInt8) 0 0 ([] : Lg) (List.replicate 32 (0 : UInt8)) (repB (3 : UInt64) (List.replicate 32 (0 : UInt8)) (List.replicate 32 (0 : UInt8)))).drop 0).take 80)))]), (32, (me_of (((repB (3 : UInt64) (List.replicate 32 (0 : UInt8)) (List.replicate 32 (0 : UInt8)) ++ tgD true ([] : List UInt8) 0 0 ([] : Lg) (List.replicate 32 (0 : UInt8)) (repB (3 : UInt64) (List.replicate 32 (0 : UInt8)) (List.replicate 32 (0 : UInt8)))).drop 0).take 80)).map vu8), (32, (ch_of (((repB (3 : UInt64) (List.replicate 32 (0 : UInt8)) (List.replicate 32 (0 : UInt8)) ++ tgD true ([] : List UInt8) 0 0 ([] : Lg) (List.replicate 32 (0 : UInt8)) (repB (3 : UInt64) (List.replicate 32 (0 : UInt8)) (List.replicate 32 (0 : UInt8)))).drop 0).take 80)).map vu8)]⟩), (.bool (decide (tgD true ([] : List UInt8) 0 (tgU true ([] : List UInt8) 0 0 ([] : Lg) (List.replicate 32 (0 : UInt8)) (repB (3 : UInt64) (List.replicate 32 (0 : UInt8)) (List.replicate 32 (0 : UInt8)))) (tgL true ([] : List UInt8) 0 0 ([] : Lg) (List.replicate 32 (0 : UInt8)) (repB (3 : UInt64) (List.replicate 32 (0 : UInt8)) (List.replicate 32 (0 : UInt8)))) (List.replicate 32 (0 : UInt8)) ((repB (3 : UInt64) (List.replicate 32 (0 : UInt8)) (List.replicate 32 (0 : UInt8)) ++ tgD true ([] : List UInt8) 0 0 ([] : Lg) (List.replicate 32 (0 : UInt8)) (repB (3 : UInt64) (List.replicate 32 (0 : UInt8)) (List.replicate 32 (0 : UInt8)))).take 80) = ((repB (3 : UInt64) (List.replicate 32 (0 : UInt8)) (List.replicate 32 (0 : UInt8)) ++ tgD true ([] : List UInt8) 0 0 ([] : Lg) (List.replicate 32 (0 : UInt8)) (repB (3 : UInt64) (List.replicate 32 (0 : UInt8)) (List.replicate 32 (0 : UInt8)))).drop 80).take 32))), (vi 0)].toArray) rfl rfl (qV rfl (R.extract rfl rfl) (qV rfl (R.extract rfl rfl) (qV rfl (R.extract rfl rfl) ?_)))
 refine WL.alloc (segs := [(1, [(vu64 0)]), (32, (List.replicate 32 (0 : UInt8)).map vu8), (32, (List.replicate 32 (0 : UInt8)).map vu8)]) h_34 (zv Try.typeInfo30 rfl) rfl (SsOk.cons (SOk.v rfl) (SsOk.cons (SOk.u8 lr) (SsOk.cons (SOk.u8 lr) SsOk.nil))) rfl (fun b_35 w_36 h_37 => ?_)
 refine WL.storeA (b := b_35) (off := 0) [] [(1, [(vu64 0)]), (32, (List.replicate 32 (0 : UInt8)).map vu8), (32, (List.replicate 32 (0 : UInt8)).map vu8)] [(1, [(vu64 (ins_of (((repB (3 : UInt64) (List.replicate 32 (0 : UInt8)) (List.replicate 32 (0 : UInt8)) ++ tgD true ([] : List UInt8) 0 0 ([] : Lg) (List.replicate 32 (0 : UInt8)) (repB (3 : UInt64) (List.replicate 32 (0 : UInt8)) (List.replicate 32 (0 : UInt8)))).drop 0).take 80)))]), (32, (me_of (((repB (3 : UInt64) (List.replicate 32 (0 : UInt8)) (List.replicate 32 (0 : UInt8)) ++ tgD true ([] : List UInt8) 0 0 ([] : Lg) (List.replicate 32 (0 : UInt8)) (repB (3 : UInt64) (List.replicate 32 (0 : UInt8)) (List.replicate 32 (0 : UInt8)))).drop 0).take 80)).map vu8), (32, (ch_of (((repB (3 : UInt64) (List.replicate 32 (0 : UInt8)) (List.replicate 32 (0 : UInt8)) ++ tgD true ([] : List UInt8) 0 0 ([] : Lg) (List.replicate 32 (0 : UInt8)) (repB (3 : UInt64) (List.replicate 32 (0 : UInt8)) (List.replicate 32 (0 : UInt8)))).drop 0).take 80)).map vu8)] [] (ys := flat [(1, [(vu64 (ins_of (((repB (3 : UInt64) (List.replicate 32 (0 : UInt8)) (List.replicate 32 (0 : UInt8)) ++ tgD true ([] : List UInt8) 0 0 ([] : Lg) (List.replicate 32 (0 : UInt8)) (repB (3 : UInt64) (List.replicate 32 (0 : UInt8)) (List.replicate 32 (0 : UInt8)))).drop 0).take 80)))]), (32, (me_of (((repB (3 : UInt64) (List.replicate 32 (0 : UInt8)) (List.replicate 32 (0 : UInt8)) ++ tgD true ([] : List UInt8) 0 0 ([] : Lg) (List.replicate 32 (0 : UInt8)) (repB (3 : UInt64) (List.replicate 32 (0 : UInt8)) (List.replicate 32 (0 : UInt8)))).drop 0).take 80)).map vu8), (32, (ch_of (((repB (3 : UInt64) (List.replicate 32 (0 : UInt8)) (List.replicate 32 (0 : UInt8)) ++ tgD true ([] : List UInt8) 0 0 ([] : Lg) (List.replicate 32 (0 : UInt8)) (repB (3 : UInt64) (List.replicate 32 (0 : UInt8)) (List.replicate 32 (0 : UInt8)))).drop 0).take 80)).map vu8)]) h_37 rfl rfl Try.sizeOf30 At.h (by decide) rfl rfl rfl rfl rfl rfl (SsOk.cons (SOk.v rfl) (SsOk.cons (SOk.u8 (me_len (by simp only [List.length_take, List.length_drop, (iss_len (repB_len lr lr) (tgD_len (dn := 0) (rfl : List.length ([] : List UInt8) = 32 * 0) h32_w_19))]; decide))) (SsOk.cons (SOk.u8 (ch_len (by simp only [List.length_take, List.length_drop, (iss_len (repB_len lr lr) (tgD_len (dn := 0) (rfl : List.length ([] : List UInt8) = 32 * 0) h32_w_19))]; decide))) SsOk.nil))) (fun w_38 h_39 => ?_)
 refine qA (.bool (decide (tgD true ([] : List UInt8) 0 (tgU true ([] : List UInt8) 0 0 ([] : Lg) (List.replicate 32 (0 : UInt8)) (repB (3 : UInt64) (List.replicate 32 (0 : UInt8)) (List.replicate 32 (0 : UInt8)))) (tgL true ([] : List UInt8) 0 0 ([] : Lg) (List.replicate 32 (0 : UInt8)) (repB (3 : UInt64) (List.replicate 32 (0 : UInt8)) (List.replicate 32 (0 : UInt8)))) (List.replicate 32 (0 : UInt8)) ((repB (3 : UInt64) (List.replicate 32 (0 : UInt8)) (List.replicate 32 (0 : UInt8)) ++ tgD true ([] : List UInt8) 0 0 ([] : Lg) (List.replicate 32 (0 : UInt8)) (repB (3 : UInt64) (List.replicate 32 (0 : UInt8)) (List.replicate 32 (0 : UInt8)))).take 80) = ((repB (3 : UInt64) (List.replicate 32 (0 : UInt8)) (List.replicate 32 (0 : UInt8)) ++ tgD true ([] : List UInt8) 0 0 ([] : Lg) (List.replicate 32 (0 : UInt8)) (repB (3 : UInt64) (List.replicate 32 (0 : UInt8)) (List.replicate 32 (0 : UInt8)))).drop 80).take 32))) rfl rfl (qA (vi 0) rfl rfl ?_)
 refine WL.nil (thn_n (WP.seq (WP.reg ?_)))
 refine qM (.slice a_14 112 c_15) rfl rfl (qM (.slice a_14 112 c_15) rfl rfl (qV rfl (R.indexS (a := a_14) (i := 111) (off := 111) (xs := (repB (3 : UInt64) (List.replicate 32 (0 : UInt8)) (List.replicate 32 (0 : UInt8)) ++ tgD true ([] : List UInt8) 0 0 ([] : Lg) (List.replicate 32 (0 : UInt8)) (repB (3 : UInt64) (List.replicate 32 (0 : UInt8)) (List.replicate 32 (0 : UInt8)))).map vu8) rfl rfl rfl (by decide) (ownView (h_39.ok _ M6)) (lt_len (K := 112) (len_map (iss_len (repB_len lr lr) (tgD_len (dn := 0) (rfl : List.length ([] : List UInt8) = 32 * 0) h32_w_19))) (by omega)) Try.underlying37 Try.sizeOf5 (Nat.mul_one _).symm) (qV rfl (R.loadG (a := a_14) (i := 111) (xs := (repB (3 : UInt64) (List.replicate 32 (0 : UInt8)) (List.replicate 32 (0 : UInt8)) ++ tgD true ([] : List UInt8) 0 0 ([] : Lg) (List.replicate 32 (0 : UInt8)) (repB (3 : UInt64) (List.replicate 32 (0 : UInt8)) (List.replicate 32 (0 : UInt8)))).map vu8) (v := (vu8 ((repB (3 : UInt64) (List.replicate 32 (0 : UInt8)) (List.replicate 32 (0 : UInt8)) ++ tgD true ([] : List UInt8) 0 0 ([] : Lg) (List.replicate 32 (0 : UInt8)) (repB (3 : UInt64) (List.replicate 32 (0 : UInt8)) (List.replicate 32 (0 : UInt8)))).getD 111 0))) rfl (ownView (h_39.ok _ M6)) Try.isAgg5 (get_u8 (lt_len (K := 112) (iss_len (repB_len lr lr) (tgD_len (dn := 0) (rfl : List.length ([] : List UInt8) = 32 * 0) h32_w_19)) (by omega)))) (qV rfl (R.bin rfl rfl (b8_xor ((repB (3 : UInt64) (List.replicate 32 (0 : UInt8)) (List.replicate 32 (0 : UInt8)) ++ tgD true ([] : List UInt8) 0 0 ([] : Lg) (List.replicate 32 (0 : UInt8)) (repB (3 : UInt64) (List.replicate 32 (0 : UInt8)) (List.replicate 32 (0 : UInt8)))).getD 111 0) 1)) (qV rfl (R.indexS (a := a_14) (i := 111) (off := 111) (xs := (repB (3 : UInt64) (List.replicate 32 (0 : UInt8)) (List.replicate 32 (0 : UInt8)) ++ tgD true ([] : List UInt8) 0 0 ([] : Lg) (List.replicate 32 (0 : UInt8)) (repB (3 : UInt64) (List.replicate 32 (0 : UInt8)) (List.replicate 32 (0 : UInt8)))).map vu8) rfl rfl rfl (by decide) (ownView (h_39.ok _ M6)) (lt_len (K := 112) (len_map (iss_len (repB_len lr lr) (tgD_len (dn := 0) (rfl : List.length ([] : List UInt8) = 32 * 0) h32_w_19))) (by omega)) Try.underlying37 Try.sizeOf5 (Nat.mul_one _).symm) ?_)))))
 refine WL.storeR (a := a_14) (i := 111) (v := (vu8 (((repB (3 : UInt64) (List.replicate 32 (0 : UInt8)) (List.replicate 32 (0 : UInt8)) ++ tgD true ([] : List UInt8) 0 0 ([] : Lg) (List.replicate 32 (0 : UInt8)) (repB (3 : UInt64) (List.replicate 32 (0 : UInt8)) (List.replicate 32 (0 : UInt8)))).getD 111 0) ^^^ 1))) (xs' := ((repB (3 : UInt64) (List.replicate 32 (0 : UInt8)) (List.replicate 32 (0 : UInt8)) ++ tgD true ([] : List UInt8) 0 0 ([] : Lg) (List.replicate 32 (0 : UInt8)) (repB (3 : UInt64) (List.replicate 32 (0 : UInt8)) (List.replicate 32 (0 : UInt8)))).set 111 (((repB (3 : UInt64) (List.replicate 32 (0 : UInt8)) (List.replicate 32 (0 : UInt8)) ++ tgD true ([] : List UInt8) 0 0 ([] : Lg) (List.replicate 32 (0 : UInt8)) (repB (3 : UInt64) (List.replicate 32 (0 : UInt8)) (List.replicate 32 (0 : UInt8)))).getD 111 0) ^^^ 1)).map vu8) h_39 rfl rfl Try.sizeOf5 rfl Y6 (lt_len (K := 112) (len_map (iss_len (repB_len lr lr) (tgD_len (dn := 0) (rfl : List.length ([] : List UInt8) = 32 * 0) h32_w_19))) (by omega)) (set_u8 _ _ _) (fun w_40 h_41 => ?_)
 refine WL.nil (thn_n (WP.seq (WP.reg ?_)))
 refine qM (pO b_2 0) rfl rfl (qM (.slice a_14 112 c_15) rfl rfl ?_)
 have hcp_42 := (h_41.own M6).2.2.1
 have h_48 := (((((h_41.up J6).up J6).up J6).up J6).up J6).up J6
 refine WL.call Try.call15 rfl rfl (c_Ver_r true b_2 b_3 (List.replicate 32 (0 : UInt8)) ([] : List UInt8) lr a_4 0 c_5 (tgU true ([] : List UInt8) 0 (tgU true ([] : List UInt8) 0 0 ([] : Lg) (List.replicate 32 (0 : UInt8)) (repB (3 : UInt64) (List.replicate 32 (0 : UInt8)) (List.replicate 32 (0 : UInt8)))) (tgL true ([] : List UInt8) 0 0 ([] : Lg) (List.replicate 32 (0 : UInt8)) (repB (3 : UInt64) (List.replicate 32 (0 : UInt8)) (List.replicate 32 (0 : UInt8)))) (List.replicate 32 (0 : UInt8)) ((repB (3 : UInt64) (List.replicate 32 (0 : UInt8)) (List.replicate 32 (0 : UInt8)) ++ tgD true ([] : List UInt8) 0 0 ([] : Lg) (List.replicate 32 (0 : UInt8)) (repB (3 : UInt64) (List.replicate 32 (0 : UInt8)) (List.replicate 32 (0 : UInt8)))).take 80)) (rfl : List.length ([] : List UInt8) = 32 * 0) la_30 lc_31 lx_32 (tgL true ([] : List UInt8) 0 (tgU true ([] : List UInt8) 0 0 ([] : Lg) (List.replicate 32 (0 : UInt8)) (repB (3 : UInt64) (List.replicate 32 (0 : UInt8)) (List.replicate 32 (0 : UInt8)))) (tgL true ([] : List UInt8) 0 0 ([] : Lg) (List.replicate 32 (0 : UInt8)) (repB (3 : UInt64) (List.replicate 32 (0 : UInt8)) (List.replicate 32 (0 : UInt8)))) (List.replicate 32 (0 : UInt8)) ((repB (3 : UInt64) (List.replicate 32 (0 : UInt8)) (List.replicate 32 (0 : UInt8)) ++ tgD true ([] : List UInt8) 0 0 ([] : Lg) (List.replicate 32 (0 : UInt8)) (repB (3 : UInt64) (List.replicate 32 (0 : UInt8)) (List.replicate 32 (0 : UInt8)))).take 80)) (by decide +kernel) (by decide +kernel) a_14 c_15 ((repB (3 : UInt64) (List.replicate 32 (0 : UInt8)) (List.replicate 32 (0 : UInt8)) ++ tgD true ([] : List UInt8) 0 0 ([] : Lg) (List.replicate 32 (0 : UInt8)) (repB (3 : UInt64) (List.replicate 32 (0 : UInt8)) (List.replicate 32 (0 : UInt8)))).set 111 (((repB (3 : UInt64) (List.replicate 32 (0 : UInt8)) (List.replicate 32 (0 : UInt8)) ++ tgD true ([] : List UInt8) 0 0 ([] : Lg) (List.replicate 32 (0 : UInt8)) (repB (3 : UInt64) (List.replicate 32 (0 : UInt8)) (List.replicate 32 (0 : UInt8)))).getD 111 0) ^^^ 1)) (len_set (iss_len (repB_len lr lr) (tgD_len (dn := 0) (rfl : List.length ([] : List UInt8) = 32 * 0) h32_w_19)) _ _) hcp_42 (by decide +kernel) _ h_48) rfl ?_
 rintro _ w_52 ⟨la_49, lc_50, lx_51, rfl, h_53⟩
 refine qM (.tuple [(.agg ⟨flat [(1, [(vu64 (ins_of ((((repB (3 : UInt64) (List.replicate 32 (0 : UInt8)) (List.replicate 32 (0 : UInt8)) ++ tgD true ([] : List UInt8) 0 0 ([] : Lg) (List.replicate 32 (0 : UInt8)) (repB (3 : UInt64) (List.replicate 32 (0 : UInt8)) (List.replicate 32 (0 : UInt8)))).set 111 (((repB (3 : UInt64) (List.replicate 32 (0 : UInt8)) (List.replicate 32 (0 : UInt8)) ++ tgD true ([] : List UInt8) 0 0 ([] : Lg) (List.replicate 32 (0 : UInt8)) (repB (3 : UInt64) (List.replicate 32 (0 : UInt8)) (List.replicate 32 (0 : UInt8)))).getD 111 0) ^^^ 1)).drop 0).take 80)))]), (32, (me_of ((((repB (3 : UInt64) (List.replicate 32 (0 : UInt8)) (List.replicate 32 (0 : UInt8)) ++ tgD true ([] : List UInt8) 0 0 ([] : Lg) (List.replicate 32 (0 : UInt8)) (repB (3 : UInt64) (List.replicate 32 (0 : UInt8)) (List.replicate 32 (0 : UInt8)))).set 111 (((repB (3 : UInt64) (List.replicate 32 (0 : UInt8)) (List.replicate 32 (0 : UInt8)) ++ tgD true ([] : List UInt8) 0 0 ([] : Lg) (List.replicate 32 (0 : UInt8)) (repB (3 : UInt64) (List.replicate 32 (0 : UInt8)) (List.replicate 32 (0 : UInt8)))).getD 111 0) ^^^ 1)).drop 0).take 80)).map vu8), (32, (ch_of ((((repB (3 : UInt64) (List.replicate 32 (0 : UInt8)) (List.replicate 32 (0 : UInt8)) ++ tgD true ([] : List UInt8) 0 0 ([] : Lg) (List.replicate 32 (0 : UInt8)) (repB (3 : UInt64) (List.replicate 32 (0 : UInt8)) (List.replicate 32 (0 : UInt8)))).set 111 (((repB (3 : UInt64) (List.replicate 32 (0 : UInt8)) (List.replicate 32 (0 : UInt8)) ++ tgD true ([] : List UInt8) 0 0 ([] : Lg) (List.replicate 32 (0 : UInt8)) (repB (3 : UInt64) (List.replicate 32 (0 : UInt8)) (List.replicate 32 (0 : UInt8)))).getD 111 0) ^^^ 1)).drop 0).take 80)).map vu8)]⟩), (.bool (decide (tgD true ([] : List UInt8) 0 (tgU true ([] : List UInt8) 0 (tgU true ([] : List UInt8) 0 0 ([] : Lg) (List.replicate 32 (0 : UInt8)) (repB (3 : UInt64) (List.replicate 32 (0 : UInt8)) (List.replicate 32 (0 : UInt8)))) (tgL true ([] : List UInt8) 0 0 ([] : Lg) (List.replicate 32 (0 : UInt8)) (repB (3 : UInt64) (List.replicate 32 (0 : UInt8)) (List.replicate 32 (0 : UInt8)))) (List.replicate 32 (0 : UInt8)) ((repB (3 : UInt64) (List.replicate 32 (0 : UInt8)) (List.replicate 32 (0 : UInt8)) ++ tgD true ([] : List UInt8) 0 0 ([] : Lg) (List.replicate 32 (0 : UInt8)) (repB (3 : UInt64) (List.replicate 32 (0 : UInt8)) (List.replicate 32 (0 : UInt8)))).take 80)) (tgL true ([] : List UInt8) 0 (tgU true ([] : List UInt8) 0 0 ([] : Lg) (List.replicate 32 (0 : UInt8)) (repB (3 : UInt64) (List.replicate 32 (0 : UInt8)) (List.replicate 32 (0 : UInt8)))) (tgL true ([] : List UInt8) 0 0 ([] : Lg) (List.replicate 32 (0 : UInt8)) (repB (3 : UInt64) (List.replicate 32 (0 : UInt8)) (List.replicate 32 (0 : UInt8)))) (List.replicate 32 (0 : UInt8)) ((repB (3 : UInt64) (List.replicate 32 (0 : UInt8)) (List.replicate 32 (0 : UInt8)) ++ tgD true ([] : List UInt8) 0 0 ([] : Lg) (List.replicate 32 (0 : UInt8)) (repB (3 : UInt64) (List.replicate 32 (0 : UInt8)) (List.replicate 32 (0 : UInt8)))).take 80)) (List.replicate 32 (0 : UInt8)) (((repB (3 : UInt64) (List.replicate 32 (0 : UInt8)) (List.replicate 32 (0 : UInt8)) ++ tgD true ([] : List UInt8) 0 0 ([] : Lg) (List.replicate 32 (0 : UInt8)) (repB (3 : UInt64) (List.replicate 32 (0 : UInt8)) (List.replicate 32 (0 : UInt8)))).set 111 (((repB (3 : UInt64) (List.replicate 32 (0 : UInt8)) (List.replicate 32 (0 : UInt8)) ++ tgD true ([] : List UInt8) 0 0 ([] : Lg) (List.replicate 32 (0 : UInt8)) (repB (3 : UInt64) (List.replicate 32 (0 : UInt8)) (List.replicate 32 (0 : UInt8)))).getD 111 0) ^^^ 1)).take 80) = (((repB (3 : UInt64) (List.replicate 32 (0 : UInt8)) (List.replicate 32 (0 : UInt8)) ++ tgD true ([] : List UInt8) 0 0 ([] : Lg) (List.replicate 32 (0 : UInt8)) (repB (3 : UInt64) (List.replicate 32 (0 : UInt8)) (List.replicate 32 (0 : UInt8)))).set 111 (((repB (3 : UInt64) (List.replicate 32 (0 : UInt8)) (List.replicate 32 (0 : UInt8)) ++ tgD true ([] : List UInt8) 0 0 ([] : Lg) (List.replicate 32 (0 : UInt8)) (repB (3 : UInt64) (List.replicate 32 (0 : UInt8)) (List.replicate 32 (0 : UInt8)))).getD 111 0) ^^^ 1)).drop 80).take 32))), (vi 0)].toArray) rfl rfl (qV rfl (R.extract rfl rfl) (qV rfl (R.extract rfl rfl) (qV rfl (R.extract rfl rfl) ?_)))
 refine WL.alloc (segs := [(1, [(vu64 0)]), (32, (List.replicate 32 (0 : UInt8)).map vu8), (32, (List.replicate 32 (0 : UInt8)).map vu8)]) h_53 (zv Try.typeInfo30 rfl) rfl (SsOk.cons (SOk.v rfl) (SsOk.cons (SOk.u8 lr) (SsOk.cons (SOk.u8 lr) SsOk.nil))) rfl (fun b_54 w_55 h_56 => ?_)
 refine WL.storeA (b := b_54) (off := 0) [] [(1, [(vu64 0)]), (32, (List.replicate 32 (0 : UInt8)).map vu8), (32, (List.replicate 32 (0 : UInt8)).map vu8)] [(1, [(vu64 (ins_of ((((repB (3 : UInt64) (List.replicate 32 (0 : UInt8)) (List.replicate 32 (0 : UInt8)) ++ tgD true ([] : List UInt8) 0 0 ([] : Lg) (List.replicate 32 (0 : UInt8)) (repB (3 : UInt64) (List.replicate 32 (0 : UInt8)) (List.replicate 32 (0 : UInt8)))).set 111 (((repB (3 : UInt64) (List.replicate 32 (0 : UInt8)) (List.replicate 32 (0 : UInt8)) ++ tgD true ([] : List UInt8) 0 0 ([] : Lg) (List.replicate 32 (0 : UInt8)) (repB (3 : UInt64) (List.replicate 32 (0 : UInt8)) (List.replicate 32 (0 : UInt8)))).getD 111 0) ^^^ 1)).drop 0).take 80)))]), (32, (me_of ((((repB (3 : UInt64) (List.replicate 32 (0 : UInt8)) (List.replicate 32 (0 : UInt8)) ++ tgD true ([] : List UInt8) 0 0 ([] : Lg) (List.replicate 32 (0 : UInt8)) (repB (3 : UInt64) (List.replicate 32 (0 : UInt8)) (List.replicate 32 (0 : UInt8)))).set 111 (((repB (3 : UInt64) (List.replicate 32 (0 : UInt8)) (List.replicate 32 (0 : UInt8)) ++ tgD true ([] : List UInt8) 0 0 ([] : Lg) (List.replicate 32 (0 : UInt8)) (repB (3 : UInt64) (List.replicate 32 (0 : UInt8)) (List.replicate 32 (0 : UInt8)))).getD 111 0) ^^^ 1)).drop 0).take 80)).map vu8), (32, (ch_of ((((repB (3 : UInt64) (List.replicate 32 (0 : UInt8)) (List.replicate 32 (0 : UInt8)) ++ tgD true ([] : List UInt8) 0 0 ([] : Lg) (List.replicate 32 (0 : UInt8)) (repB (3 : UInt64) (List.replicate 32 (0 : UInt8)) (List.replicate 32 (0 : UInt8)))).set 111 (((repB (3 : UInt64) (List.replicate 32 (0 : UInt8)) (List.replicate 32 (0 : UInt8)) ++ tgD true ([] : List UInt8) 0 0 ([] : Lg) (List.replicate 32 (0 : UInt8)) (repB (3 : UInt64) (List.replicate 32 (0 : UInt8)) (List.replicate 32 (0 : UInt8)))).getD 111 0) ^^^ 1)).drop 0).take 80)).map vu8)] [] (ys := flat [(1, [(vu64 (ins_of ((((repB (3 : UInt64) (List.replicate 32 (0 : UInt8)) (List.replicate 32 (0 : UInt8)) ++ tgD true ([] : List UInt8) 0 0 ([] : Lg) (List.replicate 32 (0 : UInt8)) (repB (3 : UInt64) (List.replicate 32 (0 : UInt8)) (List.replicate 32 (0 : UInt8)))).set 111 (((repB (3 : UInt64) (List.replicate 32 (0 : UInt8)) (List.replicate 32 (0 : UInt8)) ++ tgD true ([] : List UInt8) 0 0 ([] : Lg) (List.replicate 32 (0 : UInt8)) (repB (3 : UInt64) (List.replicate 32 (0 : UInt8)) (List.replicate 32 (0 : UInt8)))).getD 111 0) ^^^ 1)).drop 0).take 80)))]), (32, (me_of ((((repB (3 : UInt64) (List.replicate 32 (0 : UInt8)) (List.replicate 32 (0 : UInt8)) ++ tgD true ([] : List UInt8) 0 0 ([] : Lg) (List.replicate 32 (0 : UInt8)) (repB (3 : UInt64) (List.replicate 32 (0 : UInt8)) (List.replicate 32 (0 : UInt8)))).set 111 (((repB (3 : UInt64) (List.replicate 32 (0 : UInt8)) (List.replicate 32 (0 : UInt8)) ++ tgD true ([] : List UInt8) 0 0 ([] : Lg) (List.replicate 32 (0 : UInt8)) (repB (3 : UInt64) (List.replicate 32 (0 : UInt8)) (List.replicate 32 (0 : UInt8)))).getD 111 0) ^^^ 1)).drop 0).take 80)).map vu8), (32, (ch_of ((((repB (3 : UInt64) (List.replicate 32 (0 : UInt8)) (List.replicate 32 (0 : UInt8)) ++ tgD true ([] : List UInt8) 0 0 ([] : Lg) (List.replicate 32 (0 : UInt8)) (repB (3 : UInt64) (List.replicate 32 (0 : UInt8)) (List.replicate 32 (0 : UInt8)))).set 111 (((repB (3 : UInt64) (List.replicate 32 (0 : UInt8)) (List.replicate 32 (0 : UInt8)) ++ tgD true ([] : List UInt8) 0 0 ([] : Lg) (List.replicate 32 (0 : UInt8)) (repB (3 : UInt64) (List.replicate 32 (0 : UInt8)) (List.replicate 32 (0 : UInt8)))).getD 111 0) ^^^ 1)).drop 0).take 80)).map vu8)]) h_56 rfl rfl Try.sizeOf30 At.h (by decide) rfl rfl rfl rfl rfl rfl (SsOk.cons (SOk.v rfl) (SsOk.cons (SOk.u8 (me_len (by simp only [List.length_take, List.length_drop, (len_set (iss_len (repB_len lr lr) (tgD_len (dn := 0) (rfl : List.length ([] : List UInt8) = 32 * 0) h32_w_19)) _ _)]; decide))) (SsOk.cons (SOk.u8 (ch_len (by simp only [List.length_take, List.length_drop, (len_set (iss_len (repB_len lr lr) (tgD_len (dn := 0) (rfl : List.length ([] : List UInt8) = 32 * 0) h32_w_19)) _ _)]; decide))) SsOk.nil))) (fun w_57 h_58 => ?_)
 refine qA (.bool (decide (tgD true ([] : List UInt8) 0 (tgU true ([] : List UInt8) 0 (tgU true ([] : List UInt8) 0 0 ([] : Lg) (List.replicate 32 (0 : UInt8)) (repB (3 : UInt64) (List.replicate 32 (0 : UInt8)) (List.replicate 32 (0 : UInt8)))) (tgL true ([] : List UInt8) 0 0 ([] : Lg) (List.replicate 32 (0 : UInt8)) (repB (3 : UInt64) (List.replicate 32 (0 : UInt8)) (List.replicate 32 (0 : UInt8)))) (List.replicate 32 (0 : UInt8)) ((repB (3 : UInt64) (List.replicate 32 (0 : UInt8)) (List.replicate 32 (0 : UInt8)) ++ tgD true ([] : List UInt8) 0 0 ([] : Lg) (List.replicate 32 (0 : UInt8)) (repB (3 : UInt64) (List.replicate 32 (0 : UInt8)) (List.replicate 32 (0 : UInt8)))).take 80)) (tgL true ([] : List UInt8) 0 (tgU true ([] : List UInt8) 0 0 ([] : Lg) (List.replicate 32 (0 : UInt8)) (repB (3 : UInt64) (List.replicate 32 (0 : UInt8)) (List.replicate 32 (0 : UInt8)))) (tgL true ([] : List UInt8) 0 0 ([] : Lg) (List.replicate 32 (0 : UInt8)) (repB (3 : UInt64) (List.replicate 32 (0 : UInt8)) (List.replicate 32 (0 : UInt8)))) (List.replicate 32 (0 : UInt8)) ((repB (3 : UInt64) (List.replicate 32 (0 : UInt8)) (List.replicate 32 (0 : UInt8)) ++ tgD true ([] : List UInt8) 0 0 ([] : Lg) (List.replicate 32 (0 : UInt8)) (repB (3 : UInt64) (List.replicate 32 (0 : UInt8)) (List.replicate 32 (0 : UInt8)))).take 80)) (List.replicate 32 (0 : UInt8)) (((repB (3 : UInt64) (List.replicate 32 (0 : UInt8)) (List.replicate 32 (0 : UInt8)) ++ tgD true ([] : List UInt8) 0 0 ([] : Lg) (List.replicate 32 (0 : UInt8)) (repB (3 : UInt64) (List.replicate 32 (0 : UInt8)) (List.replicate 32 (0 : UInt8)))).set 111 (((repB (3 : UInt64) (List.replicate 32 (0 : UInt8)) (List.replicate 32 (0 : UInt8)) ++ tgD true ([] : List UInt8) 0 0 ([] : Lg) (List.replicate 32 (0 : UInt8)) (repB (3 : UInt64) (List.replicate 32 (0 : UInt8)) (List.replicate 32 (0 : UInt8)))).getD 111 0) ^^^ 1)).take 80) = (((repB (3 : UInt64) (List.replicate 32 (0 : UInt8)) (List.replicate 32 (0 : UInt8)) ++ tgD true ([] : List UInt8) 0 0 ([] : Lg) (List.replicate 32 (0 : UInt8)) (repB (3 : UInt64) (List.replicate 32 (0 : UInt8)) (List.replicate 32 (0 : UInt8)))).set 111 (((repB (3 : UInt64) (List.replicate 32 (0 : UInt8)) (List.replicate 32 (0 : UInt8)) ++ tgD true ([] : List UInt8) 0 0 ([] : Lg) (List.replicate 32 (0 : UInt8)) (repB (3 : UInt64) (List.replicate 32 (0 : UInt8)) (List.replicate 32 (0 : UInt8)))).getD 111 0) ^^^ 1)).drop 80).take 32))) rfl rfl (qA (vi 0) rfl rfl ?_)
 refine WL.nil (thn_n (WP.seq (WP.reg ?_)))
 refine qM (pO b_2 0) rfl rfl (qM (.slice a_14 112 c_15) rfl rfl (qV rfl (R.sliceS (a := a_14) (len := 112) (l := 0) (h := 111) rfl EvB.dflt (EvB.it (l := 111) rfl rfl) (by decide) (by omega) Try.underlying37 Try.sizeOf5) ?_))
 refine WL.call Try.call15 rfl rfl (c_Ver_len true b_2 b_3 (List.replicate 32 (0 : UInt8)) lr a_4 0 c_5 (tgU true ([] : List UInt8) 0 (tgU true ([] : List UInt8) 0 (tgU true ([] : List UInt8) 0 0 ([] : Lg) (List.replicate 32 (0 : UInt8)) (repB (3 : UInt64) (List.replicate 32 (0 : UInt8)) (List.replicate 32 (0 : UInt8)))) (tgL true ([] : List UInt8) 0 0 ([] : Lg) (List.replicate 32 (0 : UInt8)) (repB (3 : UInt64) (List.replicate 32 (0 : UInt8)) (List.replicate 32 (0 : UInt8)))) (List.replicate 32 (0 : UInt8)) ((repB (3 : UInt64) (List.replicate 32 (0 : UInt8)) (List.replicate 32 (0 : UInt8)) ++ tgD true ([] : List UInt8) 0 0 ([] : Lg) (List.replicate 32 (0 : UInt8)) (repB (3 : UInt64) (List.replicate 32 (0 : UInt8)) (List.replicate 32 (0 : UInt8)))).take 80)) (tgL true ([] : List UInt8) 0 (tgU true ([] : List UInt8) 0 0 ([] : Lg) (List.replicate 32 (0 : UInt8)) (repB (3 : UInt64) (List.replicate 32 (0 : UInt8)) (List.replicate 32 (0 : UInt8)))) (tgL true ([] : List UInt8) 0 0 ([] : Lg) (List.replicate 32 (0 : UInt8)) (repB (3 : UInt64) (List.replicate 32 (0 : UInt8)) (List.replicate 32 (0 : UInt8)))) (List.replicate 32 (0 : UInt8)) ((repB (3 : UInt64) (List.replicate 32 (0 : UInt8)) (List.replicate 32 (0 : UInt8)) ++ tgD true ([] : List UInt8) 0 0 ([] : Lg) (List.replicate 32 (0 : UInt8)) (repB (3 : UInt64) (List.replicate 32 (0 : UInt8)) (List.replicate 32 (0 : UInt8)))).take 80)) (List.replicate 32 (0 : UInt8)) (((repB (3 : UInt64) (List.replicate 32 (0 : UInt8)) (List.replicate 32 (0 : UInt8)) ++ tgD true ([] : List UInt8) 0 0 ([] : Lg) (List.replicate 32 (0 : UInt8)) (repB (3 : UInt64) (List.replicate 32 (0 : UInt8)) (List.replicate 32 (0 : UInt8)))).set 111 (((repB (3 : UInt64) (List.replicate 32 (0 : UInt8)) (List.replicate 32 (0 : UInt8)) ++ tgD true ([] : List UInt8) 0 0 ([] : Lg) (List.replicate 32 (0 : UInt8)) (repB (3 : UInt64) (List.replicate 32 (0 : UInt8)) (List.replicate 32 (0 : UInt8)))).getD 111 0) ^^^ 1)).take 80)) la_49 ((tgL true ([] : List UInt8) 0 (tgU true ([] : List UInt8) 0 (tgU true ([] : List UInt8) 0 0 ([] : Lg) (List.replicate 32 (0 : UInt8)) (repB (3 : UInt64) (List.replicate 32 (0 : UInt8)) (List.replicate 32 (0 : UInt8)))) (tgL true ([] : List UInt8) 0 0 ([] : Lg) (List.replicate 32 (0 : UInt8)) (repB (3 : UInt64) (List.replicate 32 (0 : UInt8)) (List.replicate 32 (0 : UInt8)))) (List.replicate 32 (0 : UInt8)) ((repB (3 : UInt64) (List.replicate 32 (0 : UInt8)) (List.replicate 32 (0 : UInt8)) ++ tgD true ([] : List UInt8) 0 0 ([] : Lg) (List.replicate 32 (0 : UInt8)) (repB (3 : UInt64) (List.replicate 32 (0 : UInt8)) (List.replicate 32 (0 : UInt8)))).take 80)) (tgL true ([] : List UInt8) 0 (tgU true ([] : List UInt8) 0 0 ([] : Lg) (List.replicate 32 (0 : UInt8)) (repB (3 : UInt64) (List.replicate 32 (0 : UInt8)) (List.replicate 32 (0 : UInt8)))) (tgL true ([] : List UInt8) 0 0 ([] : Lg) (List.replicate 32 (0 : UInt8)) (repB (3 : UInt64) (List.replicate 32 (0 : UInt8)) (List.replicate 32 (0 : UInt8)))) (List.replicate 32 (0 : UInt8)) ((repB (3 : UInt64) (List.replicate 32 (0 : UInt8)) (List.replicate 32 (0 : UInt8)) ++ tgD true ([] : List UInt8) 0 0 ([] : Lg) (List.replicate 32 (0 : UInt8)) (repB (3 : UInt64) (List.replicate 32 (0 : UInt8)) (List.replicate 32 (0 : UInt8)))).take 80)) (List.replicate 32 (0 : UInt8)) (((repB (3 : UInt64) (List.replicate 32 (0 : UInt8)) (List.replicate 32 (0 : UInt8)) ++ tgD true ([] : List UInt8) 0 0 ([] : Lg) (List.replicate 32 (0 : UInt8)) (repB (3 : UInt64) (List.replicate 32 (0 : UInt8)) (List.replicate 32 (0 : UInt8)))).set 111 (((repB (3 : UInt64) (List.replicate 32 (0 : UInt8)) (List.replicate 32 (0 : UInt8)) ++ tgD true ([] : List UInt8) 0 0 ([] : Lg) (List.replicate 32 (0 : UInt8)) (repB (3 : UInt64) (List.replicate 32 (0 : UInt8)) (List.replicate 32 (0 : UInt8)))).getD 111 0) ^^^ 1)).take 80)).length) lc_50 (slA a_14 0 c_15 1) 111 c_15 (by decide) _ (h_58.argR M1)) rfl ?_
 rintro _ w_60 ⟨rfl, hc_59⟩
 have h_61 := h_58.same hc_59
 refine qM (.tuple [(.agg ⟨flat [(1, [(vu64 0)]), (32, (List.replicate 32 (0 : UInt8)).map vu8), (32, (List.replicate 32 (0 : UInt8)).map vu8)]⟩), (.bool false), (vi 4)].toArray) rfl rfl (qV rfl (R.extract rfl rfl) (qV rfl (R.extract rfl rfl) (qV rfl (R.extract rfl rfl) ?_)))
 refine WL.alloc (segs := [(1, [(vu64 0)]), (32, (List.replicate 32 (0 : UInt8)).map vu8), (32, (List.replicate 32 (0 : UInt8)).map vu8)]) h_61 (zv Try.typeInfo30 rfl) rfl (SsOk.cons (SOk.v rfl) (SsOk.cons (SOk.u8 lr) (SsOk.cons (SOk.u8 lr) SsOk.nil))) rfl (fun b_62 w_63 h_64 => ?_)
 refine WL.storeA (b := b_62) (off := 0) [] [(1, [(vu64 0)]), (32, (List.replicate 32 (0 : UInt8)).map vu8), (32, (List.replicate 32 (0 : UInt8)).map vu8)] [(1, [(vu64 0)]), (32, (List.replicate 32 (0 : UInt8)).map vu8), (32, (List.replicate 32 (0 : UInt8)).map vu8)] [] (ys := flat [(1, [(vu64 0)]), (32, (List.replicate 32 (0 : UInt8)).map vu8), (32, (List.replicate 32 (0 : UInt8)).map vu8)]) h_64 rfl rfl Try.sizeOf30 At.h (by decide) rfl rfl rfl rfl rfl rfl (SsOk.cons (SOk.v rfl) (SsOk.cons (SOk.u8 lr) (SsOk.cons (SOk.u8 lr) SsOk.nil))) (fun w_65 h_66 => ?_)
 refine qA (.bool false) rfl rfl (qA (vi 4) rfl rfl ?_)
 refine WL.nil (thn_n (WP.seq (WP.reg ?_)))
 refine qV rfl (R.buildS (pl := [(0, 1), (1, 32), (33, 32)]) (zs := [(1, [(vu64 0)]), (32, (List.replicate 32 (0 : UInt8)).map vu8), (32, (List.replicate 32 (0 : UInt8)).map vu8)]) (vs := []) (out := [(1, [(vu64 0)]), (32, (List.replicate 32 (0 : UInt8)).map vu8), (32, (List.replicate 32 (0 : UInt8)).map vu8)]) (cs := flat [(1, [(vu64 0)]), (32, (List.replicate 32 (0 : UInt8)).map vu8), (32, (List.replicate 32 (0 : UInt8)).map vu8)]) Try.underlying30 (zv Try.typeInfo30 rfl) rfl (SsOk.cons (SOk.v rfl) (SsOk.cons (SOk.u8 lr) (SsOk.cons (SOk.u8 lr) SsOk.nil))) (pl30 _ Try.underlying30) rfl FillR.nil rfl) ?_
 refine WL.call Try.call13 rfl rfl (c_Iss_nil (0 : UInt64) (List.replicate 32 (0 : UInt8)) (List.replicate 32 (0 : UInt8)) lr lr _ ) rfl ?_
 rintro _ w_69 ⟨rfl, hc_68⟩
 have h_70 := h_66.same hc_68
 refine qM (.tuple [(.slice none 0 0), (vi 1)].toArray) rfl rfl (qV rfl (R.extract rfl rfl) (qV rfl (R.extract rfl rfl) (qA (.slice none 0 0) rfl rfl (qA (vi 1) rfl rfl ?_))))
 refine WL.nil (thn_n (WP.seq (WP.reg ?_)))
 refine qM (.bool (decide (tgD true ([] : List UInt8) 0 (tgU true ([] : List UInt8) 0 0 ([] : Lg) (List.replicate 32 (0 : UInt8)) (repB (3 : UInt64) (List.replicate 32 (0 : UInt8)) (List.replicate 32 (0 : UInt8)))) (tgL true ([] : List UInt8) 0 0 ([] : Lg) (List.replicate 32 (0 : UInt8)) (repB (3 : UInt64) (List.replicate 32 (0 : UInt8)) (List.replicate 32 (0 : UInt8)))) (List.replicate 32 (0 : UInt8)) ((repB (3 : UInt64) (List.replicate 32 (0 : UInt8)) (List.replicate 32 (0 : UInt8)) ++ tgD true ([] : List UInt8) 0 0 ([] : Lg) (List.replicate 32 (0 : UInt8)) (repB (3 : UInt64) (List.replicate 32 (0 : UInt8)) (List.replicate 32 (0 : UInt8)))).take 80) = ((repB (3 : UInt64) (List.replicate 32 (0 : UInt8)) (List.replicate 32 (0 : UInt8)) ++ tgD true ([] : List UInt8) 0 0 ([] : Lg) (List.replicate 32 (0 : UInt8)) (repB (3 : UInt64) (List.replicate 32 (0 : UInt8)) (List.replicate 32 (0 : UInt8)))).drop 80).take 32))) rfl rfl (qM (.bool (decide (tgD true ([] : List UInt8) 0 (tgU true ([] : List UInt8) 0 0 ([] : Lg) (List.replicate 32 (0 : UInt8)) (repB (3 : UInt64) (List.replicate 32 (0 : UInt8)) (List.replicate 32 (0 : UInt8)))) (tgL true ([] : List UInt8) 0 0 ([] : Lg) (List.replicate 32 (0 : UInt8)) (repB (3 : UInt64) (List.replicate 32 (0 : UInt8)) (List.replicate 32 (0 : UInt8)))) (List.replicate 32 (0 : UInt8)) ((repB (3 : UInt64) (List.replicate 32 (0 : UInt8)) (List.replicate 32 (0 : UInt8)) ++ tgD true ([] : List UInt8) 0 0 ([] : Lg) (List.replicate 32 (0 : UInt8)) (repB (3 : UInt64) (List.replicate 32 (0 : UInt8)) (List.replicate 32 (0 : UInt8)))).take 80) = ((repB (3 : UInt64) (List.replicate 32 (0 : UInt8)) (List.replicate 32 (0 : UInt8)) ++ tgD true ([] : List UInt8) 0 0 ([] : Lg) (List.replicate 32 (0 : UInt8)) (repB (3 : UInt64) (List.replicate 32 (0 : UInt8)) (List.replicate 32 (0 : UInt8)))).drop 80).take 32))) rfl rfl ?_)
 refine WL.want rfl (congrArg Value.bool (decide_eq_true (by decide +kernel))) ?_
 refine qM (.bool (decide (tgD true ([] : List UInt8) 0 (tgU true ([] : List UInt8) 0 (tgU true ([] : List UInt8) 0 0 ([] : Lg) (List.replicate 32 (0 : UInt8)) (repB (3 : UInt64) (List.replicate 32 (0 : UInt8)) (List.replicate 32 (0 : UInt8)))) (tgL true ([] : List UInt8) 0 0 ([] : Lg) (List.replicate 32 (0 : UInt8)) (repB (3 : UInt64) (List.replicate 32 (0 : UInt8)) (List.replicate 32 (0 : UInt8)))) (List.replicate 32 (0 : UInt8)) ((repB (3 : UInt64) (List.replicate 32 (0 : UInt8)) (List.replicate 32 (0 : UInt8)) ++ tgD true ([] : List UInt8) 0 0 ([] : Lg) (List.replicate 32 (0 : UInt8)) (repB (3 : UInt64) (List.replicate 32 (0 : UInt8)) (List.replicate 32 (0 : UInt8)))).take 80)) (tgL true ([] : List UInt8) 0 (tgU true ([] : List UInt8) 0 0 ([] : Lg) (List.replicate 32 (0 : UInt8)) (repB (3 : UInt64) (List.replicate 32 (0 : UInt8)) (List.replicate 32 (0 : UInt8)))) (tgL true ([] : List UInt8) 0 0 ([] : Lg) (List.replicate 32 (0 : UInt8)) (repB (3 : UInt64) (List.replicate 32 (0 : UInt8)) (List.replicate 32 (0 : UInt8)))) (List.replicate 32 (0 : UInt8)) ((repB (3 : UInt64) (List.replicate 32 (0 : UInt8)) (List.replicate 32 (0 : UInt8)) ++ tgD true ([] : List UInt8) 0 0 ([] : Lg) (List.replicate 32 (0 : UInt8)) (repB (3 : UInt64) (List.replicate 32 (0 : UInt8)) (List.replicate 32 (0 : UInt8)))).take 80)) (List.replicate 32 (0 : UInt8)) (((repB (3 : UInt64) (List.replicate 32 (0 : UInt8)) (List.replicate 32 (0 : UInt8)) ++ tgD true ([] : List UInt8) 0 0 ([] : Lg) (List.replicate 32 (0 : UInt8)) (repB (3 : UInt64) (List.replicate 32 (0 : UInt8)) (List.replicate 32 (0 : UInt8)))).set 111 (((repB (3 : UInt64) (List.replicate 32 (0 : UInt8)) (List.replicate 32 (0 : UInt8)) ++ tgD true ([] : List UInt8) 0 0 ([] : Lg) (List.replicate 32 (0 : UInt8)) (repB (3 : UInt64) (List.replicate 32 (0 : UInt8)) (List.replicate 32 (0 : UInt8)))).getD 111 0) ^^^ 1)).take 80) = (((repB (3 : UInt64) (List.replicate 32 (0 : UInt8)) (List.replicate 32 (0 : UInt8)) ++ tgD true ([] : List UInt8) 0 0 ([] : Lg) (List.replicate 32 (0 : UInt8)) (repB (3 : UInt64) (List.replicate 32 (0 : UInt8)) (List.replicate 32 (0 : UInt8)))).set 111 (((repB (3 : UInt64) (List.replicate 32 (0 : UInt8)) (List.replicate 32 (0 : UInt8)) ++ tgD true ([] : List UInt8) 0 0 ([] : Lg) (List.replicate 32 (0 : UInt8)) (repB (3 : UInt64) (List.replicate 32 (0 : UInt8)) (List.replicate 32 (0 : UInt8)))).getD 111 0) ^^^ 1)).drop 80).take 32))) rfl rfl ?_
 refine WL.want rfl (congrArg Value.bool (decide_eq_true (by decide +kernel))) ?_
 refine qV rfl (R.not (b := false) (congrArg Value.bool (decide_eq_false (by decide +kernel)))) (qV rfl (R.pickT (v := (.bool true)) (congrArg Value.bool (decide_eq_true (by decide +kernel))) rfl) (qM (.bool true) rfl rfl ?_))
 refine WL.want rfl rfl ?_
 refine qV rfl (R.loadA (b := b_35) (off := 0) [] [(1, [(vu64 (ins_of (((repB (3 : UInt64) (List.replicate 32 (0 : UInt8)) (List.replicate 32 (0 : UInt8)) ++ tgD true ([] : List UInt8) 0 0 ([] : Lg) (List.replicate 32 (0 : UInt8)) (repB (3 : UInt64) (List.replicate 32 (0 : UInt8)) (List.replicate 32 (0 : UInt8)))).drop 0).take 80)))]), (32, (me_of (((repB (3 : UInt64) (List.replicate 32 (0 : UInt8)) (List.replicate 32 (0 : UInt8)) ++ tgD true ([] : List UInt8) 0 0 ([] : Lg) (List.replicate 32 (0 : UInt8)) (repB (3 : UInt64) (List.replicate 32 (0 : UInt8)) (List.replicate 32 (0 : UInt8)))).drop 0).take 80)).map vu8), (32, (ch_of (((repB (3 : UInt64) (List.replicate 32 (0 : UInt8)) (List.replicate 32 (0 : UInt8)) ++ tgD true ([] : List UInt8) 0 0 ([] : Lg) (List.replicate 32 (0 : UInt8)) (repB (3 : UInt64) (List.replicate 32 (0 : UInt8)) (List.replicate 32 (0 : UInt8)))).drop 0).take 80)).map vu8)] [] (cs := flat [(1, [(vu64 (ins_of (((repB (3 : UInt64) (List.replicate 32 (0 : UInt8)) (List.replicate 32 (0 : UInt8)) ++ tgD true ([] : List UInt8) 0 0 ([] : Lg) (List.replicate 32 (0 : UInt8)) (repB (3 : UInt64) (List.replicate 32 (0 : UInt8)) (List.replicate 32 (0 : UInt8)))).drop 0).take 80)))]), (32, (me_of (((repB (3 : UInt64) (List.replicate 32 (0 : UInt8)) (List.replicate 32 (0 : UInt8)) ++ tgD true ([] : List UInt8) 0 0 ([] : Lg) (List.replicate 32 (0 : UInt8)) (repB (3 : UInt64) (List.replicate 32 (0 : UInt8)) (List.replicate 32 (0 : UInt8)))).drop 0).take 80)).map vu8), (32, (ch_of (((repB (3 : UInt64) (List.replicate 32 (0 : UInt8)) (List.replicate 32 (0 : UInt8)) ++ tgD true ([] : List UInt8) 0 0 ([] : Lg) (List.replicate 32 (0 : UInt8)) (repB (3 : UInt64) (List.replicate 32 (0 : UInt8)) (List.replicate 32 (0 : UInt8)))).drop 0).take 80)).map vu8)]) rfl Try.isAgg30 Try.sizeOf30 (h_70.ok _ M8) rfl rfl rfl rfl) ?_
 refine WL.want rfl rfl ?_
 refine qV rfl (R.buildS (pl := [(0, 1), (1, 32), (33, 32)]) (zs := [(1, [(vu64 0)]), (32, (List.replicate 32 (0 : UInt8)).map vu8), (32, (List.replicate 32 (0 : UInt8)).map vu8)]) (vs := [(0, (vu64 3))]) (out := [(1, [(vu64 3)]), (32, (List.replicate 32 (0 : UInt8)).map vu8), (32, (List.replicate 32 (0 : UInt8)).map vu8)]) (cs := flat [(1, [(vu64 3)]), (32, (List.replicate 32 (0 : UInt8)).map vu8), (32, (List.replicate 32 (0 : UInt8)).map vu8)]) Try.underlying30 (zv Try.typeInfo30 rfl) rfl (SsOk.cons (SOk.v rfl) (SsOk.cons (SOk.u8 lr) (SsOk.cons (SOk.u8 lr) SsOk.nil))) (pl30 _ Try.underlying30) rfl (FillR.cons [] [(1, [(vu64 0)])] [(1, [(vu64 3)])] [(32, (List.replicate 32 (0 : UInt8)).map vu8), (32, (List.replicate 32 (0 : UInt8)).map vu8)] rfl rfl rfl rfl (SsOk.cons (SOk.v rfl) SsOk.nil) rfl rfl rfl FillR.nil) rfl) ?_
 refine WL.want rfl rfl ?_
 refine qV rfl (R.eqA (xs := flat [(1, [(vu64 (ins_of (((repB (3 : UInt64) (List.replicate 32 (0 : UInt8)) (List.replicate 32 (0 : UInt8)) ++ tgD true ([] : List UInt8) 0 0 ([] : Lg) (List.replicate 32 (0 : UInt8)) (repB (3 : UInt64) (List.replicate 32 (0 : UInt8)) (List.replicate 32 (0 : UInt8)))).drop 0).take 80)))]), (32, (me_of (((repB (3 : UInt64) (List.replicate 32 (0 : UInt8)) (List.replicate 32 (0 : UInt8)) ++ tgD true ([] : List UInt8) 0 0 ([] : Lg) (List.replicate 32 (0 : UInt8)) (repB (3 : UInt64) (List.replicate 32 (0 : UInt8)) (List.replicate 32 (0 : UInt8)))).drop 0).take 80)).map vu8), (32, (ch_of (((repB (3 : UInt64) (List.replicate 32 (0 : UInt8)) (List.replicate 32 (0 : UInt8)) ++ tgD true ([] : List UInt8) 0 0 ([] : Lg) (List.replicate 32 (0 : UInt8)) (repB (3 : UInt64) (List.replicate 32 (0 : UInt8)) (List.replicate 32 (0 : UInt8)))).drop 0).take 80)).map vu8)]) (ys := flat [(1, [(vu64 3)]), (32, (List.replicate 32 (0 : UInt8)).map vu8), (32, (List.replicate 32 (0 : UInt8)).map vu8)]) (r := true) rfl rfl Try.eqGuardType30 kt30 (by decide) ag30 (Typ.struct (h := 2) (r := [(1, [(vu64 (ins_of (((repB (3 : UInt64) (List.replicate 32 (0 : UInt8)) (List.replicate 32 (0 : UInt8)) ++ tgD true ([] : List UInt8) 0 0 ([] : Lg) (List.replicate 32 (0 : UInt8)) (repB (3 : UInt64) (List.replicate 32 (0 : UInt8)) (List.replicate 32 (0 : UInt8)))).drop 0).take 80)))]), (32, (me_of (((repB (3 : UInt64) (List.replicate 32 (0 : UInt8)) (List.replicate 32 (0 : UInt8)) ++ tgD true ([] : List UInt8) 0 0 ([] : Lg) (List.replicate 32 (0 : UInt8)) (repB (3 : UInt64) (List.replicate 32 (0 : UInt8)) (List.replicate 32 (0 : UInt8)))).drop 0).take 80)).map vu8), (32, (ch_of (((repB (3 : UInt64) (List.replicate 32 (0 : UInt8)) (List.replicate 32 (0 : UInt8)) ++ tgD true ([] : List UInt8) 0 0 ([] : Lg) (List.replicate 32 (0 : UInt8)) (repB (3 : UInt64) (List.replicate 32 (0 : UInt8)) (List.replicate 32 (0 : UInt8)))).drop 0).take 80)).map vu8)]) (cs := flat [(1, [(vu64 (ins_of (((repB (3 : UInt64) (List.replicate 32 (0 : UInt8)) (List.replicate 32 (0 : UInt8)) ++ tgD true ([] : List UInt8) 0 0 ([] : Lg) (List.replicate 32 (0 : UInt8)) (repB (3 : UInt64) (List.replicate 32 (0 : UInt8)) (List.replicate 32 (0 : UInt8)))).drop 0).take 80)))]), (32, (me_of (((repB (3 : UInt64) (List.replicate 32 (0 : UInt8)) (List.replicate 32 (0 : UInt8)) ++ tgD true ([] : List UInt8) 0 0 ([] : Lg) (List.replicate 32 (0 : UInt8)) (repB (3 : UInt64) (List.replicate 32 (0 : UInt8)) (List.replicate 32 (0 : UInt8)))).drop 0).take 80)).map vu8), (32, (ch_of (((repB (3 : UInt64) (List.replicate 32 (0 : UInt8)) (List.replicate 32 (0 : UInt8)) ++ tgD true ([] : List UInt8) 0 0 ([] : Lg) (List.replicate 32 (0 : UInt8)) (repB (3 : UInt64) (List.replicate 32 (0 : UInt8)) (List.replicate 32 (0 : UInt8)))).drop 0).take 80)).map vu8)]) Try.underlying30 (TypF.cons (k := 1) rfl rfl (by decide) rfl (Typ.int Try.underlying28 ce28 (wfu64 (ins_of (((repB (3 : UInt64) (List.replicate 32 (0 : UInt8)) (List.replicate 32 (0 : UInt8)) ++ tgD true ([] : List UInt8) 0 0 ([] : Lg) (List.replicate 32 (0 : UInt8)) (repB (3 : UInt64) (List.replicate 32 (0 : UInt8)) (List.replicate 32 (0 : UInt8)))).drop 0).take 80)))) (TypF.cons (k := 32) rfl rfl (by decide) (len_map (me_len (by simp only [List.length_take, List.length_drop, (iss_len (repB_len lr lr) (tgD_len (dn := 0) (rfl : List.length ([] : List UInt8) = 32 * 0) h32_w_19))]; decide))) (Typ.u8s Try.underlying23 ce23 Try.underlying5 ce5 (me_len (by simp only [List.length_take, List.length_drop, (iss_len (repB_len lr lr) (tgD_len (dn := 0) (rfl : List.length ([] : List UInt8) = 32 * 0) h32_w_19))]; decide))) (TypF.cons (k := 32) rfl rfl (by decide) (len_map (ch_len (by simp only [List.length_take, List.length_drop, (iss_len (repB_len lr lr) (tgD_len (dn := 0) (rfl : List.length ([] : List UInt8) = 32 * 0) h32_w_19))]; decide))) (Typ.u8s Try.underlying23 ce23 Try.underlying5 ce5 (ch_len (by simp only [List.length_take, List.length_drop, (iss_len (repB_len lr lr) (tgD_len (dn := 0) (rfl : List.length ([] : List UInt8) = 32 * 0) h32_w_19))]; decide))) TypF.nil))) rfl (((SsOk.cons (SOk.v rfl) (SsOk.cons (SOk.u8 (me_len (by simp only [List.length_take, List.length_drop, (iss_len (repB_len lr lr) (tgD_len (dn := 0) (rfl : List.length ([] : List UInt8) = 32 * 0) h32_w_19))]; decide))) (SsOk.cons (SOk.u8 (ch_len (by simp only [List.length_take, List.length_drop, (iss_len (repB_len lr lr) (tgD_len (dn := 0) (rfl : List.length ([] : List UInt8) = 32 * 0) h32_w_19))]; decide))) SsOk.nil)))).len.trans ce30.symm)) (Typ.struct (h := 2) (r := [(1, [(vu64 3)]), (32, (List.replicate 32 (0 : UInt8)).map vu8), (32, (List.replicate 32 (0 : UInt8)).map vu8)]) (cs := flat [(1, [(vu64 3)]), (32, (List.replicate 32 (0 : UInt8)).map vu8), (32, (List.replicate 32 (0 : UInt8)).map vu8)]) Try.underlying30 (TypF.cons (k := 1) rfl rfl (by decide) rfl (Typ.int Try.underlying28 ce28 (wfu64 3)) (TypF.cons (k := 32) rfl rfl (by decide) (len_map lr) (Typ.u8s Try.underlying23 ce23 Try.underlying5 ce5 lr) (TypF.cons (k := 32) rfl rfl (by decide) (len_map lr) (Typ.u8s Try.underlying23 ce23 Try.underlying5 ce5 lr) TypF.nil))) rfl (((SsOk.cons (SOk.v rfl) (SsOk.cons (SOk.u8 lr) (SsOk.cons (SOk.u8 lr) SsOk.nil)))).len.trans ce30.symm)) (eqT (by rw [show (ins_of (((repB (3 : UInt64) (List.replicate 32 (0 : UInt8)) (List.replicate 32 (0 : UInt8)) ++ tgD true ([] : List UInt8) 0 0 ([] : Lg) (List.replicate 32 (0 : UInt8)) (repB (3 : UInt64) (List.replicate 32 (0 : UInt8)) (List.replicate 32 (0 : UInt8)))).drop 0).take 80)) = (3 : UInt64) from (by decide +kernel), show me_of (((repB (3 : UInt64) (List.replicate 32 (0 : UInt8)) (List.replicate 32 (0 : UInt8)) ++ tgD true ([] : List UInt8) 0 0 ([] : Lg) (List.replicate 32 (0 : UInt8)) (repB (3 : UInt64) (List.replicate 32 (0 : UInt8)) (List.replicate 32 (0 : UInt8)))).drop 0).take 80) = List.replicate 32 (0 : UInt8) from (by decide +kernel), show ch_of (((repB (3 : UInt64) (List.replicate 32 (0 : UInt8)) (List.replicate 32 (0 : UInt8)) ++ tgD true ([] : List UInt8) 0 0 ([] : Lg) (List.replicate 32 (0 : UInt8)) (repB (3 : UInt64) (List.replicate 32 (0 : UInt8)) (List.replicate 32 (0 : UInt8)))).drop 0).take 80) = List.replicate 32 (0 : UInt8) from (by decide +kernel)]))) (qV rfl (R.pickT (v := (.bool true)) rfl rfl) (qM (.bool true) rfl rfl ?_))
 refine WL.want rfl rfl ?_
 refine qM (vi 0) rfl rfl ?_
 refine WL.want rfl rfl ?_
 refine WL.call Try.call14 rfl rfl (c_num19 0 (by omega) _ ) rfl ?_
 rintro _ w_73 ⟨rfl, hc_72⟩
 have h_74 := h_70.same hc_72
 refine WL.want rfl rfl ?_
 refine qM (vi 0) rfl rfl ?_
 refine WL.want rfl rfl ?_
 refine WL.call Try.call14 rfl rfl (c_num19 0 (by omega) _ ) rfl ?_
 rintro _ w_76 ⟨rfl, hc_75⟩
 have h_77 := h_74.same hc_75
 refine WL.want rfl rfl ?_
 refine qV rfl (R.bin rfl rfl (bi_add (c := 0) (by omega) (by omega))) ?_
 refine WL.want rfl rfl ?_
 refine qV rfl (R.bin rfl rfl (bi_eql (r := true) (by decide))) (qV rfl (R.pickT (v := (.bool true)) rfl rfl) (qM (.bool true) rfl rfl ?_))
 refine WL.want rfl rfl ?_
 refine qM (vi 4) rfl rfl ?_
 refine WL.want rfl rfl ?_
 refine WL.call Try.call14 rfl rfl (c_num19 4 (by omega) _ ) rfl ?_
 rintro _ w_79 ⟨rfl, hc_78⟩
 have h_80 := h_77.same hc_78
 refine WL.want rfl rfl ?_
 refine qV rfl (R.bin rfl rfl (bi_eql (r := true) (by decide))) (qV rfl (R.pickT (v := (.bool true)) rfl rfl) (qM (.bool true) rfl rfl ?_))
 refine WL.want rfl rfl ?_
 refine qM (vi 1) rfl rfl ?_
 refine WL.want rfl rfl ?_
 refine WL.call Try.call14 rfl rfl (c_num19 1 (by omega) _ ) rfl ?_
 rintro _ w_82 ⟨rfl, hc_81⟩
 have h_83 := h_80.same hc_81
 refine WL.want rfl rfl ?_
 refine qV rfl (R.bin rfl rfl (bi_eql (r := true) (by decide))) (qV rfl (R.pickT (v := (.bool true)) rfl rfl) (qM (.bool true) rfl rfl ?_))
 refine WL.want rfl rfl ?_
 refine WL.call Try.call19 rfl rfl (c_aSize  _ ) rfl ?_
 rintro _ w_85 ⟨rfl, hc_84⟩
 have h_86 := h_83.same hc_84
 refine WL.want rfl rfl ?_
 refine qV rfl (R.bin rfl rfl (bi_eql (r := true) (by decide))) (qV rfl (R.pickT (v := (.bool true)) rfl rfl) (qA (.bool true) rfl rfl ?_))
 refine WL.nil (thn_n (WP.ret ?_))
 refine ret_of Try.results11 (RV.tmp (v := (.bool true)) rfl RV.nil) ?_
 exact ⟨rfl, h_86.chgS⟩
end Go.Proofs.Ytnhppjimimhlkaa

namespace Go.Proofs.Ytnhppjimimhlkaa
open Go.Vc Go.Orc Go.Sh Go.RowKit
set_option maxRecDepth 20000
theorem pl64 : ∀ fs, Try.prog.underlying 64 = some (.struct fs) → Places Try.prog fs [(0, 1), (1, 32), (33, 1), (34, 1), (35, 1)] := by
 intro fs h w; rw [Try.underlying64] at h; cases h; simp
theorem c_both19 {w00 : World} {L : List Ent} (id : Bool) (ms df : List UInt8) (hms : ms.length = 32) (da0 : Option Addr) (n cap0 : Nat) (hl : df.length = 32 * n) (hn : n ≤ 1000000) (w : World) (h_0 : HP w00 w (Ent.view da0 (df.map vu8) :: L)) :
  Cs Try.prog 12 [(.agg ⟨flat [(1, [(.bool id)]), (32, ms.map vu8), (1, [(.slice da0 n cap0)])]⟩)].toArray w (fun v w1 => ∃ ob mp da dc rb, v = .tuple [.pointer (some ⟨ob, 0, none⟩), .pointer (some ⟨rb, 0, none⟩)].toArray ∧ HP w00 w1 (Ent.blk ob .nw 50 [(1, [(.bool id)]), (32, ms.map vu8), (1, [(.slice da n dc)]), (1, [(vi 0)]), (1, [(.map (some mp))]), (1, [(.slice none 0 0)])] :: Ent.row none 0 0 111 67 [] :: Ent.obj mp .nw (.map (mArr ([] : Lg)) 0) :: Ent.pin (sblks []) (fun w => Lgs w [] ([] : Lg)) :: Ent.view da (df.map vu8) :: Ent.blk rb .nw 64 [(1, [(.bool id)]), (32, ms.map vu8), (1, [(.slice da0 n cap0)]), (1, [(vi 0)]), (1, [(.slice none 0 0)])] :: Ent.view da0 (df.map vu8) :: L)) := by
 refine Cs.of (n := 19) (args := [(.agg ⟨flat [(1, [(.bool id)]), (32, ms.map vu8), (1, [(.slice da0 n cap0)])]⟩)]) Try.func12 rfl rfl rfl ?_
 refine WP.seq (WP.reg ?_)
 refine WL.box (v := (.agg ⟨flat [(1, [(.bool id)]), (32, ms.map vu8), (1, [(.slice da0 n cap0)])]⟩)) (segs := [(1, [(.bool id)]), (32, ms.map vu8), (1, [(.slice da0 n cap0)])]) h_0 rfl rfl (SsOk.cons (SOk.v rfl) (SsOk.cons (SOk.u8 hms) (SsOk.cons (SOk.v rfl) SsOk.nil))) rfl (fun b_1 w_2 h_3 => ?_)
 refine qA (.pointer none) rfl rfl (qA (.pointer none) rfl rfl ?_)
 refine WL.nil (thn_n (WP.seq ?_))
 refine WP.cutG (G := Nat × Nat × Option Addr × Nat × Nat) [2, 3, 4, 5, 6, 7, 8, 9, 10, 11, 12, 13, 14, 15, 16, 17, 18] (fun (bY1Y6Y0Y0, bY1Y14Y0Y0, aY1Y6Y0Y0, cY1Y6Y0Y0, bY1Y6Y0Y1) => [(2, (pO bY1Y6Y0Y0 0)), (3, (pO bY1Y14Y0Y0 0)), (4, (pO b_1 0)), (5, (.bool id)), (6, (pO b_1 1)), (7, (.agg ⟨ms.map vu8⟩)), (8, (pO b_1 33)), (9, (.slice da0 n cap0)), (11, (pO b_1 0)), (12, (.bool id)), (13, (pO b_1 1)), (14, (.agg ⟨ms.map vu8⟩)), (15, (pO b_1 33)), (16, (.slice da0 n cap0)), (17, (.agg ⟨flat [(1, [(.bool id)]), (32, ms.map vu8), (1, [(.slice da0 n cap0)]), (1, [(vi 0)]), (1, [(.slice none 0 0)])]⟩)), (10, (pO bY1Y6Y0Y0 0)), (18, (pO bY1Y14Y0Y0 0))]) (fun (bY1Y6Y0Y0, bY1Y14Y0Y0, aY1Y6Y0Y0, cY1Y6Y0Y0, bY1Y6Y0Y1) w1 => HP w00 w1 (Ent.blk bY1Y14Y0Y0 .nw 64 [(1, [(.bool id)]), (32, ms.map vu8), (1, [(.slice da0 n cap0)]), (1, [(vi 0)]), (1, [(.slice none 0 0)])] :: Ent.blk bY1Y6Y0Y0 .nw 50 [(1, [(.bool id)]), (32, ms.map vu8), (1, [(.slice aY1Y6Y0Y0 n cY1Y6Y0Y0)]), (1, [(vi 0)]), (1, [(.map (some bY1Y6Y0Y1))]), (1, [(.slice none 0 0)])] :: Ent.row none 0 0 111 67 [] :: Ent.obj bY1Y6Y0Y1 .nw (.map (mArr ([] : Lg)) 0) :: Ent.pin (sblks []) (fun w => Lgs w [] ([] : Lg)) :: Ent.view aY1Y6Y0Y0 (df.map vu8) :: Ent.view da0 (df.map vu8) :: Ent.blk b_1 .nw 26 [(1, [(.bool id)]), (32, ms.map vu8), (1, [(.slice da0 n cap0)])] :: L)) ?_ ?_
 ·refine WP.drawT (SL w00.heap.size [.blk b_1 .nw 26 [(1, [(.bool id)]), (32, ms.map vu8), (1, [(.slice da0 n cap0)])], .view da0 (df.map vu8)]) (.q 0 (.q 1 (.q 2 (.q 3 (.q 4 (.q 5 (.q 7 (.q 8 (.q 9 (.q 10 (.q 11 (.q 12 (.q 13 (.s2 6 14 (.q 15 (.s 14 (.q 16 .nil))) (.s 6 (.q 15 (.q 16 .nil))))))))))))))))) (by kernel_rfl) (by kernel_rfl) rfl (by kernel_rfl) (fun w_4 hc_6 => (SL.cons ((h_3.same hc_6).ok _ M0) (SL.cons ((h_3.same hc_6).ok _ M1) (SL.nil _ _)))) (fun w_4 hc_6 => ?_)
  have h_5 := h_3.same hc_6
  refine qT rfl rfl (fun wq hS => R.fieldAddr (b := b_1) (off := 0) (off' := 0) rfl Try.underlying26 rfl Try.sizeOf4 rfl rfl) ?_
  refine qT rfl rfl (fun wq hS => R.load1 (b := b_1) (off := 0) (v := (.bool id)) rfl Try.isAgg4 (hS _ M0) Sg.h) ?_
  refine qT rfl rfl (fun wq hS => R.fieldAddr (b := b_1) (off := 0) (off' := 1) rfl Try.underlying26 rfl Try.sizeOf23 rfl rfl) ?_
  refine qT rfl rfl (fun wq hS => R.loadA (b := b_1) (off := 1) [(1, [(.bool id)])] [(32, ms.map vu8)] [(1, [(.slice da0 n cap0)])] (cs := ms.map vu8) rfl Try.isAgg23 Try.sizeOf23 (hS _ M0) rfl rfl rfl rfl) ?_
  refine qT rfl rfl (fun wq hS => R.fieldAddr (b := b_1) (off := 0) (off' := 33) rfl Try.underlying26 rfl Try.sizeOf24 rfl rfl) ?_
  refine qT rfl rfl (fun wq hS => R.load1 (b := b_1) (off := 33) (v := (.slice da0 n cap0)) rfl Try.isAgg24 (hS _ M0) (Sg.t rfl (Sg.t rfl Sg.h))) ?_
  refine qT rfl rfl (fun wq hS => R.fieldAddr (b := b_1) (off := 0) (off' := 0) rfl Try.underlying26 rfl Try.sizeOf4 rfl rfl) ?_
  refine qT rfl rfl (fun wq hS => R.load1 (b := b_1) (off := 0) (v := (.bool id)) rfl Try.isAgg4 (hS _ M0) Sg.h) ?_
  refine qT rfl rfl (fun wq hS => R.fieldAddr (b := b_1) (off := 0) (off' := 1) rfl Try.underlying26 rfl Try.sizeOf23 rfl rfl) ?_
  refine qT rfl rfl (fun wq hS => R.loadA (b := b_1) (off := 1) [(1, [(.bool id)])] [(32, ms.map vu8)] [(1, [(.slice da0 n cap0)])] (cs := ms.map vu8) rfl Try.isAgg23 Try.sizeOf23 (hS _ M0) rfl rfl rfl rfl) ?_
  refine qT rfl rfl (fun wq hS => R.fieldAddr (b := b_1) (off := 0) (off' := 33) rfl Try.underlying26 rfl Try.sizeOf24 rfl rfl) ?_
  refine qT rfl rfl (fun wq hS => R.load1 (b := b_1) (off := 33) (v := (.slice da0 n cap0)) rfl Try.isAgg24 (hS _ M0) (Sg.t rfl (Sg.t rfl Sg.h))) ?_
  refine qT rfl rfl (fun wq hS => R.buildS (pl := [(0, 1), (1, 32), (33, 1), (34, 1), (35, 1)]) (zs := [(1, [(.bool false)]), (32, (List.replicate 32 (0 : UInt8)).map vu8), (1, [(.slice none 0 0)]), (1, [(vi 0)]), (1, [(.slice none 0 0)])]) (vs := [(0, (.bool id)), (1, (.agg ⟨ms.map vu8⟩)), (2, (.slice da0 n cap0))]) (out := [(1, [(.bool id)]), (32, ms.map vu8), (1, [(.slice da0 n cap0)]), (1, [(vi 0)]), (1, [(.slice none 0 0)])]) (cs := flat [(1, [(.bool id)]), (32, ms.map vu8), (1, [(.slice da0 n cap0)]), (1, [(vi 0)]), (1, [(.slice none 0 0)])]) Try.underlying64 (zv Try.typeInfo64 rfl) rfl (SsOk.cons (SOk.v rfl) (SsOk.cons (SOk.u8 lr) (SsOk.cons (SOk.v rfl) (SsOk.cons (SOk.v rfl) (SsOk.cons (SOk.v rfl) SsOk.nil))))) (pl64 _ Try.underlying64) rfl (FillR.cons [] [(1, [(.bool false)])] [(1, [(.bool id)])] [(32, (List.replicate 32 (0 : UInt8)).map vu8), (1, [(.slice none 0 0)]), (1, [(vi 0)]), (1, [(.slice none 0 0)])] rfl rfl rfl rfl (SsOk.cons (SOk.v rfl) SsOk.nil) rfl rfl rfl (FillR.cons [(1, [(.bool id)])] [(32, (List.replicate 32 (0 : UInt8)).map vu8)] [(32, ms.map vu8)] [(1, [(.slice none 0 0)]), (1, [(vi 0)]), (1, [(.slice none 0 0)])] rfl rfl rfl rfl (SsOk.cons (SOk.u8 hms) SsOk.nil) rfl rfl rfl (FillR.cons [(1, [(.bool id)]), (32, ms.map vu8)] [(1, [(.slice none 0 0)])] [(1, [(.slice da0 n cap0)])] [(1, [(vi 0)]), (1, [(.slice none 0 0)])] rfl rfl rfl rfl (SsOk.cons (SOk.v rfl) SsOk.nil) rfl rfl rfl FillR.nil))) rfl) ?_
  refine WT.s2 ?_ ?_
  ·refine Op1.one rfl (Wn.no rfl) ?_
   have h_8 := h_5.up J1
   refine WL.call Try.call17 rfl rfl (c_ONew id ms df hms da0 n cap0 hl (by omega) _ h_8) rfl ?_
   rintro _ w_13 ⟨b_9, b_10, a_11, c_12, rfl, h_14⟩
   refine WL.nil ?_
   refine ⟨(SL.cons (h_14.ok _ M6) (SL.cons (h_14.ok _ M5) (SL.nil _ _))), ?_⟩
   refine qT rfl rfl (fun wq hS => R.assign (v := (pO b_9 0)) rfl) ?_
   refine WT.s (Op1.one rfl (Wn.no rfl) ?_)
   refine WL.box (v := (.agg ⟨flat [(1, [(.bool id)]), (32, ms.map vu8), (1, [(.slice da0 n cap0)]), (1, [(vi 0)]), (1, [(.slice none 0 0)])]⟩)) (segs := [(1, [(.bool id)]), (32, ms.map vu8), (1, [(.slice da0 n cap0)]), (1, [(vi 0)]), (1, [(.slice none 0 0)])]) h_14 rfl rfl (SsOk.cons (SOk.v rfl) (SsOk.cons (SOk.u8 hms) (SsOk.cons (SOk.v rfl) (SsOk.cons (SOk.v rfl) (SsOk.cons (SOk.v rfl) SsOk.nil))))) rfl (fun b_15 w_16 h_17 => ?_)
   refine WL.nil ?_
   refine ⟨(SL.cons (h_17.ok _ M7) (SL.cons (h_17.ok _ M6) (SL.nil _ _))), ?_⟩
   refine qT rfl rfl (fun wq hS => R.assign (v := (pO b_15 0)) rfl) ?_
   refine WT.nil (thn_n ?_)
   exact ⟨(b_9, b_15, a_11, c_12, b_10), (Ag.upd rfl (U4 rfl rfl rfl rfl (U4 rfl rfl rfl rfl (U4 rfl rfl rfl rfl (U4 rfl rfl rfl rfl (Ag.refl _ _)))))), ⟨rfl, rfl, rfl, rfl, rfl, rfl, rfl, rfl, rfl, rfl, rfl, rfl, rfl, rfl, rfl, rfl, rfl, trivial⟩, h_17⟩
  ·refine Op1.one rfl (Wn.no rfl) ?_
   refine WL.box (v := (.agg ⟨flat [(1, [(.bool id)]), (32, ms.map vu8), (1, [(.slice da0 n cap0)]), (1, [(vi 0)]), (1, [(.slice none 0 0)])]⟩)) (segs := [(1, [(.bool id)]), (32, ms.map vu8), (1, [(.slice da0 n cap0)]), (1, [(vi 0)]), (1, [(.slice none 0 0)])]) h_5 rfl rfl (SsOk.cons (SOk.v rfl) (SsOk.cons (SOk.u8 hms) (SsOk.cons (SOk.v rfl) (SsOk.cons (SOk.v rfl) (SsOk.cons (SOk.v rfl) SsOk.nil))))) rfl (fun b_18 w_19 h_20 => ?_)
   refine WL.nil ?_
   refine ⟨(SL.cons (h_20.ok _ M1) (SL.cons (h_20.ok _ M2) (SL.nil _ _))), ?_⟩
   refine WT.s (Op1.one rfl (Wn.no rfl) ?_)
   have h_21 := h_20.up J2
   refine WL.call Try.call17 rfl rfl (c_ONew id ms df hms da0 n cap0 hl (by omega) _ h_21) rfl ?_
   rintro _ w_26 ⟨b_22, b_23, a_24, c_25, rfl, h_27⟩
   refine WL.nil ?_
   refine ⟨(SL.cons (h_27.ok _ M7) (SL.cons (h_27.ok _ M5) (SL.nil _ _))), ?_⟩
   refine qT rfl rfl (fun wq hS => R.assign (v := (pO b_22 0)) rfl) ?_
   refine qT rfl rfl (fun wq hS => R.assign (v := (pO b_18 0)) rfl) ?_
   refine WT.nil (thn_n ?_)
   have h_35 := (((((((h_27.up J7).up J6).up J6).up J6).up J6).up J6).up J6).up J7
   exact ⟨(b_22, b_18, a_24, c_25, b_23), (Ag.upd rfl (U4 rfl rfl rfl rfl (U4 rfl rfl rfl rfl (U4 rfl rfl rfl rfl (U4 rfl rfl rfl rfl (Ag.refl _ _)))))), ⟨rfl, rfl, rfl, rfl, rfl, rfl, rfl, rfl, rfl, rfl, rfl, rfl, rfl, rfl, rfl, rfl, rfl, trivial⟩, h_35⟩
 ·rintro ⟨b_39, b_40, a_41, c_42, b_43⟩ J_36 w_37 h_38
  refine thn_n (WP.ret ?_)
  refine ret_of Try.results12 (RV.tmp (v := (pO b_39 0)) rfl (RV.tmp (v := (pO b_40 0)) rfl RV.nil)) ?_
  have h_52 := ((((((((h_38.up J7).drop rfl).up J6).up J1).up J6).up J6).up J6).up J6).up J6
  exact ⟨_, _, _, _, _, rfl, h_52⟩

theorem okN : ok32 ([] : Lg) := fun p hp => by cases hp
section
variable {id : Bool} {df : List UInt8} {dn u : Nat} {lg : Lg} {ms b : List UInt8}
theorem tg_k : lk (tgQ1 ms) (tgL id df dn u lg ms b) = some (tgK id df dn u lg ms) := lk_anL lk_self
theorem tg_d : lk (tgQ2 id df dn u lg ms b) (tgL id df dn u lg ms b) = some (tgD id df dn u lg ms b) := lk_self
end
section
variable {ins : UInt64} {me ch t : List UInt8}
theorem rep_80 (h1 : me.length = 32) (h2 : ch.length = 32) : ((repB ins me ch ++ t).drop 0).take 80 = repB ins me ch := by
 rw [List.drop_zero, List.take_append_of_le_length (by rw [repB_len h1 h2]; exact Nat.le_refl _), List.take_of_length_le (by rw [repB_len h1 h2]; exact Nat.le_refl _)]
theorem rep_dr (h1 : me.length = 32) (h2 : ch.length = 32) (h3 : t.length = 32) : ((repB ins me ch ++ t).drop 80).take 32 = t := by
 have e := repB_len (ins := ins) h1 h2
 rw [List.drop_append, List.drop_of_length_le (by omega), e, List.nil_append, Nat.sub_self, List.drop_zero, List.take_of_length_le (by omega)]
theorem mk8 (r : List UInt8) : (markB ++ r).drop 8 = r := rfl
theorem rep_fl (h2 : ch.length = 32) : repB ins me ch = markB ++ (leN 8 ins.toNat ++ (me ++ ch)) := by simp [repB]
theorem rep_ins (h1 : me.length = 32) (h2 : ch.length = 32) : ins_of (((repB ins me ch ++ t).drop 0).take 80) = ins := by
 rw [rep_80 h1 h2, ins_of, rep_fl h2, mk8, List.take_left' (leN_len ..), natLE_leN, Nat.mod_eq_of_lt ins.toNat_lt]; simp
theorem rep_me (h1 : me.length = 32) (h2 : ch.length = 32) : me_of (((repB ins me ch ++ t).drop 0).take 80) = me := by
 rw [rep_80 h1 h2, me_of, rep_fl h2, show (16 : Nat) = 8 + 8 from rfl, ← List.drop_drop, mk8, List.drop_left' (leN_len ..), List.take_left' h1]
theorem rep_ch (h1 : me.length = 32) (h2 : ch.length = 32) : ch_of (((repB ins me ch ++ t).drop 0).take 80) = ch := by
 rw [rep_80 h1 h2, ch_of, rep_fl h2, show (48 : Nat) = 8 + (8 + 32) from rfl, ← List.drop_drop, mk8, ← List.drop_drop, List.drop_left' (leN_len ..), List.drop_left' h1, List.take_of_length_le (by omega)]
end
end Go.Proofs.Ytnhppjimimhlkaa

namespace Go.Proofs.Ytnhppjimimhlkaa
open Go.Vc Go.Orc Go.Sh Go.RowKit
set_option maxRecDepth 20000

end Go.Proofs.Ytnhppjimimhlkaa

namespace Go.Vc
open Go.RowKit Go.ChangeShapes Go.WideShapes Go.ChangeAt
section
variable {P : Program} {w : World} {t : TypeId} {cs : List Value}
theorem Tr.slG {e : TypeId} {s : Nat} (hu : P.underlying t = some (.slice e)) (hce : P.cellsOf e = s) (hs : 1 ≤ s) (h : Tr P w t cs) :
    ∃ a n cap, ∃ els : List (List Value), cs = [.slice a n cap] ∧ els.length = n ∧ n ≤ cap ∧ cap ≤ maxLen ∧ (∀ y ∈ els, y.length = s ∧ Tr P w e y) ∧ (Ent.view a els.flatten).ok w.heap.size w := by
  rcases Tr.nilOrSlice hu h with rfl | ⟨a, len, cap, rfl, h1, h2, h3⟩
  · exact ⟨none, 0, 0, [], rfl, rfl, Nat.le_refl _, by simp [maxLen], (by intro y hy; cases hy), ⟨View.nil _ _, fun ad h => by cases h⟩⟩
  · have key : ∀ k, k ≤ len → ∃ els : List (List Value), els.length = k ∧ els.flatten.length = s * k ∧ (∀ y ∈ els, y.length = s ∧ Tr P w e y) ∧ View w (some a) els.flatten := by
      intro k
      induction k with
      | zero => intro _; exact ⟨[], rfl, rfl, (by intro y hy; cases hy), View.nil _ _⟩
      | succ k ih =>
        intro hk
        obtain ⟨els, hl, hf, he, hv⟩ := ih (by omega)
        obtain ⟨ys, hys, ht⟩ := h3 k (by omega)
        rw [hce] at hys
        obtain ⟨hyl, hyc⟩ := cells?_all hys
        refine ⟨els ++ [ys], by simp [hl], by simp [hf, hyl, Nat.mul_succ], fun y hy => ?_, fun i v hv' => ?_⟩
        · rcases List.mem_append.1 hy with hy | hy
          · exact he y hy
          · rw [List.mem_singleton] at hy; subst hy; exact ⟨hyl, ht⟩
        · rw [List.flatten_append] at hv'
          by_cases hi : i < els.flatten.length
          · refine hv i v ?_
            rw [List.getElem?_append_left hi] at hv'
            exact hv'
          · rw [List.getElem?_append_right (by omega)] at hv'
            have h4 := hyc (i - els.flatten.length) v (by rw [List.flatten_cons, List.flatten_nil, List.append_nil] at hv'; exact hv')
            rw [add_add, hf, Nat.mul_comm k, show s * k + (i - s * k) = i by omega] at h4
            exact ⟨a, rfl, h4⟩
    obtain ⟨els, hl, hf, he, hv⟩ := key len (Nat.le_refl _)
    refine ⟨some a, len, cap, els, rfl, hl, h1, h2, he, ⟨hv, fun ad ha hne => ?_⟩⟩
    cases ha
    cases hx : els.flatten with
    | nil => rw [hx] at hne; simp at hne
    | cons x l =>
      obtain ⟨ad', e, hc⟩ := hv 0 x (by rw [hx]; rfl)
      cases e
      have := block_lt_of_cell hc
      rwa [Addr.add_block] at this
end
theorem els_of {α : Type} {f : α → List Value} {p : α → Prop} : ∀ {els : List (List Value)}, (∀ y ∈ els, ∃ r, y = f r ∧ p r) → ∃ rs : List α, els = rs.map f ∧ ∀ r ∈ rs, p r
  | [], _ => ⟨[], rfl, fun r h => by cases h⟩
  | y :: els, h => by
    obtain ⟨r, hr, hp⟩ := h y (List.mem_cons_self ..)
    obtain ⟨rs, hrs, hps⟩ := els_of (els := els) fun z hz => h z (List.mem_cons_of_mem _ hz)
    refine ⟨r :: rs, by rw [hr, hrs]; rfl, fun q hq => ?_⟩
    rcases List.mem_cons.1 hq with rfl | hq
    · exact hp
    · exact hps q hq
theorem flat_len {α : Type} {f : α → List Value} {s : Nat} : ∀ {rs : List α}, (∀ r ∈ rs, (f r).length = s) → (rs.map f).flatten.length = rs.length * s
  | [], _ => by simp
  | r :: rs, h => by
    rw [List.map_cons, List.flatten_cons, List.length_append, flat_len fun q hq => h q (List.mem_cons_of_mem _ hq), h r (List.mem_cons_self ..), List.length_cons, Nat.succ_mul]; omega
theorem flat_at {α : Type} {f : α → List Value} {s : Nat} {z : α} : ∀ {rs : List α} {k : Nat}, (∀ r ∈ rs, (f r).length = s) → k < rs.length → ((rs.map f).flatten.drop (k * s)).take s = f (rs.getD k z)
  | r :: rs, 0, h, _ => by
    have := h r (List.mem_cons_self ..)
    rw [Nat.zero_mul, List.drop_zero, List.map_cons, List.flatten_cons, List.take_append_of_le_length (by omega), List.take_of_length_le (by omega)]; rfl
  | r :: rs, k + 1, h, hk => by
    have h1 := h r (List.mem_cons_self ..)
    have h2 := flat_at (z := z) (rs := rs) (k := k) (fun q hq => h q (List.mem_cons_of_mem _ hq)) (by simpa using hk)
    rw [List.map_cons, List.flatten_cons, show (k + 1) * s = (f r).length + k * s by rw [h1, Nat.succ_mul]; omega, ← List.drop_drop, List.drop_left]
    simpa using h2
theorem getD_mem {α : Type} {z : α} {rs : List α} {k : Nat} (h : k < rs.length) : rs.getD k z ∈ rs := by
  have e : rs.getD k z = rs[k] := by simp [h]
  rw [e]; exact List.getElem_mem h
end Go.Vc

namespace Go.Proofs.Ytnhppjimimhlkaa
open Go.Vc Go.Orc Go.Sh Go.RowKit
set_option maxRecDepth 20000

abbrev Rp := UInt64 × List UInt8 × List UInt8
def rpC (r : Rp) : List Value := flat [(1, [vu64 r.1]), (32, r.2.1.map vu8), (32, r.2.2.map vu8)]
def okRp (r : Rp) : Prop := r.2.1.length = 32 ∧ r.2.2.length = 32
def rsC (rs : List Rp) : List Value := (rs.map rpC).flatten
def zRp : Rp := (0, [], [])
def rpB (r : Rp) : List UInt8 := repB r.1 r.2.1 r.2.2
theorem rpC_len {r : Rp} (h : okRp r) : (rpC r).length = 65 := by simp [rpC, flat, h.1, h.2]
theorem rsC_len {rs : List Rp} (h : ∀ r ∈ rs, okRp r) : (rsC rs).length = rs.length * 65 := flat_len fun r hr => rpC_len (h r hr)
theorem rsC_at {rs : List Rp} {k : Nat} (h : ∀ r ∈ rs, okRp r) (hk : k < rs.length) : ((rsC rs).drop (k * 65)).take 65 = rpC (rs.getD k zRp) := flat_at (fun r hr => rpC_len (h r hr)) hk
theorem trRp (W : World) {cs : List Value} (h : Tr Try.prog W 27 cs) : ∃ a n cap, ∃ rs : List Rp, cs = [.slice a n cap] ∧ rs.length = n ∧ n ≤ cap ∧ cap ≤ maxLen ∧ (∀ r ∈ rs, okRp r) ∧ (Ent.view a (rsC rs)).ok W.heap.size W := by
 obtain ⟨a, n, cap, els, e1, e2, e3, e4, e5, e6⟩ := Tr.slG Try.underlying27 ce30 (by decide) h
 obtain ⟨rs, hrs, hok⟩ := els_of (f := rpC) (p := okRp) (els := els) (fun y hy => by
  have tr := (e5 y hy).2
  have tl_z := Tr.struct (l := [(1, 28), (32, 23), (32, 23)]) Try.underlying30 ce30 (by kernel_rfl) tr
  obtain ⟨a_z0, r_z0, rfl, n_z0, t_z0, tl_z0⟩ := tl_z
  obtain ⟨z0, rfl⟩ := Tr.u64 Try.underlying28 t_z0
  obtain ⟨a_z1, r_z1, rfl, n_z1, t_z1, tl_z1⟩ := tl_z0
  obtain ⟨z1, rfl, l_z1⟩ := Tr.arr8 Try.underlying23 ce23 ce5 Try.underlying5 t_z1
  obtain ⟨a_z2, r_z2, rfl, n_z2, t_z2, tl_z2⟩ := tl_z1
  obtain ⟨z2, rfl, l_z2⟩ := Tr.arr8 Try.underlying23 ce23 ce5 Try.underlying5 t_z2
  obtain rfl := tl_z2
  exact ⟨(z0, z1, z2), by simp [rpC, flat], l_z1, l_z2⟩)
 subst hrs
 exact ⟨a, n, cap, rs, e1, by rw [← e2, List.length_map], e3, e4, hok, e6⟩
def isS (id : Bool) (df : List UInt8) (dn : Nat) (ms : List UInt8) (rs : List Rp) : Nat → Nat × Lg
 | 0 => (0, [])
 | k + 1 => (tgU id df dn (isS id df dn ms rs k).1 (isS id df dn ms rs k).2 ms (rpB (rs.getD k zRp)), tgL id df dn (isS id df dn ms rs k).1 (isS id df dn ms rs k).2 ms (rpB (rs.getD k zRp)))
section
variable {id : Bool} {df : List UInt8} {dn : Nat} {ms : List UInt8} {rs : List Rp}
theorem isS_u : ∀ k, (isS id df dn ms rs k).1 ≤ 2 * k
 | 0 => Nat.le_refl _
 | k + 1 => by
  have h1 := isS_u k
  have h2 := tgU_le id df dn (isS id df dn ms rs k).1 (isS id df dn ms rs k).2 ms (rpB (rs.getD k zRp))
  show tgU _ _ _ _ _ _ _ ≤ _
  omega
theorem isS_l : ∀ k, (isS id df dn ms rs k).2.length ≤ 2 * k
 | 0 => Nat.le_refl _
 | k + 1 => by
  have h1 := isS_l k
  have h2 := tgL_le id df dn (isS id df dn ms rs k).1 (isS id df dn ms rs k).2 ms (rpB (rs.getD k zRp))
  show (tgL _ _ _ _ _ _ _).length ≤ _
  omega
theorem isS_32 (h : df.length = 32 * dn) : ∀ k, ok32 (isS id df dn ms rs k).2
 | 0 => okN
 | k + 1 => tgL_32 h (isS_32 h k)
end
end Go.Proofs.Ytnhppjimimhlkaa

namespace Go.Orc
open Go.Vc Go.RowKit
def dr (df : List UInt8) (i : Nat) : List UInt8 := (df.drop (i * 32)).take 32
def Unl (df : List UInt8) (n : Nat) (d : List UInt8) : Prop := (∀ i, i < n → (∀ k, k < i → dr df k ≠ dr df i) ∧ df.getD (i * 32 + 31) 0 ≠ 1 ∧ dr df i ≠ d) ∧ d.getD 31 0 ≠ 1
def Apt (df : List UInt8) (n : Nat) : Prop := ∀ i, i < n → (∀ k, k < i → dr df k ≠ dr df i) ∧ df.getD (i * 32 + 31) 0 ≠ 1
theorem Unl.apt {df : List UInt8} {n : Nat} {d : List UInt8} (h : Unl df n d) : Apt df n := fun i hi => ⟨(h.1 i hi).1, (h.1 i hi).2.1⟩
section
variable {df : List UInt8} {n : Nat} {d : List UInt8}
theorem drawF_lt {i : Nat} (h : i < n) : drawF df n i = dr df i := by rw [drawF, if_pos h]; rfl
theorem dr_31 {i : Nat} : (dr df i).getD 31 0 = df.getD (i * 32 + 31) 0 := by
  simp [dr, List.getD_eq_getElem?_getD, List.getElem?_take, List.getElem?_drop]
theorem drawF_ge {i : Nat} (h : ¬ i < n) : drawF df n i = leN 8 i ++ (List.replicate 23 0 ++ [1]) := by rw [drawF, if_neg h]
theorem drawF_31 {i : Nat} (h : ¬ i < n) : (drawF df n i).getD 31 0 = 1 := by
  have e := leN_len 8 i
  rw [drawF_ge h, List.getD_eq_getElem?_getD, List.getElem?_append_right (by omega), e]; rfl
theorem draw_inj (ha : Apt df n) {i j : Nat} (hi : i < 18446744073709551616) (hj : j < 18446744073709551616) (hne : i ≠ j) : drawF df n i ≠ drawF df n j := by
  intro h
  by_cases h1 : i < n
  · by_cases h2 : j < n
    · rw [drawF_lt h1, drawF_lt h2] at h
      rcases Nat.lt_or_gt_of_ne hne with hl | hl
      · exact (ha j h2).1 i hl h
      · exact (ha i h1).1 j hl h.symm
    · have := drawF_31 (df := df) h2
      rw [← h, drawF_lt h1, dr_31] at this
      exact (ha i h1).2 this
  · by_cases h2 : j < n
    · have := drawF_31 (df := df) h1
      rw [h, drawF_lt h2, dr_31] at this
      exact (ha j h2).2 this
    · rw [drawF_ge h1, drawF_ge h2] at h
      have h3 := congrArg natLE (List.append_inj_left h (by rw [leN_len, leN_len]))
      rw [natLE_leN, natLE_leN] at h3
      omega
theorem draw_ne (ha : Unl df n d) {i : Nat} : drawF df n i ≠ d := by
  intro h
  by_cases h1 : i < n
  · rw [drawF_lt h1] at h
    exact (ha.1 i h1).2.2 h
  · have := drawF_31 (df := df) h1
    rw [h] at this
    exact ha.2 this
def DL (df : List UInt8) (n u : Nat) (l : Lg) : Prop := u = l.length ∧ ∀ i, i < l.length → (l.getD i ((0, [], 0, []), [])).2 = drawF df n i
theorem DL.nil : DL df n 0 [] := ⟨rfl, fun i h => by simp at h⟩
theorem DL.an {u : Nat} {l : Lg} {q : Qn} (h : DL df n u l) : DL df n (anU true u l q) (anL true df n u l q) := by
  cases hf : fdq q l 0 with
  | some i => rw [anU_hit hf, anL_hit hf]; exact h
  | none =>
    rw [anU_miss hf, anL_miss hf]
    refine ⟨by rw [snoc_len]; exact congrArg (· + 1) h.1, fun i hi => ?_⟩
    rw [snoc_len] at hi
    by_cases e : i < l.length
    · have := h.2 i e
      simpa [List.getD_eq_getElem?_getD, List.getElem?_append_left, e] using this
    · have e2 : i = l.length := by omega
      subst e2
      have : (l ++ [(q, mF true df n u q)]).getD l.length ((0, [], 0, []), []) = (q, mF true df n u q) := by simp
      rw [this, h.1]; rfl
theorem fdq_get {q : Qn} {z : Qn × List UInt8} : ∀ {l : Lg} {s j : Nat}, fdq q l s = some j → s ≤ j ∧ j < s + l.length ∧ (l.getD (j - s) z).1 = q
  | p :: r, s, j, h => by
    rw [fdq] at h
    split at h
    · rename_i e
      cases h
      exact ⟨Nat.le_refl _, by rw [List.length_cons]; omega, by rw [Nat.sub_self]; simpa using e⟩
    · obtain ⟨h1, h2, h3⟩ := fdq_get (z := z) h
      refine ⟨by omega, by rw [List.length_cons]; omega, ?_⟩
      have e : j - s = (j - (s + 1)) + 1 := by omega
      rw [e]; simpa using h3
theorem lk_draw {u : Nat} {l : Lg} {q : Qn} {a : List UInt8} (h : DL df n u l) (hk : lk q l = some a) : ∃ i, i < l.length ∧ (l.getD i ((0, [], 0, []), [])).1 = q ∧ a = drawF df n i := by
  unfold lk at hk
  cases hf : fdq q l 0 with
  | none => rw [hf] at hk; cases hk
  | some i =>
    rw [hf] at hk
    obtain ⟨h1, h2, h3⟩ := fdq_get (z := ((0, [], 0, []), [])) hf
    have hi : i < l.length := by omega
    refine ⟨i, hi, by simpa using h3, ?_⟩
    have h4 := h.2 i hi
    have e : l.getD i (q, []) = l.getD i ((0, [], 0, []), []) := by simp [hi]
    simp only [Option.map_some, Option.some.injEq] at hk
    rw [← hk, e, h4]
theorem lk_ne {u : Nat} {l : Lg} {q q' : Qn} {a a' : List UInt8} (ha : Apt df n) (h : DL df n u l) (hl : l.length < 18446744073709551616) (h1 : lk q l = some a) (h2 : lk q' l = some a') (hne : q ≠ q') : a ≠ a' := by
  obtain ⟨i, hi, e1, e2⟩ := lk_draw h h1
  obtain ⟨j, hj, e3, e4⟩ := lk_draw h h2
  subst e2 e4
  refine draw_inj ha (by omega) (by omega) fun e => hne ?_
  subst e
  rw [← e1, ← e3]
end
end Go.Orc
namespace Go.Vc
open Go.RowKit
section
variable {P : Program} {F : Fr} {w : World} {ty : TypeId} {pos : String} {after : Array Edge} {dst : Option Tmp} {g : Option (Nat × Bool)}
theorem R.indexG {i j off' len s : Nat} {a : Option Addr} {T E : TypeId} {x y : Operand} {kd : IntKind} {iv : Int} (hx : evO F x = .pointer (some (gA a j))) (hy : evO F y = .int kd iv) (hi : iv = (i : Int)) (hlt : i < len)
    (hT : P.underlying T = some (.array len E)) (hs : ∀ w, (sizeOf E).run P w = .ok s w) (hoff : off' = j + i * s) : (execOp (evO F) ⟨dst, .indexAddr T x y, ty, pos, after, g⟩).run P w = .ok (.value (.pointer (some (gA a off')))) w := by
  subst hi
  have hlt' : (i : Int) < (len : Int) := by omega
  have h0 : (0 : Int) ≤ i := by omega
  simp only [execOp, hx, hy, Instr.indexAt, asIntOf, Sem.run_bind, Sem.run_pure, Result.andThen_ok, run_underlying hT, Instr.sureAddr, h0, hlt', and_self, if_true, hs, Int.toNat_natCast, gA_add, hoff]
end
end Go.Vc

namespace Go.Proofs.Ytnhppjimimhlkaa
open Go.Vc Go.Orc Go.Sh Go.RowKit
set_option maxRecDepth 20000

def isB (id : Bool) (df : List UInt8) (dn : Nat) (ms : List UInt8) (rs : List Rp) (k : Nat) : List UInt8 := rpB (rs.getD k zRp) ++ tgD id df dn (isS id df dn ms rs k).1 (isS id df dn ms rs k).2 ms (rpB (rs.getD k zRp))
def isBs (id : Bool) (df : List UInt8) (dn : Nat) (ms : List UInt8) (rs : List Rp) : Nat → List (List UInt8)
 | 0 => []
 | k + 1 => isBs id df dn ms rs k ++ [isB id df dn ms rs k]
def nwB (rs : List Rp) (o : Rp) : Nat → Bool
 | 0 => true
 | k + 1 => nwB rs o k && !decide (rs.getD k zRp = o)
theorem nwB_all {rs : List Rp} {o : Rp} : ∀ {k : Nat}, nwB rs o k = true → ∀ i, i < k → rs.getD i zRp ≠ o
 | k + 1, h, i, hi => by
  rw [nwB, Bool.and_eq_true] at h
  rcases Nat.lt_or_eq_of_le (Nat.le_of_lt_succ hi) with e | e
  ·exact nwB_all h.1 i e
  ·rw [e]; simpa using h.2
section
variable {id : Bool} {df : List UInt8} {dn : Nat} {ms : List UInt8} {rs : List Rp} {i k : Nat}
theorem isBs_len : ∀ {k}, (isBs id df dn ms rs k).length = k
 | 0 => rfl
 | k + 1 => by rw [isBs, List.length_append, isBs_len]; rfl
theorem isBs_at : ∀ {k}, i < k → (isBs id df dn ms rs k).getD i [] = isB id df dn ms rs i
 | k + 1, h => by
  have hl := isBs_len (id := id) (df := df) (dn := dn) (ms := ms) (rs := rs) (k := k)
  rw [isBs]
  rcases Nat.lt_or_eq_of_le (Nat.le_of_lt_succ h) with e | e
  ·rw [← isBs_at e]
   simp [List.getD_eq_getElem?_getD, List.getElem?_append_left, hl, e]
  ·subst e
   rw [List.getD_eq_getElem?_getD, List.getElem?_append_right (by omega), hl, Nat.sub_self]; rfl
theorem tgL_lk {u : Nat} {l : Lg} {b d : List UInt8} {q : Qn} (h : lk q l = some d) : lk q (tgL id df dn u l ms b) = some d := lk_anL (lk_anL h)
theorem isS_k : ∀ {k}, i < k → lk (tgQ1 ms) (isS id df dn ms rs k).2 = some (tgK id df dn (isS id df dn ms rs i).1 (isS id df dn ms rs i).2 ms)
 | k + 1, h => by
  rcases Nat.lt_or_eq_of_le (Nat.le_of_lt_succ h) with e | e
  ·exact tgL_lk (isS_k e)
  ·subst e; exact tg_k
theorem isS_d : ∀ {k}, i < k → lk (tgQ2 id df dn (isS id df dn ms rs i).1 (isS id df dn ms rs i).2 ms (rpB (rs.getD i zRp))) (isS id df dn ms rs k).2 = some (tgD id df dn (isS id df dn ms rs i).1 (isS id df dn ms rs i).2 ms (rpB (rs.getD i zRp)))
 | k + 1, h => by
  rcases Nat.lt_or_eq_of_le (Nat.le_of_lt_succ h) with e | e
  ·exact tgL_lk (isS_d e)
  ·subst e; exact tg_d
theorem tg_old {u : Nat} {l : Lg} {b K d : List UInt8} (hk : lk (tgQ1 ms) l = some K) (hd : lk (2, K, 7, [b].flatten) l = some d) : tgD id df dn u l ms b = d ∧ tgU id df dn u l ms b = u ∧ tgL id df dn u l ms b = l := by
 have e1 : tgK id df dn u l ms = K := anD_lk hk
 have e2 : tgQ2 id df dn u l ms b = (2, K, 7, [b].flatten) := by unfold tgQ2; rw [e1]
 unfold tgD tgU tgL
 rw [e2, anL_lk hk, anU_lk hk, anD_lk hd, anU_lk hd, anL_lk hd]
 exact ⟨rfl, rfl, rfl⟩
theorem is_old (h : i < k) : tgD id df dn (isS id df dn ms rs k).1 (isS id df dn ms rs k).2 ms (rpB (rs.getD i zRp)) = tgD id df dn (isS id df dn ms rs i).1 (isS id df dn ms rs i).2 ms (rpB (rs.getD i zRp)) ∧ tgU id df dn (isS id df dn ms rs k).1 (isS id df dn ms rs k).2 ms (rpB (rs.getD i zRp)) = (isS id df dn ms rs k).1 ∧ tgL id df dn (isS id df dn ms rs k).1 (isS id df dn ms rs k).2 ms (rpB (rs.getD i zRp)) = (isS id df dn ms rs k).2 := tg_old (isS_k h) (isS_d h)
theorem tg_same {u : Nat} {l : Lg} {b : List UInt8} : tgD id df dn (tgU id df dn u l ms b) (tgL id df dn u l ms b) ms b = tgD id df dn u l ms b ∧ tgU id df dn (tgU id df dn u l ms b) (tgL id df dn u l ms b) ms b = tgU id df dn u l ms b ∧ tgL id df dn (tgU id df dn u l ms b) (tgL id df dn u l ms b) ms b = tgL id df dn u l ms b := tg_old tg_k tg_d
theorem isB_112 (hl : df.length = 32 * dn) (hr : okRp (rs.getD i zRp)) : (isB id df dn ms rs i).length = 112 := iss_len (repB_len hr.1 hr.2) (tgD_len hl (isS_32 hl i))
theorem ver_80 (h : i < k) (hr : okRp (rs.getD i zRp)) : (((isBs id df dn ms rs k).getD i []).drop 0).take 80 = rpB (rs.getD i zRp) := by rw [isBs_at h]; exact rep_80 hr.1 hr.2
theorem ver_mk (h : i < k) (hr : okRp (rs.getD i zRp)) : ((((isBs id df dn ms rs k).getD i []).drop 0).take 80).take 8 = markB := by rw [ver_80 h hr]; rfl
theorem ver_dr (hl : df.length = 32 * dn) (h : i < k) (hr : okRp (rs.getD i zRp)) : (((isBs id df dn ms rs k).getD i []).drop 80).take 32 = tgD id df dn (isS id df dn ms rs i).1 (isS id df dn ms rs i).2 ms (rpB (rs.getD i zRp)) := by rw [isBs_at h]; exact rep_dr hr.1 hr.2 (tgD_len hl (isS_32 hl i))
theorem ver_t (hl : df.length = 32 * dn) (h : i < k) (hr : okRp (rs.getD i zRp)) : tgD id df dn (isS id df dn ms rs k).1 (isS id df dn ms rs k).2 ms ((((isBs id df dn ms rs k).getD i []).drop 0).take 80) = (((isBs id df dn ms rs k).getD i []).drop 80).take 32 := by
 rw [ver_80 h hr, ver_dr hl h hr]; exact (is_old h).1
theorem ver_U (h : i < k) (hr : okRp (rs.getD i zRp)) : tgU id df dn (isS id df dn ms rs k).1 (isS id df dn ms rs k).2 ms ((((isBs id df dn ms rs k).getD i []).drop 0).take 80) = (isS id df dn ms rs k).1 := by
 rw [ver_80 h hr]; exact (is_old h).2.1
theorem ver_L (h : i < k) (hr : okRp (rs.getD i zRp)) : tgL id df dn (isS id df dn ms rs k).1 (isS id df dn ms rs k).2 ms ((((isBs id df dn ms rs k).getD i []).drop 0).take 80) = (isS id df dn ms rs k).2 := by
 rw [ver_80 h hr]; exact (is_old h).2.2
end
theorem rp_back {r : Rp} (h : okRp r) (t : List UInt8) : flat [(1, [vu64 (ins_of (((rpB r ++ t).drop 0).take 80))]), (32, (me_of (((rpB r ++ t).drop 0).take 80)).map vu8), (32, (ch_of (((rpB r ++ t).drop 0).take 80)).map vu8)] = rpC r := by
 unfold rpB
 rw [rep_ins h.1 h.2, rep_me h.1 h.2, rep_ch h.1 h.2]; rfl
theorem rpB_inj {r o : Rp} (h1 : okRp r) (h2 : okRp o) (h : rpB r = rpB o) : r = o := by
 have a := rp_back h1 []
 have b := rp_back h2 []
 rw [h] at a
 have c := a.symm.trans b
 obtain ⟨i, m, c1⟩ := r
 obtain ⟨i', m', c1'⟩ := o
 have hi : i = i' := by
  have e1 := rep_ins (ins := i) (t := []) h1.1 h1.2
  have e2 := rep_ins (ins := i') (t := []) h2.1 h2.2
  unfold rpB at h
  simp only at h
  rw [h] at e1
  exact e1.symm.trans e2
 have hm : m = m' := by
  have e1 := rep_me (ins := i) (t := []) h1.1 h1.2
  have e2 := rep_me (ins := i') (t := []) h2.1 h2.2
  unfold rpB at h
  simp only at h
  rw [h] at e1
  exact e1.symm.trans e2
 have hc : c1 = c1' := by
  have e1 := rep_ch (ins := i) (t := []) h1.1 h1.2
  have e2 := rep_ch (ins := i') (t := []) h2.1 h2.2
  unfold rpB at h
  simp only at h
  rw [h] at e1
  exact e1.symm.trans e2
 rw [hi, hm, hc]
theorem rpC_inj {r o : Rp} (h1 : okRp r) (h2 : okRp o) : (flat [(1, [vu64 r.1]), (32, r.2.1.map vu8), (32, r.2.2.map vu8)] = flat [(1, [vu64 o.1]), (32, o.2.1.map vu8), (32, o.2.2.map vu8)]) = (r = o) := by
 refine propext ⟨fun h => ?_, fun h => by rw [h]⟩
 obtain ⟨i, m, c1⟩ := r
 obtain ⟨i', m', c1'⟩ := o
 simp only [flat, List.append_nil, List.cons_append, List.nil_append, List.cons.injEq] at h
 obtain ⟨ha, hb⟩ := h
 obtain ⟨hm, hc⟩ := List.append_inj hb (by rw [List.length_map, List.length_map, h1.1, h2.1])
 have e1 : i = i' := by
  have : ((i.toNat : Nat) : Int) = i'.toNat := by simpa [vu64] using ha
  exact UInt64.toNat_inj.1 (by omega)
 rw [e1, show m = m' from map_inj_u8 ▸ hm, show c1 = c1' from map_inj_u8 ▸ hc]
theorem tg_DL {df : List UInt8} {dn u : Nat} {l : Lg} {ms b : List UInt8} (h : DL df dn u l) : DL df dn (tgU true df dn u l ms b) (tgL true df dn u l ms b) := DL.an (DL.an h)
theorem isS_DL {df : List UInt8} {dn : Nat} {ms : List UInt8} {rs : List Rp} : ∀ k, DL df dn (isS true df dn ms rs k).1 (isS true df dn ms rs k).2
 | 0 => DL.nil
 | k + 1 => tg_DL (isS_DL k)
section
variable {id : Bool} {df : List UInt8} {dn : Nat} {ms : List UInt8} {rs : List Rp} {i k : Nat} {oi : UInt64} {om oc tag : List UInt8}
theorem mix_no (hid : id = true) (ha : Apt df dn) (hk : k ≤ 1000) (hi : i < k) (hr : okRp (rs.getD i zRp)) (ho : okRp (oi, om, oc)) (hne : rs.getD i zRp ≠ (oi, om, oc)) : tgD id df dn (isS id df dn ms rs k).1 (isS id df dn ms rs k).2 ms (repB oi om oc) ≠ tgD id df dn (isS id df dn ms rs i).1 (isS id df dn ms rs i).2 ms (rpB (rs.getD i zRp)) := by
 subst hid
 have h1 := isS_l (id := true) (df := df) (dn := dn) (ms := ms) (rs := rs) k
 have h2 := tgL_le true df dn (isS true df dn ms rs k).1 (isS true df dn ms rs k).2 ms (repB oi om oc)
 refine lk_ne ha (tg_DL (isS_DL k)) (by omega) tg_d (tgL_lk (isS_d hi)) fun e => hne ?_
 have e2 : [repB oi om oc].flatten = [rpB (rs.getD i zRp)].flatten := congrArg (fun q : Qn => q.2.2.2) e
 simp only [List.flatten_cons, List.flatten_nil, List.append_nil] at e2
 exact (rpB_inj ho hr e2).symm
theorem guess_no (hid : id = true) (ha : Unl df dn tag) : tgD id df dn (isS id df dn ms rs k).1 (isS id df dn ms rs k).2 ms (repB oi om oc) ≠ tag := by
 subst hid
 obtain ⟨j, _, _, e⟩ := lk_draw (tg_DL (isS_DL (ms := ms) (rs := rs) k)) (tg_d (b := repB oi om oc))
 rw [e]
 exact draw_ne ha
end
theorem mx_t {a b : List UInt8} (ha : a.length = 80) : (a ++ b).take 80 = a := by rw [List.take_append_of_le_length (by omega), List.take_of_length_le (by omega)]
theorem mx_d {a b : List UInt8} (ha : a.length = 80) (hb : b.length = 32) : ((a ++ b).drop 80).take 32 = b := by
 rw [List.drop_append, List.drop_of_length_le (by omega), ha, Nat.sub_self, List.nil_append, List.drop_zero, List.take_of_length_le (by omega)]

theorem c_unlike (a : Option Addr) (n cap : Nat) (df : List UInt8) (hl : df.length = 32 * n) (d : List UInt8) (hd : d.length = 32) (hn : n ≤ 1000000) (w : World) (hv : View w a (df.map vu8)) :
  Cs Try.prog 16 [(.slice a n cap), (.agg ⟨d.map vu8⟩)].toArray w (fun v w1 => ∃ b, v = .bool b ∧ (b = true → Unl df n d) ∧ Chg w w1 []) := by
 refine Cs.of (n := 44) (args := [(.slice a n cap), (.agg ⟨d.map vu8⟩)]) Try.func16 rfl rfl rfl ?_
 have h_0 := HP.init w
 have h_00 := h_0.old (View.arg hv) (fun f hf => by cases hf)
 refine WP.seq (WP.reg ?_)
 refine WL.box (v := (.agg ⟨d.map vu8⟩)) (segs := [(32, d.map vu8)]) h_00 rfl rfl (SsOk.cons (SOk.u8 hd) SsOk.nil) rfl (fun b_1 w_2 h_3 => ?_)
 refine qA (.bool false) rfl rfl ?_
 refine WL.nil (thn_n (WP.seq (WP.seq (WP.reg ?_))))
 refine qA (vi 0) rfl rfl ?_
 refine WL.nil (thn_n (WP.block ?_))
 refine WP.loopG (G := Nat) [4, 5, 6, 7, 8, 9, 10, 11, 12, 13, 14, 15, 16, 17, 18, 19, 20, 21, 22, 23, 24, 25, 26, 27, 28, 29, 30, 31, 32, 33, 34, 35, 36, 37, 38, 39, 40] (fun i => [(5, (vn i))]) (fun i m w1 => HP w w1 [.blk b_1 .nw 23 [(32, d.map vu8)], .view a (df.map vu8)] ∧ (i ≤ n) ∧ (∀ j, j < i → (∀ k, k < j → dr df k ≠ dr df j) ∧ df.getD (j * 32 + 31) 0 ≠ 1 ∧ dr df j ≠ d) ∧ m = n + 1 - i) ⟨0, _, ⟨rfl, trivial⟩, h_3, Nat.zero_le _, (fun j hj => by omega), rfl⟩ ?_
 rintro i m_6 J_7 w_4 ⟨h_5, hin, hA, rfl⟩
 refine WP.seq (WP.seq (WP.reg ?_))
 refine qM (vn i) rfl rfl (qM (.slice a n cap) rfl rfl (qV rfl (R.lenS (a := a) (m := n) rfl rfl Try.underlying24) (qV rfl (R.bin rfl rfl (bi_lss (r := decide ((((i : Nat) : Int) : Int) < ((n : Nat) : Int))) rfl)) ?_)))
 refine WL.nil (thn_n ?_)
 refine WP.cond (b := decide ((((i : Nat) : Int) : Int) < ((n : Nat) : Int))) rfl (fun c_8 => ?_) (fun c_8 => ?_)
 ·have p_9 := of_decide_eq_true c_8
  refine WP.skip (thn_n (WP.seq (WP.block (WP.seq (WP.seq (WP.reg ?_))))))
  refine qA (vi 0) rfl rfl ?_
  refine WL.nil (thn_n (WP.block ?_))
  refine WP.loopG (G := Nat) [4, 6, 13, 14, 15, 16, 17, 18, 19, 20, 21, 22, 23, 24, 25, 26] (fun q => [(6, (vn q))]) (fun q m w1 => HP w w1 [.blk b_1 .nw 23 [(32, d.map vu8)], .view a (df.map vu8)] ∧ (q ≤ i) ∧ (∀ k, k < q → dr df k ≠ dr df i) ∧ m = i + 1 - q) ⟨0, _, ⟨rfl, trivial⟩, h_5, Nat.zero_le _, (fun j hj => by omega), rfl⟩ ?_
  rintro q m_12 J_13 w_10 ⟨h_11, hqi, hB, rfl⟩
  refine WP.seq (WP.seq (WP.reg ?_))
  refine qM (vn q) rfl rfl (qM (vn i) rfl rfl (qV rfl (R.bin rfl rfl (bi_lss (r := decide ((((q : Nat) : Int) : Int) < ((i : Nat) : Int))) rfl)) ?_))
  refine WL.nil (thn_n ?_)
  refine WP.cond (b := decide ((((q : Nat) : Int) : Int) < ((i : Nat) : Int))) rfl (fun c_14 => ?_) (fun c_14 => ?_)
  ·have p_15 := of_decide_eq_true c_14
   refine WP.skip (thn_n (WP.seq (WP.block (WP.seq ?_))))
   refine WP.drawT (SL w.heap.size [.blk b_1 .nw 23 [(32, d.map vu8)], .view a (df.map vu8)]) (.q 0 (.q 1 (.q 2 (.q 3 (.q 4 (.q 5 (.q 6 (.q 7 (.q 8 .nil))))))))) (by kernel_rfl) (by kernel_rfl) rfl (by kernel_rfl) (fun w_16 hc_18 => (SL.cons ((h_11.same hc_18).ok _ M0) (SL.cons ((h_11.same hc_18).ok _ M1) (SL.nil _ _)))) (fun w_16 hc_18 => ?_)
   have h_17 := h_11.same hc_18
   refine qT rfl rfl (fun wq hS => R.move (v := (.slice a n cap)) rfl) ?_
   refine qT rfl rfl (fun wq hS => R.move (v := (vn q)) rfl) ?_
   refine qT rfl rfl (fun wq hS => R.indexS (a := a) (i := q) (off := q * 32) (xs := df.map vu8) rfl rfl rfl (by omega) (viewV (hS _ M1)) (lt_len (K := 32 * n) (len_map hl) (by omega)) Try.underlying24 Try.sizeOf23 rfl) ?_
   refine qT rfl rfl (fun wq hS => R.loadGA (a := a) (i := q * 32) (xs := df.map vu8) (cs := (((df).drop (q * 32)).take 32).map vu8) rfl (viewV (hS _ M1)) Try.isAgg23 Try.sizeOf23 (by rw [List.map_take, List.map_drop]) (len_map (subLen (K := 32 * n) hl (by omega) : List.length (((df).drop (q * 32)).take 32) = 32)) (by decide)) ?_
   refine qT rfl rfl (fun wq hS => R.move (v := (.slice a n cap)) rfl) ?_
   refine qT rfl rfl (fun wq hS => R.move (v := (vn i)) rfl) ?_
   refine qT rfl rfl (fun wq hS => R.indexS (a := a) (i := i) (off := i * 32) (xs := df.map vu8) rfl rfl rfl (by omega) (viewV (hS _ M1)) (lt_len (K := 32 * n) (len_map hl) (by omega)) Try.underlying24 Try.sizeOf23 rfl) ?_
   refine qT rfl rfl (fun wq hS => R.loadGA (a := a) (i := i * 32) (xs := df.map vu8) (cs := (((df).drop (i * 32)).take 32).map vu8) rfl (viewV (hS _ M1)) Try.isAgg23 Try.sizeOf23 (by rw [List.map_take, List.map_drop]) (len_map (subLen (K := 32 * n) hl (by omega) : List.length (((df).drop (i * 32)).take 32) = 32)) (by decide)) ?_
   refine qT rfl rfl (fun wq hS => R.eqA (xs := (((df).drop (q * 32)).take 32).map vu8) (ys := (((df).drop (i * 32)).take 32).map vu8) (r := decide (((df).drop (q * 32)).take 32 = ((df).drop (i * 32)).take 32)) rfl rfl Try.eqGuardType23 kt23 (by decide) ag23 (Typ.u8s Try.underlying23 ce23 Try.underlying5 ce5 (subLen (K := 32 * n) hl (by omega) : List.length (((df).drop (q * 32)).take 32) = 32)) (Typ.u8s Try.underlying23 ce23 Try.underlying5 ce5 (subLen (K := 32 * n) hl (by omega) : List.length (((df).drop (i * 32)).take 32) = 32)) (map_inj_u8.trans (decT _))) ?_
   refine WT.nil (thn_n ?_)
   refine WP.cond (b := decide (((df).drop (q * 32)).take 32 = ((df).drop (i * 32)).take 32)) rfl (fun c_19 => ?_) (fun c_19 => ?_)
   ·have p_20 := of_decide_eq_true c_19
    refine WP.seq (WP.reg ?_)
    refine qA (.bool false) rfl rfl ?_
    refine WL.nil (thn_n (WP.ret (inb_r (thn_r (thn_r (inb_r (thn_r (inb_r (thn_r (thn_r (inb_r (thn_r ?_))))))))))))
    refine ret_of Try.results16 (RV.tmp (v := (.bool false)) rfl RV.nil) ?_
    exact ⟨false, rfl, (fun h => by cases h), h_17.chgS⟩
   ·have p_21 := of_decide_eq_false c_19
    refine WP.skip (inb_n (thn_n (WP.reg ?_)))
    refine qM (vn q) rfl rfl (qV rfl (R.bin rfl rfl (bi_add (c := ((q + 1 : Nat) : Int)) (by omega) (by omega))) (qA (vn (q + 1)) rfl rfl ?_))
    refine WL.nil (thn_n ?_)
    have h_23 := (h_17.up J1).up J1
    exact ⟨q + 1, _, (by omega), (Ag.upd rfl (U2 rfl rfl (U4 rfl rfl rfl rfl (U4 rfl rfl rfl rfl (U4 rfl rfl rfl rfl (Ag.updL rfl (Ag.mix _ _ _))))))), ⟨rfl, trivial⟩, h_23, (by omega), (fun j hj => (Nat.lt_or_eq_of_le (Nat.le_of_lt_succ hj)).elim (fun e => hB j e) (fun e => by rw [e]; exact p_21)), rfl⟩
  ·have p_24 := of_decide_eq_false c_14
   refine WP.exit (thn_x (thn_x (inb_hit (thn_n (WP.seq ?_)))))
   refine WP.drawT (SL w.heap.size [.blk b_1 .nw 23 [(32, d.map vu8)], .view a (df.map vu8)]) (.q 0 (.q 1 (.q 2 (.q 3 (.q 4 (.q 5 (.q 6 (.q 7 (.q 8 (.q 9 (.q 10 (.q 11 (.q 12 (.q 13 .nil)))))))))))))) (by kernel_rfl) (by kernel_rfl) rfl (by kernel_rfl) (fun w_25 hc_27 => (SL.cons ((h_11.same hc_27).ok _ M0) (SL.cons ((h_11.same hc_27).ok _ M1) (SL.nil _ _)))) (fun w_25 hc_27 => ?_)
   have h_26 := h_11.same hc_27
   refine qT rfl rfl (fun wq hS => R.move (v := (.slice a n cap)) rfl) ?_
   refine qT rfl rfl (fun wq hS => R.move (v := (vn i)) rfl) ?_
   refine qT rfl rfl (fun wq hS => R.indexS (a := a) (i := i) (off := i * 32) (xs := df.map vu8) rfl rfl rfl (by omega) (viewV (hS _ M1)) (lt_len (K := 32 * n) (len_map hl) (by omega)) Try.underlying24 Try.sizeOf23 rfl) ?_
   refine qT rfl rfl (fun wq hS => R.indexG (a := a) (j := i * 32) (i := 31) (off' := i * 32 + 31) rfl rfl rfl (by decide) Try.underlying23 Try.sizeOf5 rfl) ?_
   refine qT rfl rfl (fun wq hS => R.loadG (a := a) (i := i * 32 + 31) (xs := df.map vu8) (v := (vu8 (df.getD (i * 32 + 31) 0))) rfl (viewV (hS _ M1)) Try.isAgg5 (get_u8 (lt_len (K := 32 * n) hl (by omega)))) ?_
   refine qT rfl rfl (fun wq hS => R.bin (v := (.bool (decide ((df.getD (i * 32 + 31) 0 : UInt8) = 1)))) rfl rfl (b8_eql (df.getD (i * 32 + 31) 0) 1 (r := decide ((df.getD (i * 32 + 31) 0 : UInt8) = 1)) rfl)) ?_
   refine qT rfl rfl (fun wq hS => R.move (v := (.bool (decide ((df.getD (i * 32 + 31) 0 : UInt8) = 1)))) rfl) ?_
   rcases Bool.eq_false_or_eq_true (decide ((df.getD (i * 32 + 31) 0 : UInt8) = 1)) with c_28 | c_28
   ·have p_29 := of_decide_eq_true c_28
    refine WT.skipQ rfl rfl rfl (boolNe (v := .bool true) (congrArg Value.bool c_28) (by decide)) rfl rfl ?_
    refine WT.skipQ rfl rfl rfl (boolNe (v := .bool true) (congrArg Value.bool c_28) (by decide)) rfl rfl ?_
    refine WT.skipQ rfl rfl rfl (boolNe (v := .bool true) (congrArg Value.bool c_28) (by decide)) rfl rfl ?_
    refine WT.skipQ rfl rfl rfl (boolNe (v := .bool true) (congrArg Value.bool c_28) (by decide)) rfl rfl ?_
    refine WT.skipQ rfl rfl rfl (boolNe (v := .bool true) (congrArg Value.bool c_28) (by decide)) rfl rfl ?_
    refine WT.skipQ rfl rfl rfl (boolNe (v := .bool true) (congrArg Value.bool c_28) (by decide)) rfl rfl ?_
    refine qT rfl rfl (fun wq hS => R.pickT (v := (.bool true)) (congrArg Value.bool c_28) rfl) ?_
    refine WT.nil (thn_n ?_)
    refine WP.condT rfl ?_
    refine WP.seq (WP.reg ?_)
    refine qA (.bool false) rfl rfl ?_
    refine WL.nil (thn_n (WP.ret (inb_r (thn_r (thn_r (inb_r (thn_r ?_)))))))
    refine ret_of Try.results16 (RV.tmp (v := (.bool false)) rfl RV.nil) ?_
    exact ⟨false, rfl, (fun h => by cases h), h_26.chgS⟩
   ·have p_30 := of_decide_eq_false c_28
    refine WT.q rfl (Wn.yes rfl rfl (congrArg Value.bool c_28)) rfl rfl (fun wq hS => R.move (v := (.slice a n cap)) rfl) ?_
    refine WT.q rfl (Wn.yes rfl rfl (congrArg Value.bool c_28)) rfl rfl (fun wq hS => R.move (v := (vn i)) rfl) ?_
    refine WT.q rfl (Wn.yes rfl rfl (congrArg Value.bool c_28)) rfl rfl (fun wq hS => R.indexS (a := a) (i := i) (off := i * 32) (xs := df.map vu8) rfl rfl rfl (by omega) (viewV (hS _ M1)) (lt_len (K := 32 * n) (len_map hl) (by omega)) Try.underlying24 Try.sizeOf23 rfl) ?_
    refine WT.q rfl (Wn.yes rfl rfl (congrArg Value.bool c_28)) rfl rfl (fun wq hS => R.loadGA (a := a) (i := i * 32) (xs := df.map vu8) (cs := (((df).drop (i * 32)).take 32).map vu8) rfl (viewV (hS _ M1)) Try.isAgg23 Try.sizeOf23 (by rw [List.map_take, List.map_drop]) (len_map (subLen (K := 32 * n) hl (by omega) : List.length (((df).drop (i * 32)).take 32) = 32)) (by decide)) ?_
    refine WT.q rfl (Wn.yes rfl rfl (congrArg Value.bool c_28)) rfl rfl (fun wq hS => R.loadA (b := b_1) (off := 0) [] [(32, d.map vu8)] [] (cs := d.map vu8) rfl Try.isAgg23 Try.sizeOf23 (hS _ M0) rfl rfl rfl rfl) ?_
    refine WT.q rfl (Wn.yes rfl rfl (congrArg Value.bool c_28)) rfl rfl (fun wq hS => R.eqA (xs := (((df).drop (i * 32)).take 32).map vu8) (ys := d.map vu8) (r := decide (((df).drop (i * 32)).take 32 = d)) rfl rfl Try.eqGuardType23 kt23 (by decide) ag23 (Typ.u8s Try.underlying23 ce23 Try.underlying5 ce5 (subLen (K := 32 * n) hl (by omega) : List.length (((df).drop (i * 32)).take 32) = 32)) (Typ.u8s Try.underlying23 ce23 Try.underlying5 ce5 hd) (map_inj_u8.trans (decT _))) ?_
    refine qT rfl rfl (fun wq hS => R.pickF (v := (.bool (decide (((df).drop (i * 32)).take 32 = d)))) (congrArg Value.bool c_28) rfl) ?_
    refine WT.nil (thn_n ?_)
    refine WP.cond (b := decide (((df).drop (i * 32)).take 32 = d)) rfl (fun c_31 => ?_) (fun c_31 => ?_)
    ·have p_32 := of_decide_eq_true c_31
     refine WP.seq (WP.reg ?_)
     refine qA (.bool false) rfl rfl ?_
     refine WL.nil (thn_n (WP.ret (inb_r (thn_r (thn_r (inb_r (thn_r ?_)))))))
     refine ret_of Try.results16 (RV.tmp (v := (.bool false)) rfl RV.nil) ?_
     exact ⟨false, rfl, (fun h => by cases h), h_26.chgS⟩
    ·have p_33 := of_decide_eq_false c_31
     refine WP.skip (inb_n (thn_n (WP.reg ?_)))
     refine qM (vn i) rfl rfl (qV rfl (R.bin rfl rfl (bi_add (c := ((i + 1 : Nat) : Int)) (by omega) (by omega))) (qA (vn (i + 1)) rfl rfl ?_))
     refine WL.nil (thn_n ?_)
     have h_35 := (h_26.up J1).up J1
     exact ⟨i + 1, _, (by omega), (U4 rfl rfl rfl rfl (U4 rfl rfl rfl rfl (U4 rfl rfl rfl rfl (U4 rfl rfl rfl rfl (U4 rfl rfl rfl rfl (Ag.updL rfl (Ag.trans (Ag.sub rfl (Ag.mix _ _ _)) (Ag.upd rfl (Ag.upd rfl (Ag.upd rfl (Ag.upd rfl (Ag.upd rfl (Ag.updL rfl (Ag.mix _ _ _)))))))))))))), ⟨rfl, trivial⟩, h_35, (by omega), (fun j hj => (Nat.lt_or_eq_of_le (Nat.le_of_lt_succ hj)).elim (fun e => hA j e) (fun e => by rw [e]; exact ⟨fun q hq => hB q (by omega), p_30, p_33⟩)), rfl⟩
 ·have p_36 := of_decide_eq_false c_8
  refine WP.exit (thn_x (thn_x (inb_hit (thn_n (WP.seq (WP.reg ?_))))))
  refine qV rfl (R.indexA (b := b_1) (off := 0) (off' := 31) (i := 31) rfl rfl rfl (by decide) Try.underlying23 Try.sizeOf5 rfl) (qV rfl (R.loadE (b := b_1) (off := 31) (i := 31) (v := (vu8 (d.getD 31 0))) rfl Try.isAgg5 (h_5.ok _ M0) Sg.h rfl (get_u8 (lt_len (K := 32) hd (by decide)))) (qV rfl (R.bin (v := (.bool (decide ((d.getD 31 0 : UInt8) ≠ 1)))) rfl rfl (b8_neq (d.getD 31 0) 1 (r := decide ((d.getD 31 0 : UInt8) ≠ 1)) rfl)) (qA (.bool (decide ((d.getD 31 0 : UInt8) ≠ 1))) rfl rfl ?_)))
  refine WL.nil (thn_n (WP.ret ?_))
  refine ret_of Try.results16 (RV.tmp (v := (.bool (decide ((d.getD 31 0 : UInt8) ≠ 1)))) rfl RV.nil) ?_
  exact ⟨_, rfl, (fun h => ⟨fun j hj => hA j (by omega), of_decide_eq_true h⟩), h_5.chgS⟩

theorem nid {b : Bool} (h : (!b) = false) : b = true := by simpa using h
end Go.Proofs.Ytnhppjimimhlkaa
