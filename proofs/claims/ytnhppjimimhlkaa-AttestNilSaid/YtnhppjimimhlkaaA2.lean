/- Reports and their tags: contracts. Conditions: those that each theorem states. -/
import Derived.Test.YtnhppjimimhlkaaA1
namespace Go.Proofs.Ytnhppjimimhlkaa
open Go.Vc Go.Orc Go.RowKit
set_option linter.unusedVariables false
set_option linter.unusedSimpArgs false
set_option maxRecDepth 20000

def markB : List UInt8 := ([114, 101, 112, 111, 114, 116, 0, 0] : List UInt8)
def repB (ins : UInt64) (me ch : List UInt8) : List UInt8 := [markB, leN 8 ins.toNat, me, ch].flatten
theorem repB_len {ins : UInt64} {me ch : List UInt8} (h1 : me.length = 32) (h2 : ch.length = 32) : (repB ins me ch).length = 80 := by
  simp [repB, markB, leN_len, h1, h2]
def cutR (bs : List UInt8) : List (List UInt8) := [bs.take 8, (bs.drop 8).take 8, ((bs.drop 8).drop 8).take 32, (((bs.drop 8).drop 8).drop 32).take 32]
theorem cutR_ok {bs : List UInt8} (h : bs.length = 80) : Go.Wr.cutL [8, 8, 32, 32] bs = some (cutR bs) := by
  simp only [Go.Wr.cutL, List.length_drop, h]
  rw [if_neg (by omega), if_neg (by omega), if_neg (by omega), if_neg (by omega), if_pos (List.length_eq_zero_iff.1 (by simp only [List.length_drop, h]))]
  rfl
theorem cutR_len {bs : List UInt8} (h : bs.length = 80) : (cutR bs).map List.length = [8, 8, 32, 32] := by
  simp [cutR, h]
theorem cutR_at {bs : List UInt8} (h : bs.length = 80) {i : Nat} (hi : i < 4) : ((cutR bs).getD i []).length = [8, 8, 32, 32].getD i 0 := by
  match i, hi with
  | 0, _ => simp [cutR, h]
  | 1, _ => simp [cutR, h]
  | 2, _ => simp [cutR, h]
  | 3, _ => simp [cutR, h]
theorem a_some0 {w : World} {a : Option Addr} {xs : List Value} (hv : View w a xs) (hx : 0 < xs.length) : a = some (gA a 0) := by
  obtain ⟨ad, rfl, _⟩ := hv 0 xs[0] (by simp [hx])
  obtain ⟨b, o, p⟩ := ad
  cases p <;> rfl
def ins_of (bs : List UInt8) : UInt64 := UInt64.ofNat (natLE ((bs.drop 8).take 8))
def me_of (bs : List UInt8) : List UInt8 := (bs.drop 16).take 32
def ch_of (bs : List UInt8) : List UInt8 := (bs.drop 48).take 32
theorem iss_len {a b : List UInt8} (h1 : a.length = 80) (h2 : b.length = 32) : (a ++ b).length = 112 := by rw [List.length_append, h1, h2]
theorem sub_blk {a : Option Addr} {l m : Nat} {xs ys : List Value} (h : 0 < xs.length) : ∀ b ∈ (Ent.view (slA a l m 1) ys).blocks, b ∈ (Ent.view a xs).blocks := by
  intro b hb
  cases a with
  | none => simp [slA, Ent.blocks] at hb
  | some ad =>
    cases xs with
    | nil => simp at h
    | cons x r =>
      have e : slA (some ad) l m 1 = some ad ∨ slA (some ad) l m 1 = some (ad.add (l * 1)) := by
        unfold slA; split
        · exact .inl rfl
        · exact .inr rfl
      rcases e with e | e <;> rw [e] at hb <;> cases ys <;> simp [Ent.blocks, Addr.add_block] at hb ⊢ <;> exact hb
theorem View.pfx {w : World} {a : Option Addr} {l : List UInt8} (k : Nat) (h : View w a (l.map vu8)) : View w a ((l.take k).map vu8) := fun i v hv => by
  refine h i v ?_
  rw [List.map_take] at hv
  have hlt : i < k := by
    by_cases e : i < k
    · exact e
    · rw [List.getElem?_take, if_neg e] at hv; cases hv
  rwa [List.getElem?_take, if_pos hlt] at hv
def tgQ1 (ms : List UInt8) : Qn := (3, ms, 9, ([] : List (List UInt8)).flatten)
def tgK (df : List UInt8) (dn u : Nat) (lg : Lg) (ms : List UInt8) : List UInt8 := ansD df dn u lg (tgQ1 ms)
def tgQ2 (df : List UInt8) (dn u : Nat) (lg : Lg) (ms b : List UInt8) : Qn := (2, tgK df dn u lg ms, 7, [b].flatten)
def tgD (df : List UInt8) (dn u : Nat) (lg : Lg) (ms b : List UInt8) : List UInt8 := ansD df dn (ansU u lg (tgQ1 ms)) (ansL df dn u lg (tgQ1 ms)) (tgQ2 df dn u lg ms b)
def tgU (df : List UInt8) (dn u : Nat) (lg : Lg) (ms b : List UInt8) : Nat := ansU (ansU u lg (tgQ1 ms)) (ansL df dn u lg (tgQ1 ms)) (tgQ2 df dn u lg ms b)
def tgL (df : List UInt8) (dn u : Nat) (lg : Lg) (ms b : List UInt8) : Lg := ansL df dn (ansU u lg (tgQ1 ms)) (ansL df dn u lg (tgQ1 ms)) (tgQ2 df dn u lg ms b)
theorem tgD_len {df : List UInt8} {dn u : Nat} {lg : Lg} {ms b : List UInt8} (h : df.length = 32 * dn) (hl : ok32 lg) : (tgD df dn u lg ms b).length = 32 := ansD_len h (ansL_32 h hl)
theorem tgU_le (df : List UInt8) (dn u : Nat) (lg : Lg) (ms b : List UInt8) : tgU df dn u lg ms b ≤ u + 2 := by
  have h1 := ansU_le u lg (tgQ1 ms)
  have h2 := ansU_le (ansU u lg (tgQ1 ms)) (ansL df dn u lg (tgQ1 ms)) (tgQ2 df dn u lg ms b)
  unfold tgU; omega
theorem tgL_le (df : List UInt8) (dn u : Nat) (lg : Lg) (ms b : List UInt8) : (tgL df dn u lg ms b).length ≤ lg.length + 2 := by
  have h1 := ansL_le df dn u lg (tgQ1 ms)
  have h2 := ansL_le df dn (ansU u lg (tgQ1 ms)) (ansL df dn u lg (tgQ1 ms)) (tgQ2 df dn u lg ms b)
  unfold tgL; omega
theorem c_rSize  (w : World) :
    Cs Try.prog 49 [].toArray w (fun v w1 => v = (vi 80) ∧ Chg w w1 []) := by
  refine Cs.of (n := 1) (args := []) Try.func49 rfl rfl rfl ?_
  have h_0 := HP.init w
  refine WP.seq ?_
  refine WP.reg ?_
  refine WL.q (Wn.no rfl) rfl rfl (R.assign (v := (vi 0)) rfl) ?_
  refine WL.nil ?_
  refine thn_n ?_
  refine WP.seq ?_
  refine WP.reg ?_
  refine WL.q (Wn.no rfl) rfl rfl (R.assign (v := (vi 80)) rfl) ?_
  refine WL.nil ?_
  refine thn_n ?_
  refine WP.ret ?_
  refine ret_of Try.results49 (RV.tmp (v := (vi 80)) rfl RV.nil) ?_
  exact ⟨rfl, h_0.chgS⟩

theorem c_aSize  (w : World) :
    Cs Try.prog 19 [].toArray w (fun v w1 => v = (vi 112) ∧ Chg w w1 []) := by
  refine Cs.of (n := 3) (args := []) Try.func19 rfl rfl rfl ?_
  have h_0 := HP.init w
  refine WP.seq ?_
  refine WP.reg ?_
  refine WL.q (Wn.no rfl) rfl rfl (R.assign (v := (vi 0)) rfl) ?_
  refine WL.nil ?_
  refine thn_n ?_
  refine WP.seq ?_
  refine WP.reg ?_
  refine WL.call (al := []) Try.call49 rfl rfl (c_rSize  _ ) rfl ?_
  rintro _ w_2 ⟨rfl, hc_1⟩
  have h_3 := h_0.same hc_1
  refine WL.q (Wn.no rfl) rfl rfl (R.bin (v := (vi 112)) rfl rfl (bi_add (c := 112) (by omega) (by omega))) ?_
  refine WL.q (Wn.no rfl) rfl rfl (R.assign (v := (vi 112)) rfl) ?_
  refine WL.nil ?_
  refine thn_n ?_
  refine WP.ret ?_
  refine ret_of Try.results19 (RV.tmp (v := (vi 112)) rfl RV.nil) ?_
  exact ⟨rfl, h_3.chgS⟩

theorem c_oKey_nil (dm : Int) (a : Option Addr) (n cap : Nat) (w : World) :
    Cs Try.prog 20 [(.pointer none), (vi dm), (.slice a n cap)].toArray w (fun v w1 => v = (.tuple [(.agg ⟨(List.replicate 32 (0 : UInt8)).map vu8⟩), (vi 1)].toArray) ∧ Chg w w1 []) := by
  refine Cs.of (n := 24) (args := [(.pointer none), (vi dm), (.slice a n cap)]) Try.func20 rfl rfl rfl ?_
  have h_0 := HP.init w
  refine WP.seq ?_
  refine WP.reg ?_
  refine WL.alloc (segs := [(32, (List.replicate 32 (0 : UInt8)).map vu8)]) h_0 (zv Try.typeInfo23 rfl) rfl (SsOk.cons (SOk.u8 (List.length_replicate ..)) SsOk.nil) rfl (fun b_1 w_2 h_3 => ?_)
  refine WL.q (Wn.no rfl) rfl rfl (R.assign (v := (vi 0)) rfl) ?_
  refine WL.nil ?_
  refine thn_n ?_
  refine WP.seq ?_
  refine WP.seq ?_
  refine WP.reg ?_
  refine WL.q (Wn.no rfl) rfl rfl (R.move (v := (.pointer none)) rfl) ?_
  refine WL.call (al := [(.pointer none)]) Try.call52 rfl rfl (c_othere_nil  _ ) rfl ?_
  rintro _ w_5 ⟨rfl, hc_4⟩
  have h_6 := h_3.same hc_4
  refine WL.q (Wn.no rfl) rfl rfl (R.not (b := false) rfl) ?_
  refine WL.nil ?_
  refine thn_n ?_
  refine WP.condT rfl ?_
  refine WP.seq ?_
  refine WP.reg ?_
  refine WL.q (Wn.no rfl) rfl rfl (R.buildA (vs := []) (cs := (List.replicate 32 (0 : UInt8)).map vu8) Try.underlying23 Try.sizeOf5 (zv Try.typeInfo23 rfl) rfl rfl) ?_
  refine WL.storeA (b := b_1) (off := 0) [] [(32, (List.replicate 32 (0 : UInt8)).map vu8)] [(32, (List.replicate 32 (0 : UInt8)).map vu8)] [] (ys := (List.replicate 32 (0 : UInt8)).map vu8) h_6 rfl rfl Try.sizeOf23 At.h (by decide) rfl rfl rfl rfl rfl rfl (SsOk.cons (SOk.u8 (List.length_replicate ..)) SsOk.nil) (fun w_7 h_8 => ?_)
  refine WL.q (Wn.no rfl) rfl rfl (R.assign (v := (vi 1)) rfl) ?_
  refine WL.nil ?_
  refine thn_n ?_
  refine WP.ret ?_
  refine thn_r ?_
  refine ret_of Try.results20 (RV.cell rfl (h_8.loadA (cs := (List.replicate 32 (0 : UInt8)).map vu8) Try.isAgg23 Try.sizeOf23 (.head _) rfl rfl) (RV.tmp (v := (vi 1)) rfl RV.nil)) ?_
  exact ⟨rfl, h_8.chgS⟩

theorem c_oKey_z (bc : Nat) (dm : Int) (a : Option Addr) (n cap : Nat) (w : World) (hcb : (Ent.blk bc .ro 50 [(1, [(.bool false)]), (32, (List.replicate 32 (0 : UInt8)).map vu8), (1, [(.slice none 0 0)]), (1, [(vi 0)]), (1, [(.map none)]), (1, [(.slice none 0 0)])]).ok w.heap.size w) :
    Cs Try.prog 20 [(.pointer (some ⟨bc, 0, none⟩)), (vi dm), (.slice a n cap)].toArray w (fun v w1 => v = (.tuple [(.agg ⟨(List.replicate 32 (0 : UInt8)).map vu8⟩), (vi 1)].toArray) ∧ Chg w w1 []) := by
  refine Cs.of (n := 24) (args := [(.pointer (some ⟨bc, 0, none⟩)), (vi dm), (.slice a n cap)]) Try.func20 rfl rfl rfl ?_
  have h_0 := HP.init w
  have h_00 := h_0.old hcb (fun f hf => by cases hf)
  refine WP.seq ?_
  refine WP.reg ?_
  refine WL.alloc (segs := [(32, (List.replicate 32 (0 : UInt8)).map vu8)]) h_00 (zv Try.typeInfo23 rfl) rfl (SsOk.cons (SOk.u8 (List.length_replicate ..)) SsOk.nil) rfl (fun b_1 w_2 h_3 => ?_)
  refine WL.q (Wn.no rfl) rfl rfl (R.assign (v := (vi 0)) rfl) ?_
  refine WL.nil ?_
  refine thn_n ?_
  refine WP.seq ?_
  refine WP.seq ?_
  refine WP.reg ?_
  refine WL.q (Wn.no rfl) rfl rfl (R.move (v := (.pointer (some ⟨bc, 0, none⟩))) rfl) ?_
  refine WL.call (al := [(.pointer (some ⟨bc, 0, none⟩))]) Try.call52 rfl rfl (c_othere_z bc _ (h_3.argR (.tail _ (.head _)))) rfl ?_
  rintro _ w_5 ⟨rfl, hc_4⟩
  have h_6 := h_3.same hc_4
  refine WL.q (Wn.no rfl) rfl rfl (R.not (b := false) rfl) ?_
  refine WL.nil ?_
  refine thn_n ?_
  refine WP.condT rfl ?_
  refine WP.seq ?_
  refine WP.reg ?_
  refine WL.q (Wn.no rfl) rfl rfl (R.buildA (vs := []) (cs := (List.replicate 32 (0 : UInt8)).map vu8) Try.underlying23 Try.sizeOf5 (zv Try.typeInfo23 rfl) rfl rfl) ?_
  refine WL.storeA (b := b_1) (off := 0) [] [(32, (List.replicate 32 (0 : UInt8)).map vu8)] [(32, (List.replicate 32 (0 : UInt8)).map vu8)] [] (ys := (List.replicate 32 (0 : UInt8)).map vu8) h_6 rfl rfl Try.sizeOf23 At.h (by decide) rfl rfl rfl rfl rfl rfl (SsOk.cons (SOk.u8 (List.length_replicate ..)) SsOk.nil) (fun w_7 h_8 => ?_)
  refine WL.q (Wn.no rfl) rfl rfl (R.assign (v := (vi 1)) rfl) ?_
  refine WL.nil ?_
  refine thn_n ?_
  refine WP.ret ?_
  refine thn_r ?_
  refine ret_of Try.results20 (RV.cell rfl (h_8.loadA (cs := (List.replicate 32 (0 : UInt8)).map vu8) Try.isAgg23 Try.sizeOf23 (.head _) rfl rfl) (RV.tmp (v := (vi 1)) rfl RV.nil)) ?_
  exact ⟨rfl, h_8.chgS⟩

theorem c_oKey {w00 : World} {L : List Ent} (ob mp : Nat) (ms df : List UInt8) (hms : ms.length = 32) (da : Option Addr) (dn dc u : Nat) (hdf : df.length = 32 * dn) (la : Option Addr) (lc : Nat) (lx : List Value) (lg : Lg) (hu : u ≤ 1000000) (hlg : lg.length ≤ 1000000) (a : Option Addr) (n cap : Nat) (xs : List Value) (ls : List (List UInt8)) (hln : ls.length = n) (dm : Int) (hdm : 1 ≤ dm ∧ dm ≤ 16) (hb : ls.flatten.length ≤ 1000000000) (hnb : n ≤ 1000000) (w : World) (h_0 : HP w00 w (Ent.blk ob .nw 50 [(1, [(.bool true)]), (32, ms.map vu8), (1, [(.slice da dn dc)]), (1, [(vi ((u : Nat) : Int))]), (1, [(.map (some mp))]), (1, [(.slice la lg.length lc)])] :: Ent.row la lg.length lc 111 67 lx :: Ent.obj mp .nw (.map (mArr lg) lg.length) :: Ent.pin (sblks lx) (fun w => Lgs w lx lg) :: Ent.view da (df.map vu8) :: Ent.pin (sblks xs) (fun w => Sls w xs ls) :: Ent.view a xs :: L)) :
    Cs Try.prog 20 [(.pointer (some ⟨ob, 0, none⟩)), (vi dm), (.slice a n cap)].toArray w (fun v w1 => ∃ la' lc' lx', v = (.tuple [(.agg ⟨(ansD df dn u lg (3, ms, dm, ls.flatten)).map vu8⟩), (vi 0)].toArray) ∧ HP w00 w1 (Ent.blk ob .nw 50 [(1, [(.bool true)]), (32, ms.map vu8), (1, [(.slice da dn dc)]), (1, [(vi (((ansU u lg (3, ms, dm, ls.flatten)) : Nat) : Int))]), (1, [(.map (some mp))]), (1, [(.slice la' ((ansL df dn u lg (3, ms, dm, ls.flatten)).length) lc')])] :: Ent.row la' ((ansL df dn u lg (3, ms, dm, ls.flatten)).length) lc' 111 67 lx' :: Ent.obj mp .nw (.map (mArr (ansL df dn u lg (3, ms, dm, ls.flatten))) ((ansL df dn u lg (3, ms, dm, ls.flatten)).length)) :: Ent.pin (sblks lx') (fun w => Lgs w lx' (ansL df dn u lg (3, ms, dm, ls.flatten))) :: Ent.view da (df.map vu8) :: Ent.pin (sblks xs) (fun w => Sls w xs ls) :: Ent.view a xs :: L)) := by
  have hxs := (h_0.ok _ (.tail _ (.tail _ (.tail _ (.tail _ (.tail _ (.head _))))))).1
  have hxl : xs.length = n := (Sls.len hxs).trans hln
  refine Cs.of (n := 24) (args := [(.pointer (some ⟨ob, 0, none⟩)), (vi dm), (.slice a n cap)]) Try.func20 rfl rfl rfl ?_
  refine WP.seq ?_
  refine WP.reg ?_
  refine WL.alloc (segs := [(32, (List.replicate 32 (0 : UInt8)).map vu8)]) h_0 (zv Try.typeInfo23 rfl) rfl (SsOk.cons (SOk.u8 (List.length_replicate ..)) SsOk.nil) rfl (fun b_1 w_2 h_3 => ?_)
  refine WL.q (Wn.no rfl) rfl rfl (R.assign (v := (vi 0)) rfl) ?_
  refine WL.nil ?_
  refine thn_n ?_
  refine WP.seq ?_
  refine WP.seq ?_
  refine WP.reg ?_
  refine WL.q (Wn.no rfl) rfl rfl (R.move (v := (.pointer (some ⟨ob, 0, none⟩))) rfl) ?_
  refine WL.call (al := [(.pointer (some ⟨ob, 0, none⟩))]) Try.call52 rfl rfl (c_othere ob mp ms hms da dn dc u la lg.length lc _ (h_3.argR (.tail _ (.head _)))) rfl ?_
  rintro _ w_5 ⟨rfl, hc_4⟩
  have h_6 := h_3.same hc_4
  refine WL.q (Wn.no rfl) rfl rfl (R.not (b := true) rfl) ?_
  refine WL.nil ?_
  refine thn_n ?_
  refine WP.condF rfl ?_
  refine WP.skip ?_
  refine thn_n ?_
  refine WP.seq ?_
  refine WP.cutG (G := Option Addr × Nat × Option Addr × Nat × List Value) [7, 12, 13, 14, 15, 16, 17, 18, 19, 20, 21, 22, 23] (fun (aY3Y7Y0Y0, capY3Y7Y0Y0, laY3Y9Y0Y0, lcY3Y9Y0Y0, lxY3Y9Y0Y0) => [(7, (vi 0)), (12, (.pointer (some ⟨ob, 0, none⟩))), (13, (.pointer (some ⟨ob, 0, none⟩))), (14, (.pointer (some ⟨ob, 0, none⟩))), (15, (.pointer (some ⟨ob, 1, none⟩))), (17, (vi dm)), (18, (.slice a n cap)), (16, (.agg ⟨ms.map vu8⟩)), (19, (.slice aY3Y7Y0Y0 ls.flatten.length capY3Y7Y0Y0)), (20, (.agg ⟨flat [(1, [(vi 3)]), (32, ms.map vu8), (1, [(vi dm)]), (1, [(.slice aY3Y7Y0Y0 ls.flatten.length capY3Y7Y0Y0)])]⟩)), (21, (.tuple [(.agg ⟨(ansD df dn u lg (3, ms, dm, ls.flatten)).map vu8⟩), (vi 0)].toArray)), (22, (.agg ⟨(ansD df dn u lg (3, ms, dm, ls.flatten)).map vu8⟩)), (23, (vi 0))]) (fun (aY3Y7Y0Y0, capY3Y7Y0Y0, laY3Y9Y0Y0, lcY3Y9Y0Y0, lxY3Y9Y0Y0) w1 => HP w00 w1 (Ent.blk ob .nw 50 [(1, [(.bool true)]), (32, ms.map vu8), (1, [(.slice da dn dc)]), (1, [(vi ((ansU u lg (3, ms, dm, ls.flatten) : Nat) : Int))]), (1, [(.map (some mp))]), (1, [(.slice laY3Y9Y0Y0 ((ansL df dn u lg (3, ms, dm, ls.flatten)).length) lcY3Y9Y0Y0)])] :: Ent.row laY3Y9Y0Y0 ((ansL df dn u lg (3, ms, dm, ls.flatten)).length) lcY3Y9Y0Y0 111 67 lxY3Y9Y0Y0 :: Ent.obj mp .nw (.map (mArr (ansL df dn u lg (3, ms, dm, ls.flatten))) ((ansL df dn u lg (3, ms, dm, ls.flatten)).length)) :: Ent.pin (sblks lxY3Y9Y0Y0) (fun w => Lgs w lxY3Y9Y0Y0 (ansL df dn u lg (3, ms, dm, ls.flatten))) :: Ent.view da (df.map vu8) :: Ent.view aY3Y7Y0Y0 (ls.flatten.map vu8) :: Ent.blk b_1 .nw 23 [(32, (ansD df dn u lg (3, ms, dm, ls.flatten)).map vu8)] :: Ent.pin (sblks xs) (fun w => Sls w xs ls) :: Ent.view a xs :: L)) ?_ ?_
  · refine WP.drawT (SL w00.heap.size [.pin (sblks xs) (fun w => Sls w xs ls), .view a xs]) (.q 0 (.q 1 (.q 2 (.q 3 (.q 5 (.q 6 (.s2 4 7 (.s 7 (.q 8 (.s 9 (.q 10 (.q 11 (.s 12 (.q 13 .nil))))))) (.s 4 (.q 8 (.s 9 (.q 10 (.q 11 (.s 12 (.q 13 .nil)))))))))))))) (by kernel_rfl) (by kernel_rfl) rfl (by kernel_rfl) (fun w_7 hc_9 => (SL.cons ((h_6.same hc_9).ok _ (.tail _ (.tail _ (.tail _ (.tail _ (.tail _ (.tail _ (.head _)))))))) (SL.cons ((h_6.same hc_9).ok _ (.tail _ (.tail _ (.tail _ (.tail _ (.tail _ (.tail _ (.tail _ (.head _))))))))) (SL.nil _ _)))) (fun w_7 hc_9 => ?_)
    have h_8 := h_6.same hc_9
    refine WT.q rfl (Wn.no rfl) rfl rfl (fun wq hS => R.move (v := (.pointer (some ⟨ob, 0, none⟩))) rfl) ?_
    refine WT.q rfl (Wn.no rfl) rfl rfl (fun wq hS => R.move (v := (.pointer (some ⟨ob, 0, none⟩))) rfl) ?_
    refine WT.q rfl (Wn.no rfl) rfl rfl (fun wq hS => R.nilCheck rfl) ?_
    refine WT.q rfl (Wn.no rfl) rfl rfl (fun wq hS => R.fieldAddr (b := ob) (off := 0) (off' := 1) rfl Try.underlying50 rfl Try.sizeOf23 rfl rfl) ?_
    refine WT.q rfl (Wn.no rfl) rfl rfl (fun wq hS => R.move (v := (vi dm)) rfl) ?_
    refine WT.q rfl (Wn.no rfl) rfl rfl (fun wq hS => R.move (v := (.slice a n cap)) rfl) ?_
    refine WT.s2 ?_ ?_
    · refine Op1.one rfl (Wn.no rfl) ?_
      refine WL.q (Wn.no rfl) rfl rfl (R.loadA (b := ob) (off := 1) [(1, [(.bool true)])] [(32, ms.map vu8)] [(1, [(.slice da dn dc)]), (1, [(vi ((u : Nat) : Int))]), (1, [(.map (some mp))]), (1, [(.slice la lg.length lc)])] (cs := ms.map vu8) rfl Try.isAgg23 Try.sizeOf23 (h_8.ok _ (.tail _ (.head _))) rfl rfl rfl rfl) ?_
      refine WL.nil ?_
      refine ⟨(SL.cons (h_8.ok _ (.tail _ (.tail _ (.tail _ (.tail _ (.tail _ (.tail _ (.head _)))))))) (SL.cons (h_8.ok _ (.tail _ (.tail _ (.tail _ (.tail _ (.tail _ (.tail _ (.tail _ (.head _))))))))) (SL.nil _ _))), ?_⟩
      refine WT.s ?_
      refine Op1.one rfl (Wn.no rfl) ?_
      refine WL.call (al := [(.slice a n cap)]) Try.call53 rfl rfl (c_joined a n cap xs ls hln (by omega) (by omega) _ (viewV (h_8.ok _ (.tail _ (.tail _ (.tail _ (.tail _ (.tail _ (.tail _ (.tail _ (.head _)))))))))) (h_8.ok _ (.tail _ (.tail _ (.tail _ (.tail _ (.tail _ (.tail _ (.head _)))))))).1) rfl ?_
      rintro _ w_12 ⟨a_10, cap_11, rfl, hc_13, ho_14⟩
      have h_15 := h_8.gotRow hc_13 ho_14
      refine WL.nil ?_
      refine ⟨(SL.cons (h_15.ok _ (.tail _ (.tail _ (.tail _ (.tail _ (.tail _ (.tail _ (.tail _ (.head _))))))))) (SL.cons (h_15.ok _ (.tail _ (.tail _ (.tail _ (.tail _ (.tail _ (.tail _ (.tail _ (.tail _ (.head _)))))))))) (SL.nil _ _))), ?_⟩
      refine WT.q rfl (Wn.no rfl) rfl rfl (fun wq hS => R.buildS (pl := [(0, 1), (1, 32), (33, 1), (34, 1)]) (zs := [(1, [(vi 0)]), (32, (List.replicate 32 (0 : UInt8)).map vu8), (1, [(vi 0)]), (1, [(.slice none 0 0)])]) (vs := [(0, (vi 3)), (1, (.agg ⟨ms.map vu8⟩)), (2, (vi dm)), (3, (.slice a_10 ls.flatten.length cap_11))]) (out := [(1, [(vi 3)]), (32, ms.map vu8), (1, [(vi dm)]), (1, [(.slice a_10 ls.flatten.length cap_11)])]) (cs := flat [(1, [(vi 3)]), (32, ms.map vu8), (1, [(vi dm)]), (1, [(.slice a_10 ls.flatten.length cap_11)])]) Try.underlying103 (zv Try.typeInfo103 rfl) rfl (SsOk.cons (SOk.v rfl) (SsOk.cons (SOk.u8 (List.length_replicate ..)) (SsOk.cons (SOk.v rfl) (SsOk.cons (SOk.v rfl) SsOk.nil)))) (pl103 _ Try.underlying103) rfl (FillR.cons [] [(1, [(vi 0)])] [(1, [(vi 3)])] [(32, (List.replicate 32 (0 : UInt8)).map vu8), (1, [(vi 0)]), (1, [(.slice none 0 0)])] rfl rfl rfl rfl (SsOk.cons (SOk.v rfl) SsOk.nil) rfl rfl rfl (FillR.cons [(1, [(vi 3)])] [(32, (List.replicate 32 (0 : UInt8)).map vu8)] [(32, ms.map vu8)] [(1, [(vi 0)]), (1, [(.slice none 0 0)])] rfl rfl rfl rfl (SsOk.cons (SOk.u8 hms) SsOk.nil) rfl rfl rfl (FillR.cons [(1, [(vi 3)]), (32, ms.map vu8)] [(1, [(vi 0)])] [(1, [(vi dm)])] [(1, [(.slice none 0 0)])] rfl rfl rfl rfl (SsOk.cons (SOk.v rfl) SsOk.nil) rfl rfl rfl (FillR.cons [(1, [(vi 3)]), (32, ms.map vu8), (1, [(vi dm)])] [(1, [(.slice none 0 0)])] [(1, [(.slice a_10 ls.flatten.length cap_11)])] [] rfl rfl rfl rfl (SsOk.cons (SOk.v rfl) SsOk.nil) rfl rfl rfl FillR.nil)))) rfl) ?_
      refine WT.s ?_
      refine Op1.one rfl (Wn.no rfl) ?_
      have h_17 := h_15.rowView
      have h_18 := h_17.up (Pick.t (Pick.t (Pick.t (Pick.t (Pick.t (Pick.t Pick.h))))))
      have h_19 := h_18.up (Pick.t (Pick.t (Pick.t (Pick.t (Pick.t (Pick.t Pick.h))))))
      have h_20 := h_19.up (Pick.t (Pick.t (Pick.t (Pick.t (Pick.t (Pick.t Pick.h))))))
      have h_21 := h_20.up (Pick.t (Pick.t (Pick.t (Pick.t (Pick.t (Pick.t Pick.h))))))
      have h_22 := h_21.up (Pick.t (Pick.t (Pick.t (Pick.t (Pick.t (Pick.t Pick.h))))))
      have h32_w_26 := (Lgs.ok32 (h_22.ok _ (.tail _ (.tail _ (.tail _ (.head _))))).1)
      refine WL.call (al := [(.pointer (some ⟨ob, 0, none⟩)), (.agg ⟨flat [(1, [(vi 3)]), (32, ms.map vu8), (1, [(vi dm)]), (1, [(.slice a_10 ls.flatten.length cap_11)])]⟩)]) Try.call48 rfl rfl (c_oAsk ob mp ms df hms da dn dc u hdf la lc lx lg hu hlg 3 dm ms ls.flatten a_10 ls.flatten.length cap_11 ⟨hms, by show (1 : Int) ≤ 3 ∧ (3 : Int) ≤ 4; omega, by show (1 : Int) ≤ dm ∧ (dm : Int) ≤ 16; omega, by show List.length ls.flatten ≤ 1000000000; first | decide | (simp only [List.length_append, leN_len]; omega) | omega⟩ (rfl : List.length ls.flatten = ls.flatten.length) (by decide) (fun h => by omega) _ h_22) rfl ?_
      rintro _ w_26 ⟨la_23, lc_24, lx_25, rfl, h_27⟩
      refine WL.nil ?_
      refine ⟨(SL.cons (h_27.ok _ (.tail _ (.tail _ (.tail _ (.tail _ (.tail _ (.tail _ (.tail _ (.head _))))))))) (SL.cons (h_27.ok _ (.tail _ (.tail _ (.tail _ (.tail _ (.tail _ (.tail _ (.tail _ (.tail _ (.head _)))))))))) (SL.nil _ _))), ?_⟩
      refine WT.q rfl (Wn.no rfl) rfl rfl (fun wq hS => R.extract (l := [(.agg ⟨(ansD df dn u lg (3, ms, dm, ls.flatten)).map vu8⟩), (vi 0)]) (v := (.agg ⟨(ansD df dn u lg (3, ms, dm, ls.flatten)).map vu8⟩)) rfl rfl) ?_
      refine WT.q rfl (Wn.no rfl) rfl rfl (fun wq hS => R.extract (l := [(.agg ⟨(ansD df dn u lg (3, ms, dm, ls.flatten)).map vu8⟩), (vi 0)]) (v := (vi 0)) rfl rfl) ?_
      refine WT.s ?_
      refine Op1.one rfl (Wn.no rfl) ?_
      refine WL.storeA (b := b_1) (off := 0) [] [(32, (List.replicate 32 (0 : UInt8)).map vu8)] [(32, (ansD df dn u lg (3, ms, dm, ls.flatten)).map vu8)] [] (ys := (ansD df dn u lg (3, ms, dm, ls.flatten)).map vu8) h_27 rfl rfl Try.sizeOf23 (At.t (At.t (At.t (At.t (At.t (At.t At.h)))))) (by decide) rfl rfl rfl rfl rfl rfl (SsOk.cons (SOk.u8 (ansD_len hdf h32_w_26)) SsOk.nil) (fun w_28 h_29 => ?_)
      refine WL.nil ?_
      refine ⟨(SL.cons (h_29.ok _ (.tail _ (.tail _ (.tail _ (.tail _ (.tail _ (.tail _ (.tail _ (.head _))))))))) (SL.cons (h_29.ok _ (.tail _ (.tail _ (.tail _ (.tail _ (.tail _ (.tail _ (.tail _ (.tail _ (.head _)))))))))) (SL.nil _ _))), ?_⟩
      refine WT.q rfl (Wn.no rfl) rfl rfl (fun wq hS => R.assign (v := (vi 0)) rfl) ?_
      refine WT.nil ?_
      refine thn_n ?_
      exact ⟨(a_10, cap_11, la_23, lc_24, lx_25), (Ag.upd rfl (Ag.upd rfl (Ag.upd rfl (Ag.upd rfl (Ag.upd rfl (Ag.upd rfl (Ag.upd rfl (Ag.upd rfl (Ag.upd rfl (Ag.upd rfl (Ag.upd rfl (Ag.upd rfl (Ag.upd rfl (Ag.refl _ _)))))))))))))), ⟨rfl, rfl, rfl, rfl, rfl, rfl, rfl, rfl, rfl, rfl, rfl, rfl, rfl, trivial⟩, h_29⟩
    · refine Op1.one rfl (Wn.no rfl) ?_
      refine WL.call (al := [(.slice a n cap)]) Try.call53 rfl rfl (c_joined a n cap xs ls hln (by omega) (by omega) _ (viewV (h_8.ok _ (.tail _ (.tail _ (.tail _ (.tail _ (.tail _ (.tail _ (.tail _ (.head _)))))))))) (h_8.ok _ (.tail _ (.tail _ (.tail _ (.tail _ (.tail _ (.tail _ (.head _)))))))).1) rfl ?_
      rintro _ w_32 ⟨a_30, cap_31, rfl, hc_33, ho_34⟩
      have h_35 := h_8.gotRow hc_33 ho_34
      refine WL.nil ?_
      refine ⟨(SL.cons (h_35.ok _ (.tail _ (.tail _ (.tail _ (.tail _ (.tail _ (.tail _ (.tail _ (.head _))))))))) (SL.cons (h_35.ok _ (.tail _ (.tail _ (.tail _ (.tail _ (.tail _ (.tail _ (.tail _ (.tail _ (.head _)))))))))) (SL.nil _ _))), ?_⟩
      refine WT.s ?_
      refine Op1.one rfl (Wn.no rfl) ?_
      refine WL.q (Wn.no rfl) rfl rfl (R.loadA (b := ob) (off := 1) [(1, [(.bool true)])] [(32, ms.map vu8)] [(1, [(.slice da dn dc)]), (1, [(vi ((u : Nat) : Int))]), (1, [(.map (some mp))]), (1, [(.slice la lg.length lc)])] (cs := ms.map vu8) rfl Try.isAgg23 Try.sizeOf23 (h_35.ok _ (.tail _ (.tail _ (.head _)))) rfl rfl rfl rfl) ?_
      refine WL.nil ?_
      refine ⟨(SL.cons (h_35.ok _ (.tail _ (.tail _ (.tail _ (.tail _ (.tail _ (.tail _ (.tail _ (.head _))))))))) (SL.cons (h_35.ok _ (.tail _ (.tail _ (.tail _ (.tail _ (.tail _ (.tail _ (.tail _ (.tail _ (.head _)))))))))) (SL.nil _ _))), ?_⟩
      refine WT.q rfl (Wn.no rfl) rfl rfl (fun wq hS => R.buildS (pl := [(0, 1), (1, 32), (33, 1), (34, 1)]) (zs := [(1, [(vi 0)]), (32, (List.replicate 32 (0 : UInt8)).map vu8), (1, [(vi 0)]), (1, [(.slice none 0 0)])]) (vs := [(0, (vi 3)), (1, (.agg ⟨ms.map vu8⟩)), (2, (vi dm)), (3, (.slice a_30 ls.flatten.length cap_31))]) (out := [(1, [(vi 3)]), (32, ms.map vu8), (1, [(vi dm)]), (1, [(.slice a_30 ls.flatten.length cap_31)])]) (cs := flat [(1, [(vi 3)]), (32, ms.map vu8), (1, [(vi dm)]), (1, [(.slice a_30 ls.flatten.length cap_31)])]) Try.underlying103 (zv Try.typeInfo103 rfl) rfl (SsOk.cons (SOk.v rfl) (SsOk.cons (SOk.u8 (List.length_replicate ..)) (SsOk.cons (SOk.v rfl) (SsOk.cons (SOk.v rfl) SsOk.nil)))) (pl103 _ Try.underlying103) rfl (FillR.cons [] [(1, [(vi 0)])] [(1, [(vi 3)])] [(32, (List.replicate 32 (0 : UInt8)).map vu8), (1, [(vi 0)]), (1, [(.slice none 0 0)])] rfl rfl rfl rfl (SsOk.cons (SOk.v rfl) SsOk.nil) rfl rfl rfl (FillR.cons [(1, [(vi 3)])] [(32, (List.replicate 32 (0 : UInt8)).map vu8)] [(32, ms.map vu8)] [(1, [(vi 0)]), (1, [(.slice none 0 0)])] rfl rfl rfl rfl (SsOk.cons (SOk.u8 hms) SsOk.nil) rfl rfl rfl (FillR.cons [(1, [(vi 3)]), (32, ms.map vu8)] [(1, [(vi 0)])] [(1, [(vi dm)])] [(1, [(.slice none 0 0)])] rfl rfl rfl rfl (SsOk.cons (SOk.v rfl) SsOk.nil) rfl rfl rfl (FillR.cons [(1, [(vi 3)]), (32, ms.map vu8), (1, [(vi dm)])] [(1, [(.slice none 0 0)])] [(1, [(.slice a_30 ls.flatten.length cap_31)])] [] rfl rfl rfl rfl (SsOk.cons (SOk.v rfl) SsOk.nil) rfl rfl rfl FillR.nil)))) rfl) ?_
      refine WT.s ?_
      refine Op1.one rfl (Wn.no rfl) ?_
      have h_37 := h_35.rowView
      have h_38 := h_37.up (Pick.t (Pick.t (Pick.t (Pick.t (Pick.t (Pick.t Pick.h))))))
      have h_39 := h_38.up (Pick.t (Pick.t (Pick.t (Pick.t (Pick.t (Pick.t Pick.h))))))
      have h_40 := h_39.up (Pick.t (Pick.t (Pick.t (Pick.t (Pick.t (Pick.t Pick.h))))))
      have h_41 := h_40.up (Pick.t (Pick.t (Pick.t (Pick.t (Pick.t (Pick.t Pick.h))))))
      have h_42 := h_41.up (Pick.t (Pick.t (Pick.t (Pick.t (Pick.t (Pick.t Pick.h))))))
      have h32_w_46 := (Lgs.ok32 (h_42.ok _ (.tail _ (.tail _ (.tail _ (.head _))))).1)
      refine WL.call (al := [(.pointer (some ⟨ob, 0, none⟩)), (.agg ⟨flat [(1, [(vi 3)]), (32, ms.map vu8), (1, [(vi dm)]), (1, [(.slice a_30 ls.flatten.length cap_31)])]⟩)]) Try.call48 rfl rfl (c_oAsk ob mp ms df hms da dn dc u hdf la lc lx lg hu hlg 3 dm ms ls.flatten a_30 ls.flatten.length cap_31 ⟨hms, by show (1 : Int) ≤ 3 ∧ (3 : Int) ≤ 4; omega, by show (1 : Int) ≤ dm ∧ (dm : Int) ≤ 16; omega, by show List.length ls.flatten ≤ 1000000000; first | decide | (simp only [List.length_append, leN_len]; omega) | omega⟩ (rfl : List.length ls.flatten = ls.flatten.length) (by decide) (fun h => by omega) _ h_42) rfl ?_
      rintro _ w_46 ⟨la_43, lc_44, lx_45, rfl, h_47⟩
      refine WL.nil ?_
      refine ⟨(SL.cons (h_47.ok _ (.tail _ (.tail _ (.tail _ (.tail _ (.tail _ (.tail _ (.tail _ (.head _))))))))) (SL.cons (h_47.ok _ (.tail _ (.tail _ (.tail _ (.tail _ (.tail _ (.tail _ (.tail _ (.tail _ (.head _)))))))))) (SL.nil _ _))), ?_⟩
      refine WT.q rfl (Wn.no rfl) rfl rfl (fun wq hS => R.extract (l := [(.agg ⟨(ansD df dn u lg (3, ms, dm, ls.flatten)).map vu8⟩), (vi 0)]) (v := (.agg ⟨(ansD df dn u lg (3, ms, dm, ls.flatten)).map vu8⟩)) rfl rfl) ?_
      refine WT.q rfl (Wn.no rfl) rfl rfl (fun wq hS => R.extract (l := [(.agg ⟨(ansD df dn u lg (3, ms, dm, ls.flatten)).map vu8⟩), (vi 0)]) (v := (vi 0)) rfl rfl) ?_
      refine WT.s ?_
      refine Op1.one rfl (Wn.no rfl) ?_
      refine WL.storeA (b := b_1) (off := 0) [] [(32, (List.replicate 32 (0 : UInt8)).map vu8)] [(32, (ansD df dn u lg (3, ms, dm, ls.flatten)).map vu8)] [] (ys := (ansD df dn u lg (3, ms, dm, ls.flatten)).map vu8) h_47 rfl rfl Try.sizeOf23 (At.t (At.t (At.t (At.t (At.t (At.t At.h)))))) (by decide) rfl rfl rfl rfl rfl rfl (SsOk.cons (SOk.u8 (ansD_len hdf h32_w_46)) SsOk.nil) (fun w_48 h_49 => ?_)
      refine WL.nil ?_
      refine ⟨(SL.cons (h_49.ok _ (.tail _ (.tail _ (.tail _ (.tail _ (.tail _ (.tail _ (.tail _ (.head _))))))))) (SL.cons (h_49.ok _ (.tail _ (.tail _ (.tail _ (.tail _ (.tail _ (.tail _ (.tail _ (.tail _ (.head _)))))))))) (SL.nil _ _))), ?_⟩
      refine WT.q rfl (Wn.no rfl) rfl rfl (fun wq hS => R.assign (v := (vi 0)) rfl) ?_
      refine WT.nil ?_
      refine thn_n ?_
      exact ⟨(a_30, cap_31, la_43, lc_44, lx_45), (Ag.upd rfl (Ag.upd rfl (Ag.upd rfl (Ag.upd rfl (Ag.upd rfl (Ag.upd rfl (Ag.upd rfl (Ag.upd rfl (Ag.upd rfl (Ag.upd rfl (Ag.upd rfl (Ag.upd rfl (Ag.upd rfl (Ag.refl _ _)))))))))))))), ⟨rfl, rfl, rfl, rfl, rfl, rfl, rfl, rfl, rfl, rfl, rfl, rfl, rfl, trivial⟩, h_49⟩
  · rintro ⟨a_53, cap_54, la_55, lc_56, lx_57⟩ J_50 w_51 h_52
    refine thn_n ?_
    refine WP.ret ?_
    refine ret_of Try.results20 (RV.cell rfl (h_52.loadA (cs := (ansD df dn u lg (3, ms, dm, ls.flatten)).map vu8) Try.isAgg23 Try.sizeOf23 (.tail _ (.tail _ (.tail _ (.tail _ (.tail _ (.tail _ (.head _))))))) rfl rfl) (RV.tmp (v := (vi 0)) rfl RV.nil)) ?_
    have h_58 := h_52.up (Pick.t (Pick.t (Pick.t (Pick.t (Pick.t Pick.h)))))
    have h_59 := h_58.drop rfl
    have h_60 := h_59.up (Pick.t (Pick.t (Pick.t (Pick.t (Pick.t Pick.h)))))
    have h_61 := h_60.drop rfl
    have h_62 := h_61.up (Pick.t (Pick.t (Pick.t (Pick.t (Pick.t (Pick.t Pick.h))))))
    have h_63 := h_62.up (Pick.t (Pick.t (Pick.t (Pick.t (Pick.t (Pick.t Pick.h))))))
    have h_64 := h_63.up (Pick.t (Pick.t (Pick.t (Pick.t (Pick.t (Pick.t Pick.h))))))
    have h_65 := h_64.up (Pick.t (Pick.t (Pick.t (Pick.t (Pick.t (Pick.t Pick.h))))))
    have h_66 := h_65.up (Pick.t (Pick.t (Pick.t (Pick.t (Pick.t (Pick.t Pick.h))))))
    have h_67 := h_66.up (Pick.t (Pick.t (Pick.t (Pick.t (Pick.t (Pick.t Pick.h))))))
    have h_68 := h_67.up (Pick.t (Pick.t (Pick.t (Pick.t (Pick.t (Pick.t Pick.h))))))
    exact ⟨_, _, _, rfl, h_68⟩

theorem c_oTag {w00 : World} {L : List Ent} (ob mp : Nat) (ms df : List UInt8) (hms : ms.length = 32) (da : Option Addr) (dn dc u : Nat) (hdf : df.length = 32 * dn) (la : Option Addr) (lc : Nat) (lx : List Value) (lg : Lg) (hu : u ≤ 1000000) (hlg : lg.length ≤ 1000000) (a : Option Addr) (n cap : Nat) (xs : List Value) (ls : List (List UInt8)) (hln : ls.length = n) (key : List UInt8) (hk : key.length = 32) (dm : Int) (hdm : 1 ≤ dm ∧ dm ≤ 16) (hb : ls.flatten.length ≤ 1000000000) (hnb : n ≤ 1000000) (w : World) (h_0 : HP w00 w (Ent.blk ob .nw 50 [(1, [(.bool true)]), (32, ms.map vu8), (1, [(.slice da dn dc)]), (1, [(vi ((u : Nat) : Int))]), (1, [(.map (some mp))]), (1, [(.slice la lg.length lc)])] :: Ent.row la lg.length lc 111 67 lx :: Ent.obj mp .nw (.map (mArr lg) lg.length) :: Ent.pin (sblks lx) (fun w => Lgs w lx lg) :: Ent.view da (df.map vu8) :: Ent.pin (sblks xs) (fun w => Sls w xs ls) :: Ent.view a xs :: L)) :
    Cs Try.prog 21 [(.pointer (some ⟨ob, 0, none⟩)), (.agg ⟨key.map vu8⟩), (vi dm), (.slice a n cap)].toArray w (fun v w1 => ∃ la' lc' lx', v = (.tuple [(.agg ⟨(ansD df dn u lg (2, key, dm, ls.flatten)).map vu8⟩), (vi 0)].toArray) ∧ HP w00 w1 (Ent.blk ob .nw 50 [(1, [(.bool true)]), (32, ms.map vu8), (1, [(.slice da dn dc)]), (1, [(vi (((ansU u lg (2, key, dm, ls.flatten)) : Nat) : Int))]), (1, [(.map (some mp))]), (1, [(.slice la' ((ansL df dn u lg (2, key, dm, ls.flatten)).length) lc')])] :: Ent.row la' ((ansL df dn u lg (2, key, dm, ls.flatten)).length) lc' 111 67 lx' :: Ent.obj mp .nw (.map (mArr (ansL df dn u lg (2, key, dm, ls.flatten))) ((ansL df dn u lg (2, key, dm, ls.flatten)).length)) :: Ent.pin (sblks lx') (fun w => Lgs w lx' (ansL df dn u lg (2, key, dm, ls.flatten))) :: Ent.view da (df.map vu8) :: Ent.pin (sblks xs) (fun w => Sls w xs ls) :: Ent.view a xs :: L)) := by
  have hxs := (h_0.ok _ (.tail _ (.tail _ (.tail _ (.tail _ (.tail _ (.head _))))))).1
  have hxl : xs.length = n := (Sls.len hxs).trans hln
  refine Cs.of (n := 19) (args := [(.pointer (some ⟨ob, 0, none⟩)), (.agg ⟨key.map vu8⟩), (vi dm), (.slice a n cap)]) Try.func21 rfl rfl rfl ?_
  refine WP.seq ?_
  refine WP.reg ?_
  refine WL.box (v := (.agg ⟨key.map vu8⟩)) (segs := [(32, key.map vu8)]) h_0 rfl rfl (SsOk.cons (SOk.u8 hk) SsOk.nil) rfl (fun b_1 w_2 h_3 => ?_)
  refine WL.alloc (segs := [(32, (List.replicate 32 (0 : UInt8)).map vu8)]) h_3 (zv Try.typeInfo23 rfl) rfl (SsOk.cons (SOk.u8 (List.length_replicate ..)) SsOk.nil) rfl (fun b_4 w_5 h_6 => ?_)
  refine WL.q (Wn.no rfl) rfl rfl (R.assign (v := (vi 0)) rfl) ?_
  refine WL.nil ?_
  refine thn_n ?_
  refine WP.seq ?_
  refine WP.drawT (SL w00.heap.size [.blk b_1 .nw 23 [(32, key.map vu8)], .pin (sblks xs) (fun w => Sls w xs ls), .view a xs]) (.q 0 (.q 1 (.q 2 (.q 3 (.s 4 (.q 5 (.s 6 (.q 7 (.q 8 (.s 9 (.q 10 .nil))))))))))) (by kernel_rfl) (by kernel_rfl) rfl (by kernel_rfl) (fun w_7 hc_9 => (SL.cons ((h_6.same hc_9).ok _ (.tail _ (.head _))) (SL.cons ((h_6.same hc_9).ok _ (.tail _ (.tail _ (.tail _ (.tail _ (.tail _ (.tail _ (.tail _ (.head _))))))))) (SL.cons ((h_6.same hc_9).ok _ (.tail _ (.tail _ (.tail _ (.tail _ (.tail _ (.tail _ (.tail _ (.tail _ (.head _)))))))))) (SL.nil _ _))))) (fun w_7 hc_9 => ?_)
  have h_8 := h_6.same hc_9
  refine WT.q rfl (Wn.no rfl) rfl rfl (fun wq hS => R.move (v := (.pointer (some ⟨ob, 0, none⟩))) rfl) ?_
  refine WT.q rfl (Wn.no rfl) rfl rfl (fun wq hS => R.loadA (b := b_1) (off := 0) [] [(32, key.map vu8)] [] (cs := key.map vu8) rfl Try.isAgg23 Try.sizeOf23 (hS _ (.head _)) rfl rfl rfl rfl) ?_
  refine WT.q rfl (Wn.no rfl) rfl rfl (fun wq hS => R.move (v := (vi dm)) rfl) ?_
  refine WT.q rfl (Wn.no rfl) rfl rfl (fun wq hS => R.move (v := (.slice a n cap)) rfl) ?_
  refine WT.s ?_
  refine Op1.one rfl (Wn.no rfl) ?_
  refine WL.call (al := [(.slice a n cap)]) Try.call53 rfl rfl (c_joined a n cap xs ls hln (by omega) (by omega) _ (viewV (h_8.ok _ (.tail _ (.tail _ (.tail _ (.tail _ (.tail _ (.tail _ (.tail _ (.tail _ (.head _))))))))))) (h_8.ok _ (.tail _ (.tail _ (.tail _ (.tail _ (.tail _ (.tail _ (.tail _ (.head _))))))))).1) rfl ?_
  rintro _ w_12 ⟨a_10, cap_11, rfl, hc_13, ho_14⟩
  have h_15 := h_8.gotRow hc_13 ho_14
  refine WL.nil ?_
  refine ⟨(SL.cons (h_15.ok _ (.tail _ (.tail _ (.head _)))) (SL.cons (h_15.ok _ (.tail _ (.tail _ (.tail _ (.tail _ (.tail _ (.tail _ (.tail _ (.tail _ (.head _)))))))))) (SL.cons (h_15.ok _ (.tail _ (.tail _ (.tail _ (.tail _ (.tail _ (.tail _ (.tail _ (.tail _ (.tail _ (.head _))))))))))) (SL.nil _ _)))), ?_⟩
  refine WT.q rfl (Wn.no rfl) rfl rfl (fun wq hS => R.buildS (pl := [(0, 1), (1, 32), (33, 1), (34, 1)]) (zs := [(1, [(vi 0)]), (32, (List.replicate 32 (0 : UInt8)).map vu8), (1, [(vi 0)]), (1, [(.slice none 0 0)])]) (vs := [(0, (vi 2)), (1, (.agg ⟨key.map vu8⟩)), (2, (vi dm)), (3, (.slice a_10 ls.flatten.length cap_11))]) (out := [(1, [(vi 2)]), (32, key.map vu8), (1, [(vi dm)]), (1, [(.slice a_10 ls.flatten.length cap_11)])]) (cs := flat [(1, [(vi 2)]), (32, key.map vu8), (1, [(vi dm)]), (1, [(.slice a_10 ls.flatten.length cap_11)])]) Try.underlying103 (zv Try.typeInfo103 rfl) rfl (SsOk.cons (SOk.v rfl) (SsOk.cons (SOk.u8 (List.length_replicate ..)) (SsOk.cons (SOk.v rfl) (SsOk.cons (SOk.v rfl) SsOk.nil)))) (pl103 _ Try.underlying103) rfl (FillR.cons [] [(1, [(vi 0)])] [(1, [(vi 2)])] [(32, (List.replicate 32 (0 : UInt8)).map vu8), (1, [(vi 0)]), (1, [(.slice none 0 0)])] rfl rfl rfl rfl (SsOk.cons (SOk.v rfl) SsOk.nil) rfl rfl rfl (FillR.cons [(1, [(vi 2)])] [(32, (List.replicate 32 (0 : UInt8)).map vu8)] [(32, key.map vu8)] [(1, [(vi 0)]), (1, [(.slice none 0 0)])] rfl rfl rfl rfl (SsOk.cons (SOk.u8 hk) SsOk.nil) rfl rfl rfl (FillR.cons [(1, [(vi 2)]), (32, key.map vu8)] [(1, [(vi 0)])] [(1, [(vi dm)])] [(1, [(.slice none 0 0)])] rfl rfl rfl rfl (SsOk.cons (SOk.v rfl) SsOk.nil) rfl rfl rfl (FillR.cons [(1, [(vi 2)]), (32, key.map vu8), (1, [(vi dm)])] [(1, [(.slice none 0 0)])] [(1, [(.slice a_10 ls.flatten.length cap_11)])] [] rfl rfl rfl rfl (SsOk.cons (SOk.v rfl) SsOk.nil) rfl rfl rfl FillR.nil)))) rfl) ?_
  refine WT.s ?_
  refine Op1.one rfl (Wn.no rfl) ?_
  have h_17 := h_15.rowView
  have h_18 := h_17.up (Pick.t (Pick.t (Pick.t (Pick.t (Pick.t (Pick.t (Pick.t Pick.h)))))))
  have h_19 := h_18.up (Pick.t (Pick.t (Pick.t (Pick.t (Pick.t (Pick.t (Pick.t Pick.h)))))))
  have h_20 := h_19.up (Pick.t (Pick.t (Pick.t (Pick.t (Pick.t (Pick.t (Pick.t Pick.h)))))))
  have h_21 := h_20.up (Pick.t (Pick.t (Pick.t (Pick.t (Pick.t (Pick.t (Pick.t Pick.h)))))))
  have h_22 := h_21.up (Pick.t (Pick.t (Pick.t (Pick.t (Pick.t (Pick.t (Pick.t Pick.h)))))))
  have h32_w_26 := (Lgs.ok32 (h_22.ok _ (.tail _ (.tail _ (.tail _ (.head _))))).1)
  refine WL.call (al := [(.pointer (some ⟨ob, 0, none⟩)), (.agg ⟨flat [(1, [(vi 2)]), (32, key.map vu8), (1, [(vi dm)]), (1, [(.slice a_10 ls.flatten.length cap_11)])]⟩)]) Try.call48 rfl rfl (c_oAsk ob mp ms df hms da dn dc u hdf la lc lx lg hu hlg 2 dm key ls.flatten a_10 ls.flatten.length cap_11 ⟨hk, by show (1 : Int) ≤ 2 ∧ (2 : Int) ≤ 4; omega, by show (1 : Int) ≤ dm ∧ (dm : Int) ≤ 16; omega, by show List.length ls.flatten ≤ 1000000000; first | decide | (simp only [List.length_append, leN_len]; omega) | omega⟩ (rfl : List.length ls.flatten = ls.flatten.length) (by decide) (fun h => by omega) _ h_22) rfl ?_
  rintro _ w_26 ⟨la_23, lc_24, lx_25, rfl, h_27⟩
  refine WL.nil ?_
  refine ⟨(SL.cons (h_27.ok _ (.tail _ (.tail _ (.tail _ (.tail _ (.tail _ (.tail _ (.tail _ (.head _))))))))) (SL.cons (h_27.ok _ (.tail _ (.tail _ (.tail _ (.tail _ (.tail _ (.tail _ (.tail _ (.tail _ (.head _)))))))))) (SL.cons (h_27.ok _ (.tail _ (.tail _ (.tail _ (.tail _ (.tail _ (.tail _ (.tail _ (.tail _ (.tail _ (.head _))))))))))) (SL.nil _ _)))), ?_⟩
  refine WT.q rfl (Wn.no rfl) rfl rfl (fun wq hS => R.extract (l := [(.agg ⟨(ansD df dn u lg (2, key, dm, ls.flatten)).map vu8⟩), (vi 0)]) (v := (.agg ⟨(ansD df dn u lg (2, key, dm, ls.flatten)).map vu8⟩)) rfl rfl) ?_
  refine WT.q rfl (Wn.no rfl) rfl rfl (fun wq hS => R.extract (l := [(.agg ⟨(ansD df dn u lg (2, key, dm, ls.flatten)).map vu8⟩), (vi 0)]) (v := (vi 0)) rfl rfl) ?_
  refine WT.s ?_
  refine Op1.one rfl (Wn.no rfl) ?_
  refine WL.storeA (b := b_4) (off := 0) [] [(32, (List.replicate 32 (0 : UInt8)).map vu8)] [(32, (ansD df dn u lg (2, key, dm, ls.flatten)).map vu8)] [] (ys := (ansD df dn u lg (2, key, dm, ls.flatten)).map vu8) h_27 rfl rfl Try.sizeOf23 (At.t (At.t (At.t (At.t (At.t (At.t At.h)))))) (by decide) rfl rfl rfl rfl rfl rfl (SsOk.cons (SOk.u8 (ansD_len hdf h32_w_26)) SsOk.nil) (fun w_28 h_29 => ?_)
  refine WL.nil ?_
  refine ⟨(SL.cons (h_29.ok _ (.tail _ (.tail _ (.tail _ (.tail _ (.tail _ (.tail _ (.tail _ (.head _))))))))) (SL.cons (h_29.ok _ (.tail _ (.tail _ (.tail _ (.tail _ (.tail _ (.tail _ (.tail _ (.tail _ (.head _)))))))))) (SL.cons (h_29.ok _ (.tail _ (.tail _ (.tail _ (.tail _ (.tail _ (.tail _ (.tail _ (.tail _ (.tail _ (.head _))))))))))) (SL.nil _ _)))), ?_⟩
  refine WT.q rfl (Wn.no rfl) rfl rfl (fun wq hS => R.assign (v := (vi 0)) rfl) ?_
  refine WT.nil ?_
  refine thn_n ?_
  refine WP.ret ?_
  refine ret_of Try.results21 (RV.cell rfl (h_29.loadA (cs := (ansD df dn u lg (2, key, dm, ls.flatten)).map vu8) Try.isAgg23 Try.sizeOf23 (.tail _ (.tail _ (.tail _ (.tail _ (.tail _ (.tail _ (.head _))))))) rfl rfl) (RV.tmp (v := (vi 0)) rfl RV.nil)) ?_
  have h_30 := h_29.up (Pick.t (Pick.t (Pick.t (Pick.t (Pick.t Pick.h)))))
  have h_31 := h_30.drop rfl
  have h_32 := h_31.up (Pick.t (Pick.t (Pick.t (Pick.t (Pick.t Pick.h)))))
  have h_33 := h_32.drop rfl
  have h_34 := h_33.up (Pick.t (Pick.t (Pick.t (Pick.t (Pick.t Pick.h)))))
  have h_35 := h_34.drop rfl
  have h_36 := h_35.up (Pick.t (Pick.t (Pick.t (Pick.t (Pick.t (Pick.t Pick.h))))))
  have h_37 := h_36.up (Pick.t (Pick.t (Pick.t (Pick.t (Pick.t (Pick.t Pick.h))))))
  have h_38 := h_37.up (Pick.t (Pick.t (Pick.t (Pick.t (Pick.t (Pick.t Pick.h))))))
  have h_39 := h_38.up (Pick.t (Pick.t (Pick.t (Pick.t (Pick.t (Pick.t Pick.h))))))
  have h_40 := h_39.up (Pick.t (Pick.t (Pick.t (Pick.t (Pick.t (Pick.t Pick.h))))))
  have h_41 := h_40.up (Pick.t (Pick.t (Pick.t (Pick.t (Pick.t (Pick.t Pick.h))))))
  have h_42 := h_41.up (Pick.t (Pick.t (Pick.t (Pick.t (Pick.t (Pick.t Pick.h))))))
  exact ⟨_, _, _, rfl, h_42⟩

theorem c_oTag1 {w00 : World} {L : List Ent} (ob mp : Nat) (ms df : List UInt8) (hms : ms.length = 32) (da : Option Addr) (dn dc u : Nat) (hdf : df.length = 32 * dn) (la : Option Addr) (lc : Nat) (lx : List Value) (lg : Lg) (hu : u ≤ 1000000) (hlg : lg.length ≤ 1000000) (key : List UInt8) (hk : key.length = 32) (dm : Int) (hdm : 1 ≤ dm ∧ dm ≤ 16) (bl : Nat) (ra : Option Addr) (rn rc : Nat) (rb : List UInt8) (hrb : rb.length = rn) (hrn : rn ≤ 100000) (w : World) (h_0 : HP w00 w (Ent.blk ob .nw 50 [(1, [(.bool true)]), (32, ms.map vu8), (1, [(.slice da dn dc)]), (1, [(vi ((u : Nat) : Int))]), (1, [(.map (some mp))]), (1, [(.slice la lg.length lc)])] :: Ent.row la lg.length lc 111 67 lx :: Ent.obj mp .nw (.map (mArr lg) lg.length) :: Ent.pin (sblks lx) (fun w => Lgs w lx lg) :: Ent.view da (df.map vu8) :: Ent.blk bl .nw 37 [(1, [(.slice ra rn rc)])] :: Ent.row ra rn rc 5 1 (rb.map vu8) :: L)) :
    Cs Try.prog 21 [(.pointer (some ⟨ob, 0, none⟩)), (.agg ⟨key.map vu8⟩), (vi dm), (.slice (some ⟨bl, 0, none⟩) 1 1)].toArray w (fun v w1 => ∃ la' lc' lx', v = (.tuple [(.agg ⟨(ansD df dn u lg (2, key, dm, [rb].flatten)).map vu8⟩), (vi 0)].toArray) ∧ HP w00 w1 (Ent.blk ob .nw 50 [(1, [(.bool true)]), (32, ms.map vu8), (1, [(.slice da dn dc)]), (1, [(vi (((ansU u lg (2, key, dm, [rb].flatten)) : Nat) : Int))]), (1, [(.map (some mp))]), (1, [(.slice la' ((ansL df dn u lg (2, key, dm, [rb].flatten)).length) lc')])] :: Ent.row la' ((ansL df dn u lg (2, key, dm, [rb].flatten)).length) lc' 111 67 lx' :: Ent.obj mp .nw (.map (mArr (ansL df dn u lg (2, key, dm, [rb].flatten))) ((ansL df dn u lg (2, key, dm, [rb].flatten)).length)) :: Ent.pin (sblks lx') (fun w => Lgs w lx' (ansL df dn u lg (2, key, dm, [rb].flatten))) :: Ent.view da (df.map vu8) :: Ent.blk bl .nw 37 [(1, [(.slice ra rn rc)])] :: Ent.row ra rn rc 5 1 (rb.map vu8) :: L)) := by
  have hfl : [rb].flatten.length = rn := by simp [hrb]
  refine Cs.of (n := 19) (args := [(.pointer (some ⟨ob, 0, none⟩)), (.agg ⟨key.map vu8⟩), (vi dm), (.slice (some ⟨bl, 0, none⟩) 1 1)]) Try.func21 rfl rfl rfl ?_
  refine WP.seq ?_
  refine WP.reg ?_
  refine WL.box (v := (.agg ⟨key.map vu8⟩)) (segs := [(32, key.map vu8)]) h_0 rfl rfl (SsOk.cons (SOk.u8 hk) SsOk.nil) rfl (fun b_1 w_2 h_3 => ?_)
  refine WL.alloc (segs := [(32, (List.replicate 32 (0 : UInt8)).map vu8)]) h_3 (zv Try.typeInfo23 rfl) rfl (SsOk.cons (SOk.u8 (List.length_replicate ..)) SsOk.nil) rfl (fun b_4 w_5 h_6 => ?_)
  refine WL.q (Wn.no rfl) rfl rfl (R.assign (v := (vi 0)) rfl) ?_
  refine WL.nil ?_
  refine thn_n ?_
  refine WP.seq ?_
  refine WP.drawT (SL w00.heap.size [.blk b_1 .nw 23 [(32, key.map vu8)], .blk bl .nw 37 [(1, [(.slice ra rn rc)])], .row ra rn rc 5 1 (rb.map vu8)]) (.q 0 (.q 1 (.q 2 (.q 3 (.s 4 (.q 5 (.s 6 (.q 7 (.q 8 (.s 9 (.q 10 .nil))))))))))) (by kernel_rfl) (by kernel_rfl) rfl (by kernel_rfl) (fun w_7 hc_9 => (SL.cons ((h_6.same hc_9).ok _ (.tail _ (.head _))) (SL.cons ((h_6.same hc_9).ok _ (.tail _ (.tail _ (.tail _ (.tail _ (.tail _ (.tail _ (.tail _ (.head _))))))))) (SL.cons ((h_6.same hc_9).ok _ (.tail _ (.tail _ (.tail _ (.tail _ (.tail _ (.tail _ (.tail _ (.tail _ (.head _)))))))))) (SL.nil _ _))))) (fun w_7 hc_9 => ?_)
  have h_8 := h_6.same hc_9
  refine WT.q rfl (Wn.no rfl) rfl rfl (fun wq hS => R.move (v := (.pointer (some ⟨ob, 0, none⟩))) rfl) ?_
  refine WT.q rfl (Wn.no rfl) rfl rfl (fun wq hS => R.loadA (b := b_1) (off := 0) [] [(32, key.map vu8)] [] (cs := key.map vu8) rfl Try.isAgg23 Try.sizeOf23 (hS _ (.head _)) rfl rfl rfl rfl) ?_
  refine WT.q rfl (Wn.no rfl) rfl rfl (fun wq hS => R.move (v := (vi dm)) rfl) ?_
  refine WT.q rfl (Wn.no rfl) rfl rfl (fun wq hS => R.move (v := (.slice (some ⟨bl, 0, none⟩) 1 1)) rfl) ?_
  refine WT.s ?_
  refine Op1.one rfl (Wn.no rfl) ?_
  refine WL.call (al := [(.slice (some ⟨bl, 0, none⟩) 1 1)]) Try.call53 rfl rfl (c_joined (some ⟨bl, 0, none⟩) 1 1 [(.slice ra rn rc)] [rb] rfl (by omega) (by omega) _ (viewB (h_8.ok _ (.tail _ (.tail _ (.tail _ (.tail _ (.tail _ (.tail _ (.tail _ (.head _))))))))) Sg.h) (Sls.cons hrb (h_8.own (.tail _ (.tail _ (.tail _ (.tail _ (.tail _ (.tail _ (.tail _ (.tail _ (.head _)))))))))).2.2.1 (ownView (h_8.ok _ (.tail _ (.tail _ (.tail _ (.tail _ (.tail _ (.tail _ (.tail _ (.tail _ (.head _))))))))))) Sls.nil)) rfl ?_
  rintro _ w_12 ⟨a_10, cap_11, rfl, hc_13, ho_14⟩
  have h_15 := h_8.gotRow hc_13 ho_14
  refine WL.nil ?_
  refine ⟨(SL.cons (h_15.ok _ (.tail _ (.tail _ (.head _)))) (SL.cons (h_15.ok _ (.tail _ (.tail _ (.tail _ (.tail _ (.tail _ (.tail _ (.tail _ (.tail _ (.head _)))))))))) (SL.cons (h_15.ok _ (.tail _ (.tail _ (.tail _ (.tail _ (.tail _ (.tail _ (.tail _ (.tail _ (.tail _ (.head _))))))))))) (SL.nil _ _)))), ?_⟩
  refine WT.q rfl (Wn.no rfl) rfl rfl (fun wq hS => R.buildS (pl := [(0, 1), (1, 32), (33, 1), (34, 1)]) (zs := [(1, [(vi 0)]), (32, (List.replicate 32 (0 : UInt8)).map vu8), (1, [(vi 0)]), (1, [(.slice none 0 0)])]) (vs := [(0, (vi 2)), (1, (.agg ⟨key.map vu8⟩)), (2, (vi dm)), (3, (.slice a_10 ([rb].flatten.length) cap_11))]) (out := [(1, [(vi 2)]), (32, key.map vu8), (1, [(vi dm)]), (1, [(.slice a_10 ([rb].flatten.length) cap_11)])]) (cs := flat [(1, [(vi 2)]), (32, key.map vu8), (1, [(vi dm)]), (1, [(.slice a_10 ([rb].flatten.length) cap_11)])]) Try.underlying103 (zv Try.typeInfo103 rfl) rfl (SsOk.cons (SOk.v rfl) (SsOk.cons (SOk.u8 (List.length_replicate ..)) (SsOk.cons (SOk.v rfl) (SsOk.cons (SOk.v rfl) SsOk.nil)))) (pl103 _ Try.underlying103) rfl (FillR.cons [] [(1, [(vi 0)])] [(1, [(vi 2)])] [(32, (List.replicate 32 (0 : UInt8)).map vu8), (1, [(vi 0)]), (1, [(.slice none 0 0)])] rfl rfl rfl rfl (SsOk.cons (SOk.v rfl) SsOk.nil) rfl rfl rfl (FillR.cons [(1, [(vi 2)])] [(32, (List.replicate 32 (0 : UInt8)).map vu8)] [(32, key.map vu8)] [(1, [(vi 0)]), (1, [(.slice none 0 0)])] rfl rfl rfl rfl (SsOk.cons (SOk.u8 hk) SsOk.nil) rfl rfl rfl (FillR.cons [(1, [(vi 2)]), (32, key.map vu8)] [(1, [(vi 0)])] [(1, [(vi dm)])] [(1, [(.slice none 0 0)])] rfl rfl rfl rfl (SsOk.cons (SOk.v rfl) SsOk.nil) rfl rfl rfl (FillR.cons [(1, [(vi 2)]), (32, key.map vu8), (1, [(vi dm)])] [(1, [(.slice none 0 0)])] [(1, [(.slice a_10 ([rb].flatten.length) cap_11)])] [] rfl rfl rfl rfl (SsOk.cons (SOk.v rfl) SsOk.nil) rfl rfl rfl FillR.nil)))) rfl) ?_
  refine WT.s ?_
  refine Op1.one rfl (Wn.no rfl) ?_
  have h_17 := h_15.rowView
  have h_18 := h_17.up (Pick.t (Pick.t (Pick.t (Pick.t (Pick.t (Pick.t (Pick.t Pick.h)))))))
  have h_19 := h_18.up (Pick.t (Pick.t (Pick.t (Pick.t (Pick.t (Pick.t (Pick.t Pick.h)))))))
  have h_20 := h_19.up (Pick.t (Pick.t (Pick.t (Pick.t (Pick.t (Pick.t (Pick.t Pick.h)))))))
  have h_21 := h_20.up (Pick.t (Pick.t (Pick.t (Pick.t (Pick.t (Pick.t (Pick.t Pick.h)))))))
  have h_22 := h_21.up (Pick.t (Pick.t (Pick.t (Pick.t (Pick.t (Pick.t (Pick.t Pick.h)))))))
  have h32_w_26 := (Lgs.ok32 (h_22.ok _ (.tail _ (.tail _ (.tail _ (.head _))))).1)
  refine WL.call (al := [(.pointer (some ⟨ob, 0, none⟩)), (.agg ⟨flat [(1, [(vi 2)]), (32, key.map vu8), (1, [(vi dm)]), (1, [(.slice a_10 ([rb].flatten.length) cap_11)])]⟩)]) Try.call48 rfl rfl (c_oAsk ob mp ms df hms da dn dc u hdf la lc lx lg hu hlg 2 dm key ([rb].flatten) a_10 ([rb].flatten.length) cap_11 ⟨hk, by show (1 : Int) ≤ 2 ∧ (2 : Int) ≤ 4; omega, by show (1 : Int) ≤ dm ∧ (dm : Int) ≤ 16; omega, by show List.length ([rb].flatten) ≤ 1000000000; first | decide | (simp only [List.length_append, leN_len]; omega) | omega⟩ (rfl : List.length ([rb].flatten) = [rb].flatten.length) (by decide) (fun h => by omega) _ h_22) rfl ?_
  rintro _ w_26 ⟨la_23, lc_24, lx_25, rfl, h_27⟩
  refine WL.nil ?_
  refine ⟨(SL.cons (h_27.ok _ (.tail _ (.tail _ (.tail _ (.tail _ (.tail _ (.tail _ (.tail _ (.head _))))))))) (SL.cons (h_27.ok _ (.tail _ (.tail _ (.tail _ (.tail _ (.tail _ (.tail _ (.tail _ (.tail _ (.head _)))))))))) (SL.cons (h_27.ok _ (.tail _ (.tail _ (.tail _ (.tail _ (.tail _ (.tail _ (.tail _ (.tail _ (.tail _ (.head _))))))))))) (SL.nil _ _)))), ?_⟩
  refine WT.q rfl (Wn.no rfl) rfl rfl (fun wq hS => R.extract (l := [(.agg ⟨(ansD df dn u lg (2, key, dm, ([rb].flatten))).map vu8⟩), (vi 0)]) (v := (.agg ⟨(ansD df dn u lg (2, key, dm, ([rb].flatten))).map vu8⟩)) rfl rfl) ?_
  refine WT.q rfl (Wn.no rfl) rfl rfl (fun wq hS => R.extract (l := [(.agg ⟨(ansD df dn u lg (2, key, dm, ([rb].flatten))).map vu8⟩), (vi 0)]) (v := (vi 0)) rfl rfl) ?_
  refine WT.s ?_
  refine Op1.one rfl (Wn.no rfl) ?_
  refine WL.storeA (b := b_4) (off := 0) [] [(32, (List.replicate 32 (0 : UInt8)).map vu8)] [(32, (ansD df dn u lg (2, key, dm, ([rb].flatten))).map vu8)] [] (ys := (ansD df dn u lg (2, key, dm, ([rb].flatten))).map vu8) h_27 rfl rfl Try.sizeOf23 (At.t (At.t (At.t (At.t (At.t (At.t At.h)))))) (by decide) rfl rfl rfl rfl rfl rfl (SsOk.cons (SOk.u8 (ansD_len hdf h32_w_26)) SsOk.nil) (fun w_28 h_29 => ?_)
  refine WL.nil ?_
  refine ⟨(SL.cons (h_29.ok _ (.tail _ (.tail _ (.tail _ (.tail _ (.tail _ (.tail _ (.tail _ (.head _))))))))) (SL.cons (h_29.ok _ (.tail _ (.tail _ (.tail _ (.tail _ (.tail _ (.tail _ (.tail _ (.tail _ (.head _)))))))))) (SL.cons (h_29.ok _ (.tail _ (.tail _ (.tail _ (.tail _ (.tail _ (.tail _ (.tail _ (.tail _ (.tail _ (.head _))))))))))) (SL.nil _ _)))), ?_⟩
  refine WT.q rfl (Wn.no rfl) rfl rfl (fun wq hS => R.assign (v := (vi 0)) rfl) ?_
  refine WT.nil ?_
  refine thn_n ?_
  refine WP.ret ?_
  refine ret_of Try.results21 (RV.cell rfl (h_29.loadA (cs := (ansD df dn u lg (2, key, dm, ([rb].flatten))).map vu8) Try.isAgg23 Try.sizeOf23 (.tail _ (.tail _ (.tail _ (.tail _ (.tail _ (.tail _ (.head _))))))) rfl rfl) (RV.tmp (v := (vi 0)) rfl RV.nil)) ?_
  have h_30 := h_29.up (Pick.t (Pick.t (Pick.t (Pick.t (Pick.t Pick.h)))))
  have h_31 := h_30.drop rfl
  have h_32 := h_31.up (Pick.t (Pick.t (Pick.t (Pick.t (Pick.t Pick.h)))))
  have h_33 := h_32.drop rfl
  have h_34 := h_33.up (Pick.t (Pick.t (Pick.t (Pick.t (Pick.t Pick.h)))))
  have h_35 := h_34.drop rfl
  have h_36 := h_35.up (Pick.t (Pick.t (Pick.t (Pick.t (Pick.t (Pick.t Pick.h))))))
  have h_37 := h_36.up (Pick.t (Pick.t (Pick.t (Pick.t (Pick.t (Pick.t Pick.h))))))
  have h_38 := h_37.up (Pick.t (Pick.t (Pick.t (Pick.t (Pick.t (Pick.t Pick.h))))))
  have h_39 := h_38.up (Pick.t (Pick.t (Pick.t (Pick.t (Pick.t (Pick.t Pick.h))))))
  have h_40 := h_39.up (Pick.t (Pick.t (Pick.t (Pick.t (Pick.t (Pick.t Pick.h))))))
  have h_41 := h_40.up (Pick.t (Pick.t (Pick.t (Pick.t (Pick.t (Pick.t Pick.h))))))
  have h_42 := h_41.up (Pick.t (Pick.t (Pick.t (Pick.t (Pick.t (Pick.t Pick.h))))))
  exact ⟨_, _, _, rfl, h_42⟩

theorem c_oTag1p {w00 : World} {L : List Ent} (ob mp : Nat) (ms df : List UInt8) (hms : ms.length = 32) (da : Option Addr) (dn dc u : Nat) (hdf : df.length = 32 * dn) (la : Option Addr) (lc : Nat) (lx : List Value) (lg : Lg) (hu : u ≤ 1000000) (hlg : lg.length ≤ 1000000) (key : List UInt8) (hk : key.length = 32) (dm : Int) (hdm : 1 ≤ dm ∧ dm ≤ 16) (bl : Nat) (ra : Option Addr) (rn rk rc rc2 : Nat) (rb : List UInt8) (hrb : rb.length = rn) (hrk : rk ≤ rn) (hkc : rk ≤ rc) (hrn : rn ≤ 100000) (w : World) (h_0 : HP w00 w (Ent.blk ob .nw 50 [(1, [(.bool true)]), (32, ms.map vu8), (1, [(.slice da dn dc)]), (1, [(vi ((u : Nat) : Int))]), (1, [(.map (some mp))]), (1, [(.slice la lg.length lc)])] :: Ent.row la lg.length lc 111 67 lx :: Ent.obj mp .nw (.map (mArr lg) lg.length) :: Ent.pin (sblks lx) (fun w => Lgs w lx lg) :: Ent.view da (df.map vu8) :: Ent.blk bl .nw 37 [(1, [(.slice ra rk rc)])] :: Ent.row ra rn rc2 5 1 (rb.map vu8) :: L)) :
    Cs Try.prog 21 [(.pointer (some ⟨ob, 0, none⟩)), (.agg ⟨key.map vu8⟩), (vi dm), (.slice (some ⟨bl, 0, none⟩) 1 1)].toArray w (fun v w1 => ∃ la' lc' lx', v = (.tuple [(.agg ⟨(ansD df dn u lg (2, key, dm, [rb.take rk].flatten)).map vu8⟩), (vi 0)].toArray) ∧ HP w00 w1 (Ent.blk ob .nw 50 [(1, [(.bool true)]), (32, ms.map vu8), (1, [(.slice da dn dc)]), (1, [(vi (((ansU u lg (2, key, dm, [rb.take rk].flatten)) : Nat) : Int))]), (1, [(.map (some mp))]), (1, [(.slice la' ((ansL df dn u lg (2, key, dm, [rb.take rk].flatten)).length) lc')])] :: Ent.row la' ((ansL df dn u lg (2, key, dm, [rb.take rk].flatten)).length) lc' 111 67 lx' :: Ent.obj mp .nw (.map (mArr (ansL df dn u lg (2, key, dm, [rb.take rk].flatten))) ((ansL df dn u lg (2, key, dm, [rb.take rk].flatten)).length)) :: Ent.pin (sblks lx') (fun w => Lgs w lx' (ansL df dn u lg (2, key, dm, [rb.take rk].flatten))) :: Ent.view da (df.map vu8) :: Ent.blk bl .nw 37 [(1, [(.slice ra rk rc)])] :: Ent.row ra rn rc2 5 1 (rb.map vu8) :: L)) := by
  have hfl : [rb.take rk].flatten.length = rk := by simp [hrb]; omega
  refine Cs.of (n := 19) (args := [(.pointer (some ⟨ob, 0, none⟩)), (.agg ⟨key.map vu8⟩), (vi dm), (.slice (some ⟨bl, 0, none⟩) 1 1)]) Try.func21 rfl rfl rfl ?_
  refine WP.seq ?_
  refine WP.reg ?_
  refine WL.box (v := (.agg ⟨key.map vu8⟩)) (segs := [(32, key.map vu8)]) h_0 rfl rfl (SsOk.cons (SOk.u8 hk) SsOk.nil) rfl (fun b_1 w_2 h_3 => ?_)
  refine WL.alloc (segs := [(32, (List.replicate 32 (0 : UInt8)).map vu8)]) h_3 (zv Try.typeInfo23 rfl) rfl (SsOk.cons (SOk.u8 (List.length_replicate ..)) SsOk.nil) rfl (fun b_4 w_5 h_6 => ?_)
  refine WL.q (Wn.no rfl) rfl rfl (R.assign (v := (vi 0)) rfl) ?_
  refine WL.nil ?_
  refine thn_n ?_
  refine WP.seq ?_
  refine WP.drawT (SL w00.heap.size [.blk b_1 .nw 23 [(32, key.map vu8)], .blk bl .nw 37 [(1, [(.slice ra rk rc)])], .row ra rn rc2 5 1 (rb.map vu8)]) (.q 0 (.q 1 (.q 2 (.q 3 (.s 4 (.q 5 (.s 6 (.q 7 (.q 8 (.s 9 (.q 10 .nil))))))))))) (by kernel_rfl) (by kernel_rfl) rfl (by kernel_rfl) (fun w_7 hc_9 => (SL.cons ((h_6.same hc_9).ok _ (.tail _ (.head _))) (SL.cons ((h_6.same hc_9).ok _ (.tail _ (.tail _ (.tail _ (.tail _ (.tail _ (.tail _ (.tail _ (.head _))))))))) (SL.cons ((h_6.same hc_9).ok _ (.tail _ (.tail _ (.tail _ (.tail _ (.tail _ (.tail _ (.tail _ (.tail _ (.head _)))))))))) (SL.nil _ _))))) (fun w_7 hc_9 => ?_)
  have h_8 := h_6.same hc_9
  refine WT.q rfl (Wn.no rfl) rfl rfl (fun wq hS => R.move (v := (.pointer (some ⟨ob, 0, none⟩))) rfl) ?_
  refine WT.q rfl (Wn.no rfl) rfl rfl (fun wq hS => R.loadA (b := b_1) (off := 0) [] [(32, key.map vu8)] [] (cs := key.map vu8) rfl Try.isAgg23 Try.sizeOf23 (hS _ (.head _)) rfl rfl rfl rfl) ?_
  refine WT.q rfl (Wn.no rfl) rfl rfl (fun wq hS => R.move (v := (vi dm)) rfl) ?_
  refine WT.q rfl (Wn.no rfl) rfl rfl (fun wq hS => R.move (v := (.slice (some ⟨bl, 0, none⟩) 1 1)) rfl) ?_
  refine WT.s ?_
  refine Op1.one rfl (Wn.no rfl) ?_
  refine WL.call (al := [(.slice (some ⟨bl, 0, none⟩) 1 1)]) Try.call53 rfl rfl (c_joined (some ⟨bl, 0, none⟩) 1 1 [(.slice ra rk rc)] [rb.take rk] rfl (by omega) (by omega) _ (viewB (h_8.ok _ (.tail _ (.tail _ (.tail _ (.tail _ (.tail _ (.tail _ (.tail _ (.head _))))))))) Sg.h) (Sls.cons (by rw [List.length_take, hrb]; omega) hkc (View.pfx rk (ownView (h_8.ok _ (.tail _ (.tail _ (.tail _ (.tail _ (.tail _ (.tail _ (.tail _ (.tail _ (.head _)))))))))))) Sls.nil)) rfl ?_
  rintro _ w_12 ⟨a_10, cap_11, rfl, hc_13, ho_14⟩
  have h_15 := h_8.gotRow hc_13 ho_14
  refine WL.nil ?_
  refine ⟨(SL.cons (h_15.ok _ (.tail _ (.tail _ (.head _)))) (SL.cons (h_15.ok _ (.tail _ (.tail _ (.tail _ (.tail _ (.tail _ (.tail _ (.tail _ (.tail _ (.head _)))))))))) (SL.cons (h_15.ok _ (.tail _ (.tail _ (.tail _ (.tail _ (.tail _ (.tail _ (.tail _ (.tail _ (.tail _ (.head _))))))))))) (SL.nil _ _)))), ?_⟩
  refine WT.q rfl (Wn.no rfl) rfl rfl (fun wq hS => R.buildS (pl := [(0, 1), (1, 32), (33, 1), (34, 1)]) (zs := [(1, [(vi 0)]), (32, (List.replicate 32 (0 : UInt8)).map vu8), (1, [(vi 0)]), (1, [(.slice none 0 0)])]) (vs := [(0, (vi 2)), (1, (.agg ⟨key.map vu8⟩)), (2, (vi dm)), (3, (.slice a_10 ([rb.take rk].flatten.length) cap_11))]) (out := [(1, [(vi 2)]), (32, key.map vu8), (1, [(vi dm)]), (1, [(.slice a_10 ([rb.take rk].flatten.length) cap_11)])]) (cs := flat [(1, [(vi 2)]), (32, key.map vu8), (1, [(vi dm)]), (1, [(.slice a_10 ([rb.take rk].flatten.length) cap_11)])]) Try.underlying103 (zv Try.typeInfo103 rfl) rfl (SsOk.cons (SOk.v rfl) (SsOk.cons (SOk.u8 (List.length_replicate ..)) (SsOk.cons (SOk.v rfl) (SsOk.cons (SOk.v rfl) SsOk.nil)))) (pl103 _ Try.underlying103) rfl (FillR.cons [] [(1, [(vi 0)])] [(1, [(vi 2)])] [(32, (List.replicate 32 (0 : UInt8)).map vu8), (1, [(vi 0)]), (1, [(.slice none 0 0)])] rfl rfl rfl rfl (SsOk.cons (SOk.v rfl) SsOk.nil) rfl rfl rfl (FillR.cons [(1, [(vi 2)])] [(32, (List.replicate 32 (0 : UInt8)).map vu8)] [(32, key.map vu8)] [(1, [(vi 0)]), (1, [(.slice none 0 0)])] rfl rfl rfl rfl (SsOk.cons (SOk.u8 hk) SsOk.nil) rfl rfl rfl (FillR.cons [(1, [(vi 2)]), (32, key.map vu8)] [(1, [(vi 0)])] [(1, [(vi dm)])] [(1, [(.slice none 0 0)])] rfl rfl rfl rfl (SsOk.cons (SOk.v rfl) SsOk.nil) rfl rfl rfl (FillR.cons [(1, [(vi 2)]), (32, key.map vu8), (1, [(vi dm)])] [(1, [(.slice none 0 0)])] [(1, [(.slice a_10 ([rb.take rk].flatten.length) cap_11)])] [] rfl rfl rfl rfl (SsOk.cons (SOk.v rfl) SsOk.nil) rfl rfl rfl FillR.nil)))) rfl) ?_
  refine WT.s ?_
  refine Op1.one rfl (Wn.no rfl) ?_
  have h_17 := h_15.rowView
  have h_18 := h_17.up (Pick.t (Pick.t (Pick.t (Pick.t (Pick.t (Pick.t (Pick.t Pick.h)))))))
  have h_19 := h_18.up (Pick.t (Pick.t (Pick.t (Pick.t (Pick.t (Pick.t (Pick.t Pick.h)))))))
  have h_20 := h_19.up (Pick.t (Pick.t (Pick.t (Pick.t (Pick.t (Pick.t (Pick.t Pick.h)))))))
  have h_21 := h_20.up (Pick.t (Pick.t (Pick.t (Pick.t (Pick.t (Pick.t (Pick.t Pick.h)))))))
  have h_22 := h_21.up (Pick.t (Pick.t (Pick.t (Pick.t (Pick.t (Pick.t (Pick.t Pick.h)))))))
  have h32_w_26 := (Lgs.ok32 (h_22.ok _ (.tail _ (.tail _ (.tail _ (.head _))))).1)
  refine WL.call (al := [(.pointer (some ⟨ob, 0, none⟩)), (.agg ⟨flat [(1, [(vi 2)]), (32, key.map vu8), (1, [(vi dm)]), (1, [(.slice a_10 ([rb.take rk].flatten.length) cap_11)])]⟩)]) Try.call48 rfl rfl (c_oAsk ob mp ms df hms da dn dc u hdf la lc lx lg hu hlg 2 dm key ([rb.take rk].flatten) a_10 ([rb.take rk].flatten.length) cap_11 ⟨hk, by show (1 : Int) ≤ 2 ∧ (2 : Int) ≤ 4; omega, by show (1 : Int) ≤ dm ∧ (dm : Int) ≤ 16; omega, by show List.length ([rb.take rk].flatten) ≤ 1000000000; first | decide | (simp only [List.length_append, leN_len]; omega) | omega⟩ (rfl : List.length ([rb.take rk].flatten) = [rb.take rk].flatten.length) (by decide) (fun h => by omega) _ h_22) rfl ?_
  rintro _ w_26 ⟨la_23, lc_24, lx_25, rfl, h_27⟩
  refine WL.nil ?_
  refine ⟨(SL.cons (h_27.ok _ (.tail _ (.tail _ (.tail _ (.tail _ (.tail _ (.tail _ (.tail _ (.head _))))))))) (SL.cons (h_27.ok _ (.tail _ (.tail _ (.tail _ (.tail _ (.tail _ (.tail _ (.tail _ (.tail _ (.head _)))))))))) (SL.cons (h_27.ok _ (.tail _ (.tail _ (.tail _ (.tail _ (.tail _ (.tail _ (.tail _ (.tail _ (.tail _ (.head _))))))))))) (SL.nil _ _)))), ?_⟩
  refine WT.q rfl (Wn.no rfl) rfl rfl (fun wq hS => R.extract (l := [(.agg ⟨(ansD df dn u lg (2, key, dm, ([rb.take rk].flatten))).map vu8⟩), (vi 0)]) (v := (.agg ⟨(ansD df dn u lg (2, key, dm, ([rb.take rk].flatten))).map vu8⟩)) rfl rfl) ?_
  refine WT.q rfl (Wn.no rfl) rfl rfl (fun wq hS => R.extract (l := [(.agg ⟨(ansD df dn u lg (2, key, dm, ([rb.take rk].flatten))).map vu8⟩), (vi 0)]) (v := (vi 0)) rfl rfl) ?_
  refine WT.s ?_
  refine Op1.one rfl (Wn.no rfl) ?_
  refine WL.storeA (b := b_4) (off := 0) [] [(32, (List.replicate 32 (0 : UInt8)).map vu8)] [(32, (ansD df dn u lg (2, key, dm, ([rb.take rk].flatten))).map vu8)] [] (ys := (ansD df dn u lg (2, key, dm, ([rb.take rk].flatten))).map vu8) h_27 rfl rfl Try.sizeOf23 (At.t (At.t (At.t (At.t (At.t (At.t At.h)))))) (by decide) rfl rfl rfl rfl rfl rfl (SsOk.cons (SOk.u8 (ansD_len hdf h32_w_26)) SsOk.nil) (fun w_28 h_29 => ?_)
  refine WL.nil ?_
  refine ⟨(SL.cons (h_29.ok _ (.tail _ (.tail _ (.tail _ (.tail _ (.tail _ (.tail _ (.tail _ (.head _))))))))) (SL.cons (h_29.ok _ (.tail _ (.tail _ (.tail _ (.tail _ (.tail _ (.tail _ (.tail _ (.tail _ (.head _)))))))))) (SL.cons (h_29.ok _ (.tail _ (.tail _ (.tail _ (.tail _ (.tail _ (.tail _ (.tail _ (.tail _ (.tail _ (.head _))))))))))) (SL.nil _ _)))), ?_⟩
  refine WT.q rfl (Wn.no rfl) rfl rfl (fun wq hS => R.assign (v := (vi 0)) rfl) ?_
  refine WT.nil ?_
  refine thn_n ?_
  refine WP.ret ?_
  refine ret_of Try.results21 (RV.cell rfl (h_29.loadA (cs := (ansD df dn u lg (2, key, dm, ([rb.take rk].flatten))).map vu8) Try.isAgg23 Try.sizeOf23 (.tail _ (.tail _ (.tail _ (.tail _ (.tail _ (.tail _ (.head _))))))) rfl rfl) (RV.tmp (v := (vi 0)) rfl RV.nil)) ?_
  have h_30 := h_29.up (Pick.t (Pick.t (Pick.t (Pick.t (Pick.t Pick.h)))))
  have h_31 := h_30.drop rfl
  have h_32 := h_31.up (Pick.t (Pick.t (Pick.t (Pick.t (Pick.t Pick.h)))))
  have h_33 := h_32.drop rfl
  have h_34 := h_33.up (Pick.t (Pick.t (Pick.t (Pick.t (Pick.t Pick.h)))))
  have h_35 := h_34.drop rfl
  have h_36 := h_35.up (Pick.t (Pick.t (Pick.t (Pick.t (Pick.t (Pick.t Pick.h))))))
  have h_37 := h_36.up (Pick.t (Pick.t (Pick.t (Pick.t (Pick.t (Pick.t Pick.h))))))
  have h_38 := h_37.up (Pick.t (Pick.t (Pick.t (Pick.t (Pick.t (Pick.t Pick.h))))))
  have h_39 := h_38.up (Pick.t (Pick.t (Pick.t (Pick.t (Pick.t (Pick.t Pick.h))))))
  have h_40 := h_39.up (Pick.t (Pick.t (Pick.t (Pick.t (Pick.t (Pick.t Pick.h))))))
  have h_41 := h_40.up (Pick.t (Pick.t (Pick.t (Pick.t (Pick.t (Pick.t Pick.h))))))
  have h_42 := h_41.up (Pick.t (Pick.t (Pick.t (Pick.t (Pick.t (Pick.t Pick.h))))))
  exact ⟨_, _, _, rfl, h_42⟩

theorem c_rB1 {w00 : World} {L : List Ent} (a : Option Addr) (n cap : Nat) (bs : List UInt8) (hl : bs.length = n) (bo : Nat) (oa : Option Addr) (on oc : Nat) (cur : List UInt8) (hcur : cur.length = on) (hn : n ≤ 1000) (hon : on ≤ 1000) (w : World) (hv : View w a (bs.map vu8)) (h_0 : HP w00 w (Ent.blk bo .nw 37 [(1, [(.slice oa on oc)])] :: Ent.row oa on oc 5 1 ((cur).map vu8) :: L)) :
    Cs Try.prog 77 [(.slice a n cap), (.pointer (some ⟨bo, 0, none⟩))].toArray w (fun v w1 => ∃ oa' oc', v = .tuple [].toArray ∧ HP w00 w1 (Ent.blk bo .nw 37 [(1, [(.slice oa' (on + n) oc')])] :: Ent.row oa' (on + n) oc' 5 1 ((cur ++ bs).map vu8) :: L)) := by
  refine Cs.of (n := 6) (args := [(.slice a n cap), (.pointer (some ⟨bo, 0, none⟩))]) Try.func77 rfl rfl rfl ?_
  refine WP.reg ?_
  refine WL.q (Wn.no rfl) rfl rfl (R.load1 (b := bo) (off := 0) (v := (.slice oa on oc)) rfl Try.isAgg37 (h_0.ok _ (.head _)) Sg.h) ?_
  refine WL.q (Wn.no rfl) rfl rfl (R.move (v := (.slice a n cap)) rfl) ?_
  refine WL.append (km := on + n) (xs := (cur).map vu8) (ys := bs.map vu8) (zs := (cur ++ bs).map vu8) h_0 rfl rfl el37 hv ((len_map hl).trans (Nat.mul_one _).symm) (one_u8 _) (by simp only [List.map_append, List.map_nil]) (by omega) (by omega) (by omega) (fun _ _ => (At.t At.h)) rfl (fun a_1 c_2 w_3 h_4 => ?_)
  refine WL.store1 (b := bo) (off := 0) (v := (.slice a_1 (on + n) c_2)) h_4 rfl rfl Try.sizeOf37 rfl At.h (by decide) Sg.h (fun w_5 h_6 => ?_)
  refine WL.nil ?_
  refine ret_n ?_
  refine ret_of Try.results77 RV.nil ?_
  have h_7 := h_6.up (Pick.t Pick.h)
  have h_8 := h_7.up (Pick.t Pick.h)
  exact ⟨_, _, rfl, h_8⟩

theorem c_rBytes (ins : UInt64) (me ch : List UInt8) (hme : me.length = 32) (hch : ch.length = 32) (w : World) :
    Cs Try.prog 46 [(.agg ⟨flat [(1, [(vu64 ins)]), (32, me.map vu8), (32, ch.map vu8)]⟩)].toArray w (fun v w1 => ∃ a cap, v = .slice a 80 cap ∧ Chg w w1 [] ∧ Own w.heap.size w1 5 1 a 80 cap ((repB ins me ch).map vu8)) := by
  refine Cs.of (n := 34) (args := [(.agg ⟨flat [(1, [(vu64 ins)]), (32, me.map vu8), (32, ch.map vu8)]⟩)]) Try.func46 rfl rfl rfl ?_
  have h_0 := HP.init w
  refine WP.seq ?_
  refine WP.reg ?_
  refine WL.box (v := (.agg ⟨flat [(1, [(vu64 ins)]), (32, me.map vu8), (32, ch.map vu8)]⟩)) (segs := [(1, [(vu64 ins)]), (32, me.map vu8), (32, ch.map vu8)]) h_0 rfl rfl (SsOk.cons (SOk.v rfl) (SsOk.cons (SOk.u8 hme) (SsOk.cons (SOk.u8 hch) SsOk.nil))) rfl (fun b_1 w_2 h_3 => ?_)
  refine WL.q (Wn.no rfl) rfl rfl (R.assign (v := (.slice none 0 0)) rfl) ?_
  refine WL.nil ?_
  refine thn_n ?_
  refine WP.seq ?_
  refine WP.reg ?_
  refine WL.q (Wn.no rfl) rfl rfl (R.fieldAddr (b := b_1) (off := 0) (off' := 0) rfl Try.underlying30 rfl Try.sizeOf28 rfl rfl) ?_
  refine WL.q (Wn.no rfl) rfl rfl (R.load1 (b := b_1) (off := 0) (v := (vu64 ins)) rfl Try.isAgg28 (h_3.ok _ (.head _)) Sg.h) ?_
  refine WL.call (al := [(vu64 ins), (vi 8)]) Try.call76 rfl rfl (c_Put_b ins 8 rfl _) rfl ?_
  rintro _ w_6 ⟨a_4, cap_5, rfl, hc_7, ho_8⟩
  have h_9 := h_3.gotRow hc_7 ho_8
  refine WL.q (Wn.no rfl) rfl rfl (R.move (v := (.tuple [(.slice a_4 8 cap_5), (vi 0)].toArray)) rfl) ?_
  refine WL.q (Wn.no rfl) rfl rfl (R.extract (l := [(.slice a_4 8 cap_5), (vi 0)]) (v := (.slice a_4 8 cap_5)) rfl rfl) ?_
  refine WL.q (Wn.no rfl) rfl rfl (R.extract (l := [(.slice a_4 8 cap_5), (vi 0)]) (v := (vi 0)) rfl rfl) ?_
  refine WL.q (Wn.no rfl) rfl rfl (R.assign (v := (.slice a_4 8 cap_5)) rfl) ?_
  refine WL.q (Wn.no rfl) rfl rfl (R.assign (v := (vi 0)) rfl) ?_
  refine WL.nil ?_
  refine thn_n ?_
  refine WP.seq ?_
  refine WP.reg ?_
  refine WL.alloc (segs := [(1, [(.slice none 0 0)])]) h_9 (zv Try.typeInfo37 rfl) rfl (SsOk.cons (SOk.v rfl) SsOk.nil) rfl (fun b_10 w_11 h_12 => ?_)
  refine WL.nil ?_
  refine thn_n ?_
  refine WP.seq ?_
  refine WP.reg ?_
  refine WL.q (Wn.no rfl) rfl rfl (R.makeFuncL (fi := []) (ca := [(.pointer (some ⟨b_10, 0, none⟩))]) rfl rfl) ?_
  refine WL.q (Wn.no rfl) rfl rfl (R.assign (v := (Value.func (Fn.func 77) [].toArray [(Value.pointer (some ⟨b_10, 0, none⟩))].toArray)) rfl) ?_
  refine WL.nil ?_
  refine thn_n ?_
  refine WP.seq ?_
  refine WP.seq ?_
  refine WP.drawT (SL w.heap.size [.blk b_10 .nw 37 [(1, [(.slice none 0 0)])], .row a_4 8 cap_5 5 1 ((leN 8 ins.toNat).map vu8), .blk b_1 .nw 30 [(1, [(vu64 ins)]), (32, me.map vu8), (32, ch.map vu8)]]) (.q 2 (.q 3 (.q 4 (.q 5 (.q 6 (.q 9 (.s 0 (.s 1 (.s 7 (.q 8 .nil)))))))))) (by kernel_rfl) (by kernel_rfl) rfl (by kernel_rfl) (fun w_13 hc_15 => (SL.cons ((h_12.same hc_15).ok _ (.head _)) (SL.cons ((h_12.same hc_15).ok _ (.tail _ (.head _))) (SL.cons ((h_12.same hc_15).ok _ (.tail _ (.tail _ (.head _)))) (SL.nil _ _))))) (fun w_13 hc_15 => ?_)
  have h_14 := h_12.same hc_15
  refine WT.q rfl (Wn.no rfl) rfl rfl (fun wq hS => R.move (v := (.slice a_4 8 cap_5)) rfl) ?_
  refine WT.q rfl (Wn.no rfl) rfl rfl (fun wq hS => R.fieldAddr (b := b_1) (off := 0) (off' := 1) rfl Try.underlying30 rfl Try.sizeOf23 rfl rfl) ?_
  refine WT.q rfl (Wn.no rfl) rfl rfl (fun wq hS => R.sliceA (b := b_1) (off := 1) (off' := 1) (l := 0) (h := 32) rfl EvB.dflt EvB.dflt (by decide) (by decide) Try.underlying23 Try.sizeOf5 rfl) ?_
  refine WT.q rfl (Wn.no rfl) rfl rfl (fun wq hS => R.fieldAddr (b := b_1) (off := 0) (off' := 33) rfl Try.underlying30 rfl Try.sizeOf23 rfl rfl) ?_
  refine WT.q rfl (Wn.no rfl) rfl rfl (fun wq hS => R.sliceA (b := b_1) (off := 33) (off' := 33) (l := 0) (h := 32) rfl EvB.dflt EvB.dflt (by decide) (by decide) Try.underlying23 Try.sizeOf5 rfl) ?_
  refine WT.q rfl (Wn.no rfl) rfl rfl (fun wq hS => R.move (v := (vi 0)) rfl) ?_
  refine WT.s ?_
  refine Op1.one rfl (Wn.no rfl) ?_
  refine WL.buildSl (vs := [(0, (vu8 114)), (1, (vu8 101)), (2, (vu8 112)), (3, (vu8 111)), (4, (vu8 114)), (5, (vu8 116)), (6, (vu8 0)), (7, (vu8 0))]) (cs := ([114, 101, 112, 111, 114, 116, 0, 0] : List UInt8).map vu8) h_14 Try.underlying37 Try.sizeOf5 (zv Try.typeInfo5 rfl) rfl rfl (by kernel_rfl) rfl (one_u8 _) rfl rfl (fun b_16 w_17 h_18 => ?_)
  refine WL.nil ?_
  refine ⟨(SL.cons (h_18.ok _ (.tail _ (.head _))) (SL.cons (h_18.ok _ (.tail _ (.tail _ (.head _)))) (SL.cons (h_18.ok _ (.tail _ (.tail _ (.tail _ (.head _))))) (SL.nil _ _)))), ?_⟩
  refine WT.s ?_
  refine Op1.one rfl (Wn.no rfl) ?_
  refine WL.convSl h_18 rfl Try.underlying37 Try.underlying5 At.h (by decide) rfl (fun w_19 h_20 => ?_)
  refine WL.nil ?_
  refine ⟨(SL.cons (h_20.ok _ (.tail _ (.head _))) (SL.cons (h_20.ok _ (.tail _ (.tail _ (.head _)))) (SL.cons (h_20.ok _ (.tail _ (.tail _ (.tail _ (.head _))))) (SL.nil _ _)))), ?_⟩
  refine WT.s ?_
  refine Op1.one rfl (Wn.no rfl) ?_
  refine WL.buildSl (vs := [(0, (.slice (some ⟨b_16, 0, none⟩) 8 8)), (1, (.slice a_4 8 cap_5)), (2, (.slice (some ⟨b_1, 1, none⟩) 32 32)), (3, (.slice (some ⟨b_1, 33, none⟩) 32 32))]) (cs := [(.slice (some ⟨b_16, 0, none⟩) 8 8), (.slice a_4 8 cap_5), (.slice (some ⟨b_1, 1, none⟩) 32 32), (.slice (some ⟨b_1, 33, none⟩) 32 32)]) h_20 Try.underlying36 Try.sizeOf37 (zv Try.typeInfo37 rfl) rfl rfl (by kernel_rfl) rfl (by simp [Value.oneCell']) rfl rfl (fun b_21 w_22 h_23 => ?_)
  refine WL.nil ?_
  refine ⟨(SL.cons (h_23.ok _ (.tail _ (.tail _ (.head _)))) (SL.cons (h_23.ok _ (.tail _ (.tail _ (.tail _ (.head _))))) (SL.cons (h_23.ok _ (.tail _ (.tail _ (.tail _ (.tail _ (.head _)))))) (SL.nil _ _)))), ?_⟩
  refine WT.q rfl (Wn.no rfl) rfl rfl (fun wq hS => R.lenS (a := some ⟨b_21, 0, none⟩) (m := 4) rfl rfl Try.underlying36) ?_
  refine WT.nil ?_
  refine thn_n ?_
  refine WP.block ?_
  refine WP.loopU (WI.round ?_)
  refine WP.seq ?_
  refine WP.reg ?_
  refine WL.q (Wn.no rfl) rfl rfl (R.bin (v := (.bool true)) rfl rfl (bi_lss (r := true) (by decide))) ?_
  refine WL.nil ?_
  refine thn_n ?_
  refine WP.seq ?_
  refine WP.condT rfl ?_
  refine WP.skip ?_
  refine thn_n ?_
  refine WP.seq ?_
  refine WP.block ?_
  refine WP.seq ?_
  refine WP.reg ?_
  refine WL.q (Wn.no rfl) rfl rfl (R.indexP (b := b_21) (off := 0) (off' := 0) (i := 0) rfl rfl rfl (by decide) Try.underlying36 Try.sizeOf37 rfl) ?_
  refine WL.q (Wn.no rfl) rfl rfl (R.loadE (b := b_21) (off := 0) (i := 0) (v := (.slice (some ⟨b_16, 0, none⟩) 8 8)) rfl Try.isAgg37 (h_23.ok _ (.head _)) Sg.h rfl rfl) ?_
  refine WL.q (Wn.no rfl) rfl rfl (R.assign (v := (.slice (some ⟨b_16, 0, none⟩) 8 8)) rfl) ?_
  refine WL.nil ?_
  refine thn_n ?_
  refine WP.reg ?_
  refine WL.q (Wn.no rfl) rfl rfl (R.move (v := (Value.func (Fn.func 77) [].toArray [(Value.pointer (some ⟨b_10, 0, none⟩))].toArray)) rfl) ?_
  refine WL.q (Wn.no rfl) rfl rfl (R.move (v := (.slice (some ⟨b_16, 0, none⟩) 8 8)) rfl) ?_
  have h_24 := h_23.rowNil 5 1
  have h_25 := h_24.up (Pick.t (Pick.t (Pick.t Pick.h)))
  refine WL.call (al := [(.slice (some ⟨b_16, 0, none⟩) 8 8), (.pointer (some ⟨b_10, 0, none⟩))]) Try.call77 rfl rfl (c_rB1 (some ⟨b_16, 0, none⟩) 8 8 ([114, 101, 112, 111, 114, 116, 0, 0] : List UInt8) (rfl : List.length ([114, 101, 112, 111, 114, 116, 0, 0] : List UInt8) = 8) b_10 none 0 0 ([] : List UInt8) (rfl : List.length ([] : List UInt8) = 0) (by omega) (by omega) _ (viewB (h_25.ok _ (.tail _ (.tail _ (.tail _ (.head _))))) Sg.h) h_25) rfl ?_
  rintro _ w_28 ⟨a_26, c_27, rfl, h_29⟩
  refine WL.nil ?_
  refine inb_n ?_
  refine thn_n ?_
  refine WP.reg ?_
  refine WL.q (Wn.no rfl) rfl rfl (R.bin (v := (vi 1)) rfl rfl (bi_add (c := 1) (by omega) (by omega))) ?_
  refine WL.q (Wn.no rfl) rfl rfl (R.move (v := (vi 1)) rfl) ?_
  refine WL.nil ?_
  refine thn_n ?_
  refine WI.round ?_
  refine WP.seq ?_
  refine WP.reg ?_
  refine WL.q (Wn.no rfl) rfl rfl (R.bin (v := (.bool true)) rfl rfl (bi_lss (r := true) (by decide))) ?_
  refine WL.nil ?_
  refine thn_n ?_
  refine WP.seq ?_
  refine WP.condT rfl ?_
  refine WP.skip ?_
  refine thn_n ?_
  refine WP.seq ?_
  refine WP.block ?_
  refine WP.seq ?_
  refine WP.reg ?_
  refine WL.q (Wn.no rfl) rfl rfl (R.indexP (b := b_21) (off := 0) (off' := 1) (i := 1) rfl rfl rfl (by decide) Try.underlying36 Try.sizeOf37 rfl) ?_
  refine WL.q (Wn.no rfl) rfl rfl (R.loadE (b := b_21) (off := 1) (i := 1) (v := (.slice a_4 8 cap_5)) rfl Try.isAgg37 (h_29.ok _ (.tail _ (.tail _ (.head _)))) Sg.h rfl rfl) ?_
  refine WL.q (Wn.no rfl) rfl rfl (R.assign (v := (.slice a_4 8 cap_5)) rfl) ?_
  refine WL.nil ?_
  refine thn_n ?_
  refine WP.reg ?_
  refine WL.q (Wn.no rfl) rfl rfl (R.move (v := (Value.func (Fn.func 77) [].toArray [(Value.pointer (some ⟨b_10, 0, none⟩))].toArray)) rfl) ?_
  refine WL.q (Wn.no rfl) rfl rfl (R.move (v := (.slice a_4 8 cap_5)) rfl) ?_
  have h_30 := h_29.up (Pick.t Pick.h)
  have h_31 := h_30.up (Pick.t Pick.h)
  refine WL.call (al := [(.slice a_4 8 cap_5), (.pointer (some ⟨b_10, 0, none⟩))]) Try.call77 rfl rfl (c_rB1 a_4 8 cap_5 (leN 8 ins.toNat) (leN_len ..) b_10 a_26 8 c_27 (([] : List UInt8) ++ ([114, 101, 112, 111, 114, 116, 0, 0] : List UInt8)) (lenApp (a := 0) (b := 8) (rfl : List.length ([] : List UInt8) = 0) (rfl : List.length ([114, 101, 112, 111, 114, 116, 0, 0] : List UInt8) = 8) (by omega) : List.length (([] : List UInt8) ++ ([114, 101, 112, 111, 114, 116, 0, 0] : List UInt8)) = 8) (by omega) (by omega) _ (ownView (h_31.ok _ (.tail _ (.tail _ (.tail _ (.tail _ (.head _))))))) h_31) rfl ?_
  rintro _ w_34 ⟨a_32, c_33, rfl, h_35⟩
  refine WL.nil ?_
  refine inb_n ?_
  refine thn_n ?_
  refine WP.reg ?_
  refine WL.q (Wn.no rfl) rfl rfl (R.bin (v := (vi 2)) rfl rfl (bi_add (c := 2) (by omega) (by omega))) ?_
  refine WL.q (Wn.no rfl) rfl rfl (R.move (v := (vi 2)) rfl) ?_
  refine WL.nil ?_
  refine thn_n ?_
  refine WI.round ?_
  refine WP.seq ?_
  refine WP.reg ?_
  refine WL.q (Wn.no rfl) rfl rfl (R.bin (v := (.bool true)) rfl rfl (bi_lss (r := true) (by decide))) ?_
  refine WL.nil ?_
  refine thn_n ?_
  refine WP.seq ?_
  refine WP.condT rfl ?_
  refine WP.skip ?_
  refine thn_n ?_
  refine WP.seq ?_
  refine WP.block ?_
  refine WP.seq ?_
  refine WP.reg ?_
  refine WL.q (Wn.no rfl) rfl rfl (R.indexP (b := b_21) (off := 0) (off' := 2) (i := 2) rfl rfl rfl (by decide) Try.underlying36 Try.sizeOf37 rfl) ?_
  refine WL.q (Wn.no rfl) rfl rfl (R.loadE (b := b_21) (off := 2) (i := 2) (v := (.slice (some ⟨b_1, 1, none⟩) 32 32)) rfl Try.isAgg37 (h_35.ok _ (.tail _ (.tail _ (.head _)))) Sg.h rfl rfl) ?_
  refine WL.q (Wn.no rfl) rfl rfl (R.assign (v := (.slice (some ⟨b_1, 1, none⟩) 32 32)) rfl) ?_
  refine WL.nil ?_
  refine thn_n ?_
  refine WP.reg ?_
  refine WL.q (Wn.no rfl) rfl rfl (R.move (v := (Value.func (Fn.func 77) [].toArray [(Value.pointer (some ⟨b_10, 0, none⟩))].toArray)) rfl) ?_
  refine WL.q (Wn.no rfl) rfl rfl (R.move (v := (.slice (some ⟨b_1, 1, none⟩) 32 32)) rfl) ?_
  have h_36 := h_35.up (Pick.t Pick.h)
  have h_37 := h_36.up (Pick.t Pick.h)
  refine WL.call (al := [(.slice (some ⟨b_1, 1, none⟩) 32 32), (.pointer (some ⟨b_10, 0, none⟩))]) Try.call77 rfl rfl (c_rB1 (some ⟨b_1, 1, none⟩) 32 32 me hme b_10 a_32 16 c_33 ((([] : List UInt8) ++ ([114, 101, 112, 111, 114, 116, 0, 0] : List UInt8)) ++ (leN 8 ins.toNat)) (lenApp (a := 8) (b := 8) (lenApp (a := 0) (b := 8) (rfl : List.length ([] : List UInt8) = 0) (rfl : List.length ([114, 101, 112, 111, 114, 116, 0, 0] : List UInt8) = 8) (by omega) : List.length (([] : List UInt8) ++ ([114, 101, 112, 111, 114, 116, 0, 0] : List UInt8)) = 8) (leN_len ..) (by omega) : List.length ((([] : List UInt8) ++ ([114, 101, 112, 111, 114, 116, 0, 0] : List UInt8)) ++ (leN 8 ins.toNat)) = 16) (by omega) (by omega) _ (viewB (h_37.ok _ (.tail _ (.tail _ (.tail _ (.tail _ (.tail _ (.head _))))))) (Sg.t rfl Sg.h)) h_37) rfl ?_
  rintro _ w_40 ⟨a_38, c_39, rfl, h_41⟩
  refine WL.nil ?_
  refine inb_n ?_
  refine thn_n ?_
  refine WP.reg ?_
  refine WL.q (Wn.no rfl) rfl rfl (R.bin (v := (vi 3)) rfl rfl (bi_add (c := 3) (by omega) (by omega))) ?_
  refine WL.q (Wn.no rfl) rfl rfl (R.move (v := (vi 3)) rfl) ?_
  refine WL.nil ?_
  refine thn_n ?_
  refine WI.round ?_
  refine WP.seq ?_
  refine WP.reg ?_
  refine WL.q (Wn.no rfl) rfl rfl (R.bin (v := (.bool true)) rfl rfl (bi_lss (r := true) (by decide))) ?_
  refine WL.nil ?_
  refine thn_n ?_
  refine WP.seq ?_
  refine WP.condT rfl ?_
  refine WP.skip ?_
  refine thn_n ?_
  refine WP.seq ?_
  refine WP.block ?_
  refine WP.seq ?_
  refine WP.reg ?_
  refine WL.q (Wn.no rfl) rfl rfl (R.indexP (b := b_21) (off := 0) (off' := 3) (i := 3) rfl rfl rfl (by decide) Try.underlying36 Try.sizeOf37 rfl) ?_
  refine WL.q (Wn.no rfl) rfl rfl (R.loadE (b := b_21) (off := 3) (i := 3) (v := (.slice (some ⟨b_1, 33, none⟩) 32 32)) rfl Try.isAgg37 (h_41.ok _ (.tail _ (.tail _ (.head _)))) Sg.h rfl rfl) ?_
  refine WL.q (Wn.no rfl) rfl rfl (R.assign (v := (.slice (some ⟨b_1, 33, none⟩) 32 32)) rfl) ?_
  refine WL.nil ?_
  refine thn_n ?_
  refine WP.reg ?_
  refine WL.q (Wn.no rfl) rfl rfl (R.move (v := (Value.func (Fn.func 77) [].toArray [(Value.pointer (some ⟨b_10, 0, none⟩))].toArray)) rfl) ?_
  refine WL.q (Wn.no rfl) rfl rfl (R.move (v := (.slice (some ⟨b_1, 33, none⟩) 32 32)) rfl) ?_
  have h_42 := h_41.up (Pick.t Pick.h)
  have h_43 := h_42.up (Pick.t Pick.h)
  refine WL.call (al := [(.slice (some ⟨b_1, 33, none⟩) 32 32), (.pointer (some ⟨b_10, 0, none⟩))]) Try.call77 rfl rfl (c_rB1 (some ⟨b_1, 33, none⟩) 32 32 ch hch b_10 a_38 48 c_39 (((([] : List UInt8) ++ ([114, 101, 112, 111, 114, 116, 0, 0] : List UInt8)) ++ (leN 8 ins.toNat)) ++ me) (lenApp (a := 16) (b := 32) (lenApp (a := 8) (b := 8) (lenApp (a := 0) (b := 8) (rfl : List.length ([] : List UInt8) = 0) (rfl : List.length ([114, 101, 112, 111, 114, 116, 0, 0] : List UInt8) = 8) (by omega) : List.length (([] : List UInt8) ++ ([114, 101, 112, 111, 114, 116, 0, 0] : List UInt8)) = 8) (leN_len ..) (by omega) : List.length ((([] : List UInt8) ++ ([114, 101, 112, 111, 114, 116, 0, 0] : List UInt8)) ++ (leN 8 ins.toNat)) = 16) hme (by omega) : List.length (((([] : List UInt8) ++ ([114, 101, 112, 111, 114, 116, 0, 0] : List UInt8)) ++ (leN 8 ins.toNat)) ++ me) = 48) (by omega) (by omega) _ (viewB (h_43.ok _ (.tail _ (.tail _ (.tail _ (.tail _ (.tail _ (.head _))))))) (Sg.t rfl (Sg.t rfl Sg.h))) h_43) rfl ?_
  rintro _ w_46 ⟨a_44, c_45, rfl, h_47⟩
  refine WL.nil ?_
  refine inb_n ?_
  refine thn_n ?_
  refine WP.reg ?_
  refine WL.q (Wn.no rfl) rfl rfl (R.bin (v := (vi 4)) rfl rfl (bi_add (c := 4) (by omega) (by omega))) ?_
  refine WL.q (Wn.no rfl) rfl rfl (R.move (v := (vi 4)) rfl) ?_
  refine WL.nil ?_
  refine thn_n ?_
  refine WI.round ?_
  refine WP.seq ?_
  refine WP.reg ?_
  refine WL.q (Wn.no rfl) rfl rfl (R.bin (v := (.bool false)) rfl rfl (bi_lss (r := false) (by decide))) ?_
  refine WL.nil ?_
  refine thn_n ?_
  refine WP.seq ?_
  refine WP.condF rfl ?_
  refine WP.exit ?_
  refine thn_x ?_
  refine thn_x ?_
  refine inb_hit ?_
  refine thn_n ?_
  refine WP.seq ?_
  refine WP.reg ?_
  refine WL.q (Wn.no rfl) rfl rfl (R.load1 (b := b_10) (off := 0) (v := (.slice a_44 80 c_45)) rfl Try.isAgg37 (h_47.ok _ (.head _)) Sg.h) ?_
  refine WL.q (Wn.no rfl) rfl rfl (R.assign (v := (.slice a_44 80 c_45)) rfl) ?_
  refine WL.nil ?_
  refine thn_n ?_
  refine WP.ret ?_
  refine ret_of Try.results46 (RV.tmp (v := (.slice a_44 80 c_45)) rfl RV.nil) ?_
  exact ⟨_, _, rfl, h_47.chgS, by first | exact h_47.ok _ (.tail _ (.head _)) | (have hx := h_47.own (.tail _ (.head _)); simpa [repB, markB] using hx)⟩

theorem me_len {bs : List UInt8} (h : 80 ≤ bs.length) : (me_of bs).length = 32 := by simp only [me_of, List.length_take, List.length_drop]; omega
theorem ch_len {bs : List UInt8} (h : 80 ≤ bs.length) : (ch_of bs).length = 32 := by simp only [ch_of, List.length_take, List.length_drop]; omega
theorem me_eq (bs : List UInt8) : (cutR bs).getD 2 [] = me_of bs := by simp [cutR, me_of]
theorem ch_eq (bs : List UInt8) : (cutR bs).getD 3 [] = ch_of bs := by simp [cutR, ch_of]
end Go.Proofs.Ytnhppjimimhlkaa
