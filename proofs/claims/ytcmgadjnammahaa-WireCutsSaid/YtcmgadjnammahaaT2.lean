/- Texts: contracts. Conditions: those that each theorem states. -/
import Derived.Test.YtcmgadjnammahaaT1
import Derived.Test.YtcmgadjnammahaaVcO
namespace Go.Proofs.Ytcmgadjnammahaa
open Go.Vc Go.RowKit
set_option linter.unusedVariables false
set_option linter.unusedSimpArgs false
set_option maxRecDepth 20000
theorem ce5 : Try.prog.cellsOf 5 = 1 := by kernel_rfl
theorem u8all {p : UInt8 → Prop} (h : ∀ n : Nat, n < 256 → p (UInt8.ofNat n)) (x : UInt8) : p x := by
  have := h x.toNat x.toNat_lt
  simpa using this
theorem hx_hi : ∀ x : UInt8, (shr8 x 4).toNat < 16 := u8all (by decide +kernel)
theorem hx_lo : ∀ x : UInt8, (x &&& 15).toNat < 16 := u8all (by decide +kernel)
theorem hx_a : ∀ x : UInt8, ([48, 49, 50, 51, 52, 53, 54, 55, 56, 57, 97, 98, 99, 100, 101, 102] : List UInt8).getD (shr8 x 4).toNat 0 = Go.Wr.hdg (x / 16) := u8all (by decide +kernel)
theorem hx_b : ∀ x : UInt8, ([48, 49, 50, 51, 52, 53, 54, 55, 56, 57, 97, 98, 99, 100, 101, 102] : List UInt8).getD (x &&& 15).toNat 0 = Go.Wr.hdg (x % 16) := u8all (by decide +kernel)
theorem hx_step {bs : List UInt8} {k : Nat} (hk : k < bs.length) : (Go.Wr.hexL (bs.take k) ++ ([([48, 49, 50, 51, 52, 53, 54, 55, 56, 57, 97, 98, 99, 100, 101, 102] : List UInt8).getD (shr8 (bs.getD k 0) 4).toNat 0] : List UInt8)) ++ ([([48, 49, 50, 51, 52, 53, 54, 55, 56, 57, 97, 98, 99, 100, 101, 102] : List UInt8).getD (bs.getD k 0 &&& 15).toNat 0] : List UInt8) = Go.Wr.hexL (bs.take (k + 1)) := by
  rw [hx_a, hx_b, take_snoc bs k 0 hk, Go.Wr.hexL_app, List.append_assoc]; rfl
theorem hx_take {bs : List UInt8} {k : Nat} (hk : k ≤ bs.length) : (Go.Wr.hexL (bs.take k)).length = 2 * k := by rw [Go.Wr.hexL_len, List.length_take]; omega
def ixd (c : UInt8) : Int := if Go.Wr.dig c ≤ 15 then ((Go.Wr.dig c).toNat : Int) else -1
theorem ix_eq : ∀ c : UInt8, Go.Lib.indexByte ([48, 49, 50, 51, 52, 53, 54, 55, 56, 57, 97, 98, 99, 100, 101, 102] : List UInt8) c = ixd c := u8all (by decide +kernel)
theorem ix_ok {c : UInt8} (h : Go.Lib.indexByte ([48, 49, 50, 51, 52, 53, 54, 55, 56, 57, 97, 98, 99, 100, 101, 102] : List UInt8) c ≥ 0) : Go.Wr.dig c ≤ 15 ∧ Go.Lib.indexByte ([48, 49, 50, 51, 52, 53, 54, 55, 56, 57, 97, 98, 99, 100, 101, 102] : List UInt8) c = ((Go.Wr.dig c).toNat : Int) := by
  rw [ix_eq, ixd] at h ⊢
  by_cases hc : Go.Wr.dig c ≤ 15
  · exact ⟨hc, if_pos hc⟩
  · rw [if_neg hc] at h; omega
theorem ix_bad {c : UInt8} (h : ¬ Go.Lib.indexByte ([48, 49, 50, 51, 52, 53, 54, 55, 56, 57, 97, 98, 99, 100, 101, 102] : List UInt8) c ≥ 0) : ¬ Go.Wr.dig c ≤ 15 := by
  rw [ix_eq, ixd] at h
  intro hc
  rw [if_pos hc] at h; omega
theorem or_byte : ∀ m, m < 16 → ∀ n, n < 16 → UInt8.ofNat (m * 2 ^ 4 ||| n) = UInt8.ofNat m * 16 + UInt8.ofNat n := by decide +kernel
theorem or_dig {x y : UInt8} (hx : x ≤ 15) (hy : y ≤ 15) : UInt8.ofNat (x.toNat * 2 ^ 4 ||| y.toNat) = x * 16 + y := by
  have h1 : x.toNat ≤ 15 := UInt8.le_iff_toNat_le.1 hx
  have h2 : y.toNat ≤ 15 := UInt8.le_iff_toNat_le.1 hy
  have := or_byte x.toNat (by omega) y.toNat (by omega)
  simpa using this
theorem or_lt {x y : UInt8} : x.toNat * 2 ^ 4 < 9223372036854775808 := by have := x.toNat_lt; omega
theorem hg_ok {l : List UInt8} {k : Nat} (h1 : Go.Wr.dig (l.getD (2 * k) 0) ≤ 15) (h2 : Go.Wr.dig (l.getD (2 * k + 1) 0) ≤ 15) : Go.Wr.hg l k = true := by
  rw [Go.Wr.hg, decide_eq_true h1, decide_eq_true h2]; rfl
theorem hg_no {l : List UInt8} {k : Nat} (h : ¬ Go.Wr.dig (l.getD (2 * k) 0) ≤ 15 ∨ ¬ Go.Wr.dig (l.getD (2 * k + 1) 0) ≤ 15) : Go.Wr.hg l k = false := by
  rw [Go.Wr.hg]
  rcases h with h | h
  · rw [decide_eq_false h]; rfl
  · rw [decide_eq_false h, Bool.and_false]
theorem un_snoc {l : List UInt8} {k : Nat} (h1 : Go.Wr.dig (l.getD (2 * k) 0) ≤ 15) (h2 : Go.Wr.dig (l.getD (2 * k + 1) 0) ≤ 15) :
    Go.Wr.unhexL l k ++ ([UInt8.ofNat ((Go.Wr.dig (l.getD (2 * k) 0)).toNat * 2 ^ 4 ||| (Go.Wr.dig (l.getD (2 * k + 1) 0)).toNat)] : List UInt8) = Go.Wr.unhexL l (k + 1) := by
  rw [or_dig h1 h2, Go.Wr.unhexL_succ]; rfl
theorem un_snocR {l : List UInt8} {k : Nat} : Go.Wr.unhexL l k ++ ([Go.Wr.dig (l.getD (2 * k) 0) * 16 + Go.Wr.dig (l.getD (2 * k + 1) 0)] : List UInt8) = Go.Wr.unhexL l (k + 1) := by
  rw [Go.Wr.unhexL_succ]; rfl
theorem okHex_odd {l : List UInt8} {n : Nat} (hl : l.length = n) (h : ¬ n % 2 = 0) : Go.Wr.okHex l = false := by
  rw [Go.Wr.okHex, decide_eq_false (by rw [hl]; exact h), Bool.false_and]
theorem c_num1 (e : Int) (be : -9223372036854775808 ≤ e ∧ e < 9223372036854775808) (w : World) :
    Cs Try.prog 18 [(vi e)].toArray w (fun v w1 => v = vi e ∧ Chg w w1 []) := by
  refine Cs.of (n := 4) (args := [(vi e)]) Try.func18 rfl rfl rfl ?_
  have h_0 := HP.init w
  refine WP.seq ?_
  refine WP.reg ?_
  refine WL.q (Wn.no rfl) rfl rfl (R.assign (v := (vi 0)) rfl) ?_
  refine WL.nil ?_
  refine thn_n ?_
  refine WP.seq ?_
  refine WP.reg ?_
  refine WL.q (Wn.no rfl) rfl rfl (R.move (v := (vi e)) rfl) ?_
  refine WL.q (Wn.no rfl) rfl rfl (R.assign (v := (vi e)) rfl) ?_
  refine WL.nil ?_
  refine thn_n ?_
  refine WP.ret ?_
  refine ret_of Try.results18 (RV.tmp (v := (vi e)) rfl RV.nil) ?_
  exact ⟨rfl, h_0.chgS⟩

theorem c_copyCheck_n {w00 : World} {L : List Ent} (bb : Nat) (a : Option Addr) (n cap : Nat) (w : World) (h_0 : HP w00 w (Ent.blk bb .nw 87 [(1, [(.pointer none)]), (1, [(.slice a n cap)])] :: L)) :
    Cs Try.prog 90 [(.pointer (some ⟨bb, 0, none⟩))].toArray w (fun v w1 => v = .tuple [].toArray ∧ HP w00 w1 (Ent.blk bb .nw 87 [(1, [(.pointer (some ⟨bb, 0, none⟩))]), (1, [(.slice a n cap)])] :: L)) := by
  refine Cs.of (n := 20) (args := [(.pointer (some ⟨bb, 0, none⟩))]) Try.func90 rfl rfl rfl ?_
  refine WP.seq ?_
  refine WP.reg ?_
  refine WL.q (Wn.no rfl) rfl rfl (R.move (v := (.pointer (some ⟨bb, 0, none⟩))) rfl) ?_
  refine WL.q (Wn.no rfl) rfl rfl (R.nilCheck rfl) ?_
  refine WL.q (Wn.no rfl) rfl rfl (R.fieldAddr (b := bb) (off := 0) (off' := 0) rfl Try.underlying87 rfl Try.sizeOf85 rfl rfl) ?_
  refine WL.q (Wn.no rfl) rfl rfl (R.load1 (b := bb) (off := 0) (v := (.pointer none)) rfl Try.isAgg85 (h_0.ok _ (.head _)) Sg.h) ?_
  refine WL.q (Wn.no rfl) rfl rfl (R.eqNilP rfl rfl Try.underlying85) ?_
  refine WL.nil ?_
  refine thn_n ?_
  refine WP.condT rfl ?_
  refine WP.reg ?_
  refine WL.q (Wn.no rfl) rfl rfl (R.move (v := (.pointer (some ⟨bb, 0, none⟩))) rfl) ?_
  refine WL.q (Wn.no rfl) rfl rfl (R.move (v := (.pointer (some ⟨bb, 0, none⟩))) rfl) ?_
  refine WL.q (Wn.no rfl) rfl rfl (R.toUnsafe (segs := [(1, [(.pointer none)]), (1, [(.slice a n cap)])]) rfl Try.underlying85 Try.underlying111 rfl rfl (h_0.ok _ (.head _)) rfl) ?_
  refine WL.q (Wn.no rfl) rfl rfl (R.native (al := [(.pointer (some ⟨bb, 0, none⟩))]) (v := (.pointer (some ⟨bb, 0, none⟩))) rfl rfl (fun w => (run_callFunc_extern Try.func95 (by kernel_rfl) (by kernel_rfl) (by kernel_rfl) (e := Extern.AbiNoEscape.same) (by kernel_rfl) _ w).trans rfl)) ?_
  refine WL.q (Wn.no rfl) rfl rfl (R.fromUnsafe (segs := [(1, [(.pointer none)]), (1, [(.slice a n cap)])]) rfl Try.underlying111 Try.underlying85 rfl (h_0.ok _ (.head _)) (by kernel_rfl)) ?_
  refine WL.q (Wn.no rfl) rfl rfl (R.nilCheck rfl) ?_
  refine WL.q (Wn.no rfl) rfl rfl (R.fieldAddr (b := bb) (off := 0) (off' := 0) rfl Try.underlying87 rfl Try.sizeOf85 rfl rfl) ?_
  refine WL.store1 (b := bb) (off := 0) (v := (.pointer (some ⟨bb, 0, none⟩))) h_0 rfl rfl Try.sizeOf85 rfl At.h (by decide) Sg.h (fun w_1 h_2 => ?_)
  refine WL.nil ?_
  refine ret_n ?_
  refine ret_of Try.results90 RV.nil ?_
  exact ⟨rfl, h_2⟩

theorem c_copyCheck_s {w00 : World} {L : List Ent} (bb : Nat) (a : Option Addr) (n cap : Nat) (w : World) (h_0 : HP w00 w (Ent.blk bb .nw 87 [(1, [(.pointer (some ⟨bb, 0, none⟩))]), (1, [(.slice a n cap)])] :: L)) :
    Cs Try.prog 90 [(.pointer (some ⟨bb, 0, none⟩))].toArray w (fun v w1 => v = .tuple [].toArray ∧ HP w00 w1 (Ent.blk bb .nw 87 [(1, [(.pointer (some ⟨bb, 0, none⟩))]), (1, [(.slice a n cap)])] :: L)) := by
  refine Cs.of (n := 20) (args := [(.pointer (some ⟨bb, 0, none⟩))]) Try.func90 rfl rfl rfl ?_
  refine WP.seq ?_
  refine WP.reg ?_
  refine WL.q (Wn.no rfl) rfl rfl (R.move (v := (.pointer (some ⟨bb, 0, none⟩))) rfl) ?_
  refine WL.q (Wn.no rfl) rfl rfl (R.nilCheck rfl) ?_
  refine WL.q (Wn.no rfl) rfl rfl (R.fieldAddr (b := bb) (off := 0) (off' := 0) rfl Try.underlying87 rfl Try.sizeOf85 rfl rfl) ?_
  refine WL.q (Wn.no rfl) rfl rfl (R.load1 (b := bb) (off := 0) (v := (.pointer (some ⟨bb, 0, none⟩))) rfl Try.isAgg85 (h_0.ok _ (.head _)) Sg.h) ?_
  refine WL.q (Wn.no rfl) rfl rfl (R.eqNilP rfl rfl Try.underlying85) ?_
  refine WL.nil ?_
  refine thn_n ?_
  refine WP.condF rfl ?_
  refine WP.seq ?_
  refine WP.reg ?_
  refine WL.q (Wn.no rfl) rfl rfl (R.move (v := (.pointer (some ⟨bb, 0, none⟩))) rfl) ?_
  refine WL.q (Wn.no rfl) rfl rfl (R.nilCheck rfl) ?_
  refine WL.q (Wn.no rfl) rfl rfl (R.fieldAddr (b := bb) (off := 0) (off' := 0) rfl Try.underlying87 rfl Try.sizeOf85 rfl rfl) ?_
  refine WL.q (Wn.no rfl) rfl rfl (R.load1 (b := bb) (off := 0) (v := (.pointer (some ⟨bb, 0, none⟩))) rfl Try.isAgg85 (h_0.ok _ (.head _)) Sg.h) ?_
  refine WL.q (Wn.no rfl) rfl rfl (R.move (v := (.pointer (some ⟨bb, 0, none⟩))) rfl) ?_
  refine WL.q (Wn.no rfl) rfl rfl (R.neP rfl rfl Try.underlying85 Try.sizeOf87 rfl) ?_
  refine WL.nil ?_
  refine thn_n ?_
  refine WP.condF rfl ?_
  refine WP.skip ?_
  refine ret_n ?_
  refine ret_of Try.results90 RV.nil ?_
  exact ⟨rfl, h_0⟩

theorem c_WriteByte_n {w00 : World} {L : List Ent} (bb : Nat) (c : UInt8) (a : Option Addr) (n cap : Nat) (l : List UInt8) (hl : l.length = n) (hn : n ≤ 1099511627776) (w : World) (h_0 : HP w00 w (Ent.row a n cap 5 1 ((l).map vu8) :: Ent.blk bb .nw 87 [(1, [(.pointer none)]), (1, [(.slice a n cap)])] :: L)) :
    Cs Try.prog 70 [(.pointer (some ⟨bb, 0, none⟩)), (vu8 c)].toArray w (fun v w1 => ∃ a1 c1, v = .nilIface ∧ HP w00 w1 (Ent.row a1 (n + 1) c1 5 1 ((l ++ ([c] : List UInt8)).map vu8) :: Ent.blk bb .nw 87 [(1, [(.pointer (some ⟨bb, 0, none⟩))]), (1, [(.slice a1 (n + 1) c1)])] :: L)) := by
  refine Cs.of (n := 17) (args := [(.pointer (some ⟨bb, 0, none⟩)), (vu8 c)]) Try.func70 rfl rfl rfl ?_
  refine WP.seq ?_
  refine WP.reg ?_
  refine WL.q (Wn.no rfl) rfl rfl (R.assign (v := .nilIface) rfl) ?_
  refine WL.nil ?_
  refine thn_n ?_
  refine WP.seq ?_
  refine WP.reg ?_
  refine WL.q (Wn.no rfl) rfl rfl (R.move (v := (.pointer (some ⟨bb, 0, none⟩))) rfl) ?_
  have h_1 := h_0.up (Pick.t Pick.h)
  refine WL.call (al := [(.pointer (some ⟨bb, 0, none⟩))]) Try.call90 rfl rfl (c_copyCheck_n bb a n cap _ h_1) rfl ?_
  rintro _ w_2 ⟨rfl, h_3⟩
  refine WL.nil ?_
  refine thn_n ?_
  refine WP.seq ?_
  refine WP.reg ?_
  refine WL.q (Wn.no rfl) rfl rfl (R.move (v := (.pointer (some ⟨bb, 0, none⟩))) rfl) ?_
  refine WL.q (Wn.no rfl) rfl rfl (R.move (v := (.pointer (some ⟨bb, 0, none⟩))) rfl) ?_
  refine WL.q (Wn.no rfl) rfl rfl (R.nilCheck rfl) ?_
  refine WL.q (Wn.no rfl) rfl rfl (R.fieldAddr (b := bb) (off := 0) (off' := 1) rfl Try.underlying87 rfl Try.sizeOf23 rfl rfl) ?_
  refine WL.q (Wn.no rfl) rfl rfl (R.load1 (b := bb) (off := 1) (v := (.slice a n cap)) rfl Try.isAgg23 (h_3.ok _ (.head _)) (Sg.t rfl Sg.h)) ?_
  refine WL.q (Wn.no rfl) rfl rfl (R.move (v := (vu8 c)) rfl) ?_
  refine WL.buildSl (vs := [(0, (vu8 c))]) (cs := ([c] : List UInt8).map vu8) h_3 Try.underlying23 Try.sizeOf5 (zv Try.typeInfo5 rfl) rfl rfl (by kernel_rfl) rfl (one_u8 _) rfl rfl (fun b_4 w_5 h_6 => ?_)
  refine WL.append (km := n + 1) (xs := (l).map vu8) (ys := ([c] : List UInt8).map vu8) (zs := (l ++ ([c] : List UInt8)).map vu8) h_6 rfl rfl el23 (viewB (h_6.ok _ (.head _)) Sg.h) ((len_map (rfl : List.length ([c] : List UInt8) = 1)).trans (Nat.mul_one _).symm) (one_u8 _) (by simp only [List.map_append, List.map_nil]) (by omega) (by omega) (by omega) (fun _ _ => (At.t (At.t At.h))) rfl (fun a_7 c_8 w_9 h_10 => ?_)
  refine WL.q (Wn.no rfl) rfl rfl (R.nilCheck rfl) ?_
  refine WL.q (Wn.no rfl) rfl rfl (R.fieldAddr (b := bb) (off := 0) (off' := 1) rfl Try.underlying87 rfl Try.sizeOf23 rfl rfl) ?_
  refine WL.store1 (b := bb) (off := 1) (v := (.slice a_7 (n + 1) c_8)) h_10 rfl rfl Try.sizeOf23 rfl (At.t At.h) (by decide) (Sg.t rfl Sg.h) (fun w_11 h_12 => ?_)
  refine WL.nil ?_
  refine thn_n ?_
  refine WP.seq ?_
  refine WP.reg ?_
  refine WL.q (Wn.no rfl) rfl rfl (R.assign (v := .nilIface) rfl) ?_
  refine WL.nil ?_
  refine thn_n ?_
  refine WP.ret ?_
  refine ret_of Try.results70 (RV.tmp (v := .nilIface) rfl RV.nil) ?_
  have h_13 := h_12.drop rfl
  have h_14 := h_13.up (Pick.t Pick.h)
  exact ⟨_, _, rfl, h_14⟩

theorem c_WriteByte_s {w00 : World} {L : List Ent} (bb : Nat) (c : UInt8) (a : Option Addr) (n cap : Nat) (l : List UInt8) (hl : l.length = n) (hn : n ≤ 1099511627776) (w : World) (h_0 : HP w00 w (Ent.row a n cap 5 1 ((l).map vu8) :: Ent.blk bb .nw 87 [(1, [(.pointer (some ⟨bb, 0, none⟩))]), (1, [(.slice a n cap)])] :: L)) :
    Cs Try.prog 70 [(.pointer (some ⟨bb, 0, none⟩)), (vu8 c)].toArray w (fun v w1 => ∃ a1 c1, v = .nilIface ∧ HP w00 w1 (Ent.row a1 (n + 1) c1 5 1 ((l ++ ([c] : List UInt8)).map vu8) :: Ent.blk bb .nw 87 [(1, [(.pointer (some ⟨bb, 0, none⟩))]), (1, [(.slice a1 (n + 1) c1)])] :: L)) := by
  refine Cs.of (n := 17) (args := [(.pointer (some ⟨bb, 0, none⟩)), (vu8 c)]) Try.func70 rfl rfl rfl ?_
  refine WP.seq ?_
  refine WP.reg ?_
  refine WL.q (Wn.no rfl) rfl rfl (R.assign (v := .nilIface) rfl) ?_
  refine WL.nil ?_
  refine thn_n ?_
  refine WP.seq ?_
  refine WP.reg ?_
  refine WL.q (Wn.no rfl) rfl rfl (R.move (v := (.pointer (some ⟨bb, 0, none⟩))) rfl) ?_
  have h_1 := h_0.up (Pick.t Pick.h)
  refine WL.call (al := [(.pointer (some ⟨bb, 0, none⟩))]) Try.call90 rfl rfl (c_copyCheck_s bb a n cap _ h_1) rfl ?_
  rintro _ w_2 ⟨rfl, h_3⟩
  refine WL.nil ?_
  refine thn_n ?_
  refine WP.seq ?_
  refine WP.reg ?_
  refine WL.q (Wn.no rfl) rfl rfl (R.move (v := (.pointer (some ⟨bb, 0, none⟩))) rfl) ?_
  refine WL.q (Wn.no rfl) rfl rfl (R.move (v := (.pointer (some ⟨bb, 0, none⟩))) rfl) ?_
  refine WL.q (Wn.no rfl) rfl rfl (R.nilCheck rfl) ?_
  refine WL.q (Wn.no rfl) rfl rfl (R.fieldAddr (b := bb) (off := 0) (off' := 1) rfl Try.underlying87 rfl Try.sizeOf23 rfl rfl) ?_
  refine WL.q (Wn.no rfl) rfl rfl (R.load1 (b := bb) (off := 1) (v := (.slice a n cap)) rfl Try.isAgg23 (h_3.ok _ (.head _)) (Sg.t rfl Sg.h)) ?_
  refine WL.q (Wn.no rfl) rfl rfl (R.move (v := (vu8 c)) rfl) ?_
  refine WL.buildSl (vs := [(0, (vu8 c))]) (cs := ([c] : List UInt8).map vu8) h_3 Try.underlying23 Try.sizeOf5 (zv Try.typeInfo5 rfl) rfl rfl (by kernel_rfl) rfl (one_u8 _) rfl rfl (fun b_4 w_5 h_6 => ?_)
  refine WL.append (km := n + 1) (xs := (l).map vu8) (ys := ([c] : List UInt8).map vu8) (zs := (l ++ ([c] : List UInt8)).map vu8) h_6 rfl rfl el23 (viewB (h_6.ok _ (.head _)) Sg.h) ((len_map (rfl : List.length ([c] : List UInt8) = 1)).trans (Nat.mul_one _).symm) (one_u8 _) (by simp only [List.map_append, List.map_nil]) (by omega) (by omega) (by omega) (fun _ _ => (At.t (At.t At.h))) rfl (fun a_7 c_8 w_9 h_10 => ?_)
  refine WL.q (Wn.no rfl) rfl rfl (R.nilCheck rfl) ?_
  refine WL.q (Wn.no rfl) rfl rfl (R.fieldAddr (b := bb) (off := 0) (off' := 1) rfl Try.underlying87 rfl Try.sizeOf23 rfl rfl) ?_
  refine WL.store1 (b := bb) (off := 1) (v := (.slice a_7 (n + 1) c_8)) h_10 rfl rfl Try.sizeOf23 rfl (At.t At.h) (by decide) (Sg.t rfl Sg.h) (fun w_11 h_12 => ?_)
  refine WL.nil ?_
  refine thn_n ?_
  refine WP.seq ?_
  refine WP.reg ?_
  refine WL.q (Wn.no rfl) rfl rfl (R.assign (v := .nilIface) rfl) ?_
  refine WL.nil ?_
  refine thn_n ?_
  refine WP.ret ?_
  refine ret_of Try.results70 (RV.tmp (v := .nilIface) rfl RV.nil) ?_
  have h_13 := h_12.drop rfl
  have h_14 := h_13.up (Pick.t Pick.h)
  exact ⟨_, _, rfl, h_14⟩

theorem c_WriteByte {w00 : World} {L : List Ent} (bb : Nat) (c : UInt8) (a : Option Addr) (n cap : Nat) (l : List UInt8) (hl : l.length = n) (hn : n ≤ 1099511627776) (p : Value) (hp : p = .pointer none ∨ p = .pointer (some ⟨bb, 0, none⟩)) (w : World) (h_0 : HP w00 w (Ent.row a n cap 5 1 ((l).map vu8) :: Ent.blk bb .nw 87 [(1, [p]), (1, [.slice a n cap])] :: L)) :
    Cs Try.prog 70 [(.pointer (some ⟨bb, 0, none⟩)), (vu8 c)].toArray w (fun v w1 => ∃ a1 c1, v = .nilIface ∧ HP w00 w1 (Ent.row a1 (n + 1) c1 5 1 ((l ++ ([c] : List UInt8)).map vu8) :: Ent.blk bb .nw 87 [(1, [(.pointer (some ⟨bb, 0, none⟩))]), (1, [(.slice a1 (n + 1) c1)])] :: L)) := by
  rcases hp with rfl | rfl
  · exact c_WriteByte_n bb c a n cap l hl hn w h_0
  · exact c_WriteByte_s bb c a n cap l hl hn w h_0

theorem c_BString_1 {w00 : World} {L : List Ent} (bb g cap : Nat) (n : Nat) (h1 : 1 ≤ n) (l : List UInt8) (hl : l.length = n) (hn : n ≤ 1099511627776) (p : Value) (w : World) (h_0 : HP w00 w (Ent.row (some ⟨g, 0, none⟩) n cap 5 1 ((l).map vu8) :: Ent.blk bb .nw 87 [(1, [p]), (1, [(.slice (some ⟨g, 0, none⟩) n cap)])] :: L)) :
    Cs Try.prog 71 [(.pointer (some ⟨bb, 0, none⟩))].toArray w (fun v w1 => v = .string (bstr l) ∧ HP w00 w1 L) := by
  refine Cs.of (n := 14) (args := [(.pointer (some ⟨bb, 0, none⟩))]) Try.func71 rfl rfl rfl ?_
  refine WP.seq ?_
  refine WP.reg ?_
  refine WL.q (Wn.no rfl) rfl rfl (R.assign (v := (.string (bstr ([] : List UInt8)))) rfl) ?_
  refine WL.nil ?_
  refine thn_n ?_
  refine WP.seq ?_
  refine WP.drawT (SL w00.heap.size [.blk bb .nw 87 [(1, [p]), (1, [(.slice (some ⟨g, 0, none⟩) n cap)])]]) (.q 0 (.q 1 (.q 2 (.q 3 (.q 5 (.q 6 (.q 7 (.q 8 (.q 9 (.s 4 (.s 10 (.q 11 .nil)))))))))))) (by kernel_rfl) (by kernel_rfl) rfl (by kernel_rfl) (fun w_1 hc_3 => (SL.cons ((h_0.same hc_3).ok _ (.tail _ (.head _))) (SL.nil _ _))) (fun w_1 hc_3 => ?_)
  have h_2 := h_0.same hc_3
  refine WT.q rfl (Wn.no rfl) rfl rfl (fun wq hS => R.move (v := (.pointer (some ⟨bb, 0, none⟩))) rfl) ?_
  refine WT.q rfl (Wn.no rfl) rfl rfl (fun wq hS => R.nilCheck rfl) ?_
  refine WT.q rfl (Wn.no rfl) rfl rfl (fun wq hS => R.fieldAddr (b := bb) (off := 0) (off' := 1) rfl Try.underlying87 rfl Try.sizeOf23 rfl rfl) ?_
  refine WT.q rfl (Wn.no rfl) rfl rfl (fun wq hS => R.load1 (b := bb) (off := 1) (v := (.slice (some ⟨g, 0, none⟩) n cap)) rfl Try.isAgg23 (hS _ (.head _)) (Sg.t rfl Sg.h)) ?_
  refine WT.q rfl (Wn.no rfl) rfl rfl (fun wq hS => R.move (v := (.pointer (some ⟨bb, 0, none⟩))) rfl) ?_
  refine WT.q rfl (Wn.no rfl) rfl rfl (fun wq hS => R.nilCheck rfl) ?_
  refine WT.q rfl (Wn.no rfl) rfl rfl (fun wq hS => R.fieldAddr (b := bb) (off := 0) (off' := 1) rfl Try.underlying87 rfl Try.sizeOf23 rfl rfl) ?_
  refine WT.q rfl (Wn.no rfl) rfl rfl (fun wq hS => R.load1 (b := bb) (off := 1) (v := (.slice (some ⟨g, 0, none⟩) n cap)) rfl Try.isAgg23 (hS _ (.head _)) (Sg.t rfl Sg.h)) ?_
  refine WT.q rfl (Wn.no rfl) rfl rfl (fun wq hS => R.lenS (a := some ⟨g, 0, none⟩) (m := n) rfl rfl Try.underlying23) ?_
  refine WT.s ?_
  refine Op1.one rfl (Wn.no rfl) ?_
  refine WL.q (Wn.no rfl) rfl rfl (R.usdRow (c := cap) rfl (by have hcap := (h_2.own (.head _)).2.2.1; omega)) ?_
  refine WL.nil ?_
  refine ⟨(SL.cons (h_2.ok _ (.tail _ (.head _))) (SL.nil _ _)), ?_⟩
  refine WT.s ?_
  refine Op1.one rfl (Wn.no rfl) ?_
  refine WL.usString (l := l) h_2 hl (by omega) Try.underlying105 ce5 rfl rfl (by omega) rfl (fun w_4 h_5 => ?_)
  refine WL.nil ?_
  refine ⟨(SL.cons (h_5.ok _ (.head _)) (SL.nil _ _)), ?_⟩
  refine WT.q rfl (Wn.no rfl) rfl rfl (fun wq hS => R.assign (v := (.string (bstr l))) rfl) ?_
  refine WT.nil ?_
  refine thn_n ?_
  refine WP.ret ?_
  refine ret_of Try.results71 (RV.tmp (v := (.string (bstr l))) rfl RV.nil) ?_
  have h_6 := h_5.drop rfl
  exact ⟨rfl, h_6⟩

theorem c_BString_0 {w00 : World} {L : List Ent} (bb : Nat) (p : Value) (w : World) (h_0 : HP w00 w (Ent.blk bb .nw 87 [(1, [p]), (1, [(.slice none 0 0)])] :: L)) :
    Cs Try.prog 71 [(.pointer (some ⟨bb, 0, none⟩))].toArray w (fun v w1 => v = .string (bstr []) ∧ HP w00 w1 L) := by
  refine Cs.of (n := 14) (args := [(.pointer (some ⟨bb, 0, none⟩))]) Try.func71 rfl rfl rfl ?_
  refine WP.seq ?_
  refine WP.reg ?_
  refine WL.q (Wn.no rfl) rfl rfl (R.assign (v := (.string (bstr ([] : List UInt8)))) rfl) ?_
  refine WL.nil ?_
  refine thn_n ?_
  refine WP.seq ?_
  refine WP.drawT (SL w00.heap.size [.blk bb .nw 87 [(1, [p]), (1, [(.slice none 0 0)])]]) (.q 0 (.q 1 (.q 2 (.q 3 (.q 5 (.q 6 (.q 7 (.q 8 (.q 9 (.s 4 (.s 10 (.q 11 .nil)))))))))))) (by kernel_rfl) (by kernel_rfl) rfl (by kernel_rfl) (fun w_1 hc_3 => (SL.cons ((h_0.same hc_3).ok _ (.head _)) (SL.nil _ _))) (fun w_1 hc_3 => ?_)
  have h_2 := h_0.same hc_3
  refine WT.q rfl (Wn.no rfl) rfl rfl (fun wq hS => R.move (v := (.pointer (some ⟨bb, 0, none⟩))) rfl) ?_
  refine WT.q rfl (Wn.no rfl) rfl rfl (fun wq hS => R.nilCheck rfl) ?_
  refine WT.q rfl (Wn.no rfl) rfl rfl (fun wq hS => R.fieldAddr (b := bb) (off := 0) (off' := 1) rfl Try.underlying87 rfl Try.sizeOf23 rfl rfl) ?_
  refine WT.q rfl (Wn.no rfl) rfl rfl (fun wq hS => R.load1 (b := bb) (off := 1) (v := (.slice none 0 0)) rfl Try.isAgg23 (hS _ (.head _)) (Sg.t rfl Sg.h)) ?_
  refine WT.q rfl (Wn.no rfl) rfl rfl (fun wq hS => R.move (v := (.pointer (some ⟨bb, 0, none⟩))) rfl) ?_
  refine WT.q rfl (Wn.no rfl) rfl rfl (fun wq hS => R.nilCheck rfl) ?_
  refine WT.q rfl (Wn.no rfl) rfl rfl (fun wq hS => R.fieldAddr (b := bb) (off := 0) (off' := 1) rfl Try.underlying87 rfl Try.sizeOf23 rfl rfl) ?_
  refine WT.q rfl (Wn.no rfl) rfl rfl (fun wq hS => R.load1 (b := bb) (off := 1) (v := (.slice none 0 0)) rfl Try.isAgg23 (hS _ (.head _)) (Sg.t rfl Sg.h)) ?_
  refine WT.q rfl (Wn.no rfl) rfl rfl (fun wq hS => R.lenS (a := none) (m := 0) rfl rfl Try.underlying23) ?_
  refine WT.s ?_
  refine Op1.one rfl (Wn.no rfl) ?_
  refine WL.q (Wn.no rfl) rfl rfl (R.usdNil rfl) ?_
  refine WL.nil ?_
  refine ⟨(SL.cons (h_2.ok _ (.head _)) (SL.nil _ _)), ?_⟩
  refine WT.s ?_
  refine Op1.one rfl (Wn.no rfl) ?_
  refine WL.q (Wn.no rfl) rfl rfl (R.usStr0 rfl rfl) ?_
  refine WL.nil ?_
  refine ⟨(SL.cons (h_2.ok _ (.head _)) (SL.nil _ _)), ?_⟩
  refine WT.q rfl (Wn.no rfl) rfl rfl (fun wq hS => R.assign (v := (.string (bstr ([] : List UInt8)))) rfl) ?_
  refine WT.nil ?_
  refine thn_n ?_
  refine WP.ret ?_
  refine ret_of Try.results71 (RV.tmp (v := (.string (bstr ([] : List UInt8)))) rfl RV.nil) ?_
  have h_4 := h_2.drop rfl
  exact ⟨rfl, h_4⟩

theorem c_BString {w00 : World} {L : List Ent} (bb : Nat) (a : Option Addr) (n cap : Nat) (l : List UInt8) (hl : l.length = n) (hn : n ≤ 1099511627776) (p : Value) (hz : n = 0 → a = none ∧ cap = 0) (w : World) (h_0 : HP w00 w (Ent.row a n cap 5 1 ((l).map vu8) :: Ent.blk bb .nw 87 [(1, [p]), (1, [.slice a n cap])] :: L)) :
    Cs Try.prog 71 [(.pointer (some ⟨bb, 0, none⟩))].toArray w (fun v w1 => v = .string (bstr l) ∧ HP w00 w1 L) := by
  by_cases h : n = 0
  · subst h
    obtain ⟨rfl, rfl⟩ := hz rfl
    obtain rfl : l = [] := List.length_eq_zero_iff.1 hl
    exact c_BString_0 bb p w (h_0.drop rfl)
  · obtain ⟨g, r, rfl, _, _⟩ := Own.open (h_0.own (List.mem_cons_self ..)) (by omega)
    exact c_BString_1 bb g cap n (by omega) l hl hn p w h_0

theorem c_Hex (a : Option Addr) (n cap : Nat) (bs : List UInt8) (hl : bs.length = n) (hn : n ≤ 549755813888) (w : World) (hv : View w a (bs.map vu8)) :
    Cs Try.prog 33 [(.slice a n cap)].toArray w (fun v w1 => v = .string (bstr (Go.Wr.hexL bs)) ∧ Chg w w1 []) := by
  refine Cs.of (n := 22) (args := [(.slice a n cap)]) Try.func33 rfl rfl rfl ?_
  have h_0 := HP.init w
  have h_00 := h_0.old (View.arg hv) (fun f hf => by cases hf)
  refine WP.seq ?_
  refine WP.reg ?_
  refine WL.q (Wn.no rfl) rfl rfl (R.assign (v := (.string (bstr ([] : List UInt8)))) rfl) ?_
  refine WL.nil ?_
  refine thn_n ?_
  refine WP.seq ?_
  refine WP.reg ?_
  refine WL.alloc (segs := [(1, [(.pointer none)]), (1, [(.slice none 0 0)])]) h_00 (zv Try.typeInfo87 rfl) rfl (SsOk.cons (SOk.v rfl) (SsOk.cons (SOk.v rfl) SsOk.nil)) rfl (fun b_1 w_2 h_3 => ?_)
  refine WL.nil ?_
  refine thn_n ?_
  refine WP.seq ?_
  refine WP.seq ?_
  refine WP.reg ?_
  refine WL.q (Wn.no rfl) rfl rfl (R.move (v := (.slice a n cap)) rfl) ?_
  refine WL.q (Wn.no rfl) rfl rfl (R.lenS (a := a) (m := n) rfl rfl Try.underlying23) ?_
  refine WL.q (Wn.no rfl) rfl rfl (R.move (v := (vi 0)) rfl) ?_
  refine WL.nil ?_
  refine thn_n ?_
  refine WP.block ?_
  have h_4 := h_3.rowNil 5 1
  have h_5 := h_4.up (Pick.t Pick.h)
  have h_6 := h_5.up (Pick.t Pick.h)
  refine WP.loopG (G := Nat × Value × Option Addr × Nat) [5, 8, 9, 10, 11, 12, 13, 14, 15, 16, 17, 18, 19, 20] (fun (k, p, ra, rc) => [(8, (vi ((k : Nat) : Int)))]) (fun (k, p, ra, rc) m w1 => HP w w1 [.row ra (2 * k) rc 5 1 ((Go.Wr.hexL (bs.take k)).map vu8), .blk b_1 .nw 87 [(1, [p]), (1, [(.slice ra (2 * k) rc)])], .view a (bs.map vu8)] ∧ (k ≤ n) ∧ (p = Value.pointer none ∨ p = Value.pointer (some ⟨b_1, 0, none⟩)) ∧ (k = 0 → ra = none ∧ rc = 0) ∧ m = n - k) ⟨(0, .pointer none, none, 0), _, ⟨rfl, trivial⟩, h_6, (by omega), (.inl rfl), (fun _ => ⟨rfl, rfl⟩), rfl⟩ ?_
  rintro ⟨k, p, ra, rc⟩ m_9 J_10 w_7 ⟨h_8, hk, hp, hz, rfl⟩
  refine WP.seq ?_
  refine WP.reg ?_
  refine WL.q (Wn.no rfl) rfl rfl (R.bin (v := (.bool (decide ((((k : Nat) : Int) : Int) < ((n : Nat) : Int))))) rfl rfl (bi_lss (r := decide ((((k : Nat) : Int) : Int) < ((n : Nat) : Int))) rfl)) ?_
  refine WL.nil ?_
  refine thn_n ?_
  refine WP.seq ?_
  refine WP.cond (b := decide ((((k : Nat) : Int) : Int) < ((n : Nat) : Int))) rfl (fun c_11 => ?_) (fun c_11 => ?_)
  · have p_12 := of_decide_eq_true c_11
    refine WP.skip ?_
    refine thn_n ?_
    refine WP.seq ?_
    refine WP.block ?_
    refine WP.seq ?_
    refine WP.reg ?_
    refine WL.q (Wn.no rfl) rfl rfl (R.indexS (a := a) (i := k) (off := k) (xs := bs.map vu8) rfl rfl rfl (by omega) (viewV (h_8.ok _ (.tail _ (.tail _ (.head _))))) (lt_len (K := n) (len_map hl) (by omega)) Try.underlying23 Try.sizeOf5 (Nat.mul_one _).symm) ?_
    refine WL.q (Wn.no rfl) rfl rfl (R.loadG (a := a) (i := k) (xs := bs.map vu8) (v := (vu8 (bs.getD k 0))) rfl (viewV (h_8.ok _ (.tail _ (.tail _ (.head _))))) Try.isAgg5 (get_u8 (lt_len (K := n) hl (by omega)))) ?_
    refine WL.q (Wn.no rfl) rfl rfl (R.assign (v := (vu8 (bs.getD k 0))) rfl) ?_
    refine WL.nil ?_
    refine thn_n ?_
    refine WP.seq ?_
    refine WP.reg ?_
    refine WL.q (Wn.no rfl) rfl rfl (R.move (v := (vu8 (bs.getD k 0))) rfl) ?_
    refine WL.q (Wn.no rfl) rfl rfl (R.binR (v := vu8 (shr8 (bs.getD k 0) 4)) rfl rfl (run_shr8 _ _ _ (bs.getD k 0) _ 4)) ?_
    refine WL.q (Wn.no rfl) rfl rfl (R.indexStrL (l := ([48, 49, 50, 51, 52, 53, 54, 55, 56, 57, 97, 98, 99, 100, 101, 102] : List UInt8)) (i := (shr8 (bs.getD k 0) 4).toNat) rfl rfl rfl (hx_hi _) Try.underlying9) ?_
    have h_13 := h_8.up (Pick.t Pick.h)
    have h_14 := h_13.up (Pick.t Pick.h)
    refine WL.call (al := [(.pointer (some ⟨b_1, 0, none⟩)), (vu8 (([48, 49, 50, 51, 52, 53, 54, 55, 56, 57, 97, 98, 99, 100, 101, 102] : List UInt8).getD ((shr8 (bs.getD k 0) 4).toNat) 0))]) Try.call70 rfl rfl (c_WriteByte b_1 (([48, 49, 50, 51, 52, 53, 54, 55, 56, 57, 97, 98, 99, 100, 101, 102] : List UInt8).getD ((shr8 (bs.getD k 0) 4).toNat) 0) ra (2 * k) rc (Go.Wr.hexL (bs.take k)) (hx_take (by omega)) (by omega) p hp _ h_14) rfl ?_
    rintro _ w_17 ⟨a_15, cap_16, rfl, h_18⟩
    refine WL.nil ?_
    refine thn_n ?_
    refine WP.reg ?_
    refine WL.q (Wn.no rfl) rfl rfl (R.move (v := (vu8 (bs.getD k 0))) rfl) ?_
    refine WL.q (Wn.no rfl) rfl rfl (R.bin (v := (vu8 ((bs.getD k 0) &&& 15))) rfl rfl (b8_and (bs.getD k 0) 15)) ?_
    refine WL.q (Wn.no rfl) rfl rfl (R.indexStrL (l := ([48, 49, 50, 51, 52, 53, 54, 55, 56, 57, 97, 98, 99, 100, 101, 102] : List UInt8)) (i := ((bs.getD k 0) &&& 15).toNat) rfl rfl rfl (hx_lo _) Try.underlying9) ?_
    have h_19 := h_18.up (Pick.t Pick.h)
    have h_20 := h_19.up (Pick.t Pick.h)
    refine WL.call (al := [(.pointer (some ⟨b_1, 0, none⟩)), (vu8 (([48, 49, 50, 51, 52, 53, 54, 55, 56, 57, 97, 98, 99, 100, 101, 102] : List UInt8).getD (((bs.getD k 0) &&& 15).toNat) 0))]) Try.call70 rfl rfl (c_WriteByte b_1 (([48, 49, 50, 51, 52, 53, 54, 55, 56, 57, 97, 98, 99, 100, 101, 102] : List UInt8).getD (((bs.getD k 0) &&& 15).toNat) 0) a_15 (2 * k + 1) cap_16 ((Go.Wr.hexL (bs.take k)) ++ ([(([48, 49, 50, 51, 52, 53, 54, 55, 56, 57, 97, 98, 99, 100, 101, 102] : List UInt8).getD ((shr8 (bs.getD k 0) 4).toNat) 0)] : List UInt8)) (lenApp (a := 2 * k) (b := 1) (hx_take (by omega)) rfl (by omega)) (by omega) (.pointer (some ⟨b_1, 0, none⟩)) (.inr rfl) _ h_20) rfl ?_
    rintro _ w_23 ⟨a_21, cap_22, rfl, h_24⟩
    refine WL.nil ?_
    refine inb_n ?_
    refine thn_n ?_
    refine WP.reg ?_
    refine WL.q (Wn.no rfl) rfl rfl (R.bin (v := (vi ((k + 1 : Nat) : Int))) rfl rfl (bi_add (c := ((k + 1 : Nat) : Int)) (by omega) (by omega))) ?_
    refine WL.q (Wn.no rfl) rfl rfl (R.move (v := (vi ((k + 1 : Nat) : Int))) rfl) ?_
    refine WL.nil ?_
    refine thn_n ?_
    rw [hx_step (by omega), show 2 * k + 1 + 1 = 2 * (k + 1) by omega] at h_24
    exact ⟨(k + 1, (.pointer (some ⟨b_1, 0, none⟩)), a_21, cap_22), _, (by omega), (Ag.upd rfl (Ag.upd rfl (Ag.upd rfl (Ag.upd rfl (Ag.upd rfl (Ag.upd rfl (Ag.upd rfl (Ag.upd rfl (Ag.upd rfl (Ag.upd rfl (Ag.upd rfl (Ag.upd rfl (Ag.upd rfl (Ag.upd rfl (Ag.updL rfl (Ag.mix _ _ _)))))))))))))))), ⟨rfl, trivial⟩, h_24, (by omega), (.inr rfl), (fun h => by omega), rfl⟩
  · have p_25 := of_decide_eq_false c_11
    refine WP.exit ?_
    refine thn_x ?_
    refine thn_x ?_
    refine inb_hit ?_
    refine thn_n ?_
    refine WP.seq ?_
    refine WP.reg ?_
    have h_26 := h_8.up (Pick.t Pick.h)
    have h_27 := h_26.up (Pick.t Pick.h)
    refine WL.call (al := [(.pointer (some ⟨b_1, 0, none⟩))]) Try.call71 rfl rfl (c_BString b_1 ra (2 * k) rc (Go.Wr.hexL (bs.take k)) (hx_take (by omega)) (by omega) p (fun h => hz (by omega)) _ h_27) rfl ?_
    rintro _ w_28 ⟨rfl, h_29⟩
    refine WL.q (Wn.no rfl) rfl rfl (R.assign (v := (.string (bstr (Go.Wr.hexL (bs.take k))))) rfl) ?_
    refine WL.nil ?_
    refine thn_n ?_
    refine WP.ret ?_
    refine ret_of Try.results33 (RV.tmp (v := (.string (bstr (Go.Wr.hexL (bs.take k))))) rfl RV.nil) ?_
    have hkn : k = n := by omega
    exact ⟨by rw [hkn, List.take_of_length_le (by omega)]; rfl, h_29.chgS⟩

theorem c_ixb0 (l : List UInt8) (c : UInt8) (w : World) :
    Cs Try.prog 88 [(.string (bstr l)), (vu8 c)].toArray w (fun v w1 => v = vi (Go.Lib.indexByte l c) ∧ Chg w w1 []) := by
  refine Cs.of (n := 8) (args := [(.string (bstr l)), (vu8 c)]) Try.func88 rfl rfl rfl ?_
  have h_0 := HP.init w
  refine WP.seq ?_
  refine WP.reg ?_
  refine WL.q (Wn.no rfl) rfl rfl (R.assign (v := (vi 0)) rfl) ?_
  refine WL.nil ?_
  refine thn_n ?_
  refine WP.seq ?_
  refine WP.reg ?_
  refine WL.q (Wn.no rfl) rfl rfl (R.move (v := (.string (bstr l))) rfl) ?_
  refine WL.q (Wn.no rfl) rfl rfl (R.move (v := (vu8 c)) rfl) ?_
  refine WL.q (Wn.no rfl) rfl rfl (R.native (al := [(.string (bstr l)), (vu8 c)]) (v := (vi (Go.Lib.indexByte l c))) rfl rfl (nat_indexByte Try.func94 (by kernel_rfl) (by kernel_rfl) (by kernel_rfl) (by kernel_rfl) l c)) ?_
  refine WL.q (Wn.no rfl) rfl rfl (R.assign (v := (vi (Go.Lib.indexByte l c))) rfl) ?_
  refine WL.nil ?_
  refine thn_n ?_
  refine WP.ret ?_
  refine ret_of Try.results88 (RV.tmp (v := (vi (Go.Lib.indexByte l c))) rfl RV.nil) ?_
  exact ⟨rfl, h_0.chgS⟩

theorem c_ixb (l : List UInt8) (c : UInt8) (w : World) :
    Cs Try.prog 65 [(.string (bstr l)), (vu8 c)].toArray w (fun v w1 => v = vi (Go.Lib.indexByte l c) ∧ Chg w w1 []) := by
  refine Cs.of (n := 8) (args := [(.string (bstr l)), (vu8 c)]) Try.func65 rfl rfl rfl ?_
  have h_0 := HP.init w
  refine WP.seq ?_
  refine WP.reg ?_
  refine WL.q (Wn.no rfl) rfl rfl (R.assign (v := (vi 0)) rfl) ?_
  refine WL.nil ?_
  refine thn_n ?_
  refine WP.seq ?_
  refine WP.reg ?_
  refine WL.q (Wn.no rfl) rfl rfl (R.move (v := (.string (bstr l))) rfl) ?_
  refine WL.q (Wn.no rfl) rfl rfl (R.move (v := (vu8 c)) rfl) ?_
  refine WL.call (al := [(.string (bstr l)), (vu8 c)]) Try.call88 rfl rfl (c_ixb0 l c _ ) rfl ?_
  rintro _ w_2 ⟨rfl, hc_1⟩
  have h_3 := h_0.same hc_1
  refine WL.q (Wn.no rfl) rfl rfl (R.assign (v := (vi (Go.Lib.indexByte l c))) rfl) ?_
  refine WL.nil ?_
  refine thn_n ?_
  refine WP.ret ?_
  refine ret_of Try.results65 (RV.tmp (v := (vi (Go.Lib.indexByte l c))) rfl RV.nil) ?_
  exact ⟨rfl, h_3.chgS⟩

theorem c_digit (c : UInt8) (w : World) :
    Cs Try.prog 66 [(vu8 c)].toArray w (fun v w1 => v = (vu8 (Go.Wr.dig c)) ∧ Chg w w1 []) := by
  refine Cs.of (n := 22) (args := [(vu8 c)]) Try.func66 rfl rfl rfl ?_
  have h_0 := HP.init w
  refine WP.seq ?_
  refine WP.reg ?_
  refine WL.q (Wn.no rfl) rfl rfl (R.assign (v := (vu8 0)) rfl) ?_
  refine WL.nil ?_
  refine thn_n ?_
  refine WP.seq ?_
  refine WP.block ?_
  refine WP.seq ?_
  refine WP.reg ?_
  refine WL.q (Wn.no rfl) rfl rfl (R.move (v := (vu8 c)) rfl) ?_
  refine WL.q (Wn.no rfl) rfl rfl (R.bin (v := (.bool (decide ((c : UInt8) ≥ 48)))) rfl rfl (b8_geq c 48 (r := decide ((c : UInt8) ≥ 48)) rfl)) ?_
  refine WL.q (Wn.no rfl) rfl rfl (R.move (v := (.bool (decide ((c : UInt8) ≥ 48)))) rfl) ?_
  rcases Bool.eq_false_or_eq_true (decide ((c : UInt8) ≥ 48)) with c_1 | c_1
  · have p_2 := of_decide_eq_true c_1
    refine WL.want rfl (congrArg Value.bool c_1) ?_
    refine WL.q (Wn.no rfl) rfl rfl (R.move (v := (vu8 c)) rfl) ?_
    refine WL.want rfl (congrArg Value.bool c_1) ?_
    refine WL.q (Wn.no rfl) rfl rfl (R.bin (v := (.bool (decide ((c : UInt8) ≤ 57)))) rfl rfl (b8_leq c 57 (r := decide ((c : UInt8) ≤ 57)) rfl)) ?_
    refine WL.q (Wn.no rfl) rfl rfl (R.pickT (v := (.bool (decide ((c : UInt8) ≤ 57)))) (congrArg Value.bool c_1) rfl) ?_
    refine WL.q (Wn.no rfl) rfl rfl (R.assign (v := (.bool (decide ((c : UInt8) ≤ 57)))) rfl) ?_
    refine WL.nil ?_
    refine thn_n ?_
    refine WP.cond (b := decide ((c : UInt8) ≤ 57)) rfl (fun c_3 => ?_) (fun c_3 => ?_)
    · have p_4 := of_decide_eq_true c_3
      refine WP.seq ?_
      refine WP.reg ?_
      refine WL.q (Wn.no rfl) rfl rfl (R.move (v := (vu8 c)) rfl) ?_
      refine WL.q (Wn.no rfl) rfl rfl (R.bin (v := (vu8 (c - 48))) rfl rfl (b8_sub c 48)) ?_
      refine WL.q (Wn.no rfl) rfl rfl (R.assign (v := (vu8 (c - 48))) rfl) ?_
      refine WL.nil ?_
      refine thn_n ?_
      refine WP.ret ?_
      refine inb_r ?_
      refine thn_r ?_
      refine ret_of Try.results66 (RV.tmp (v := (vu8 (c - 48))) rfl RV.nil) ?_
      refine ⟨congrArg vu8 ?_, h_0.chgS⟩
      rw [Go.Wr.dig]
      rw [if_pos ⟨p_2, p_4⟩]
    · have p_5 := of_decide_eq_false c_3
      refine WP.seq ?_
      refine WP.reg ?_
      refine WL.q (Wn.no rfl) rfl rfl (R.move (v := (vu8 c)) rfl) ?_
      refine WL.q (Wn.no rfl) rfl rfl (R.bin (v := (.bool (decide ((c : UInt8) ≥ 97)))) rfl rfl (b8_geq c 97 (r := decide ((c : UInt8) ≥ 97)) rfl)) ?_
      refine WL.q (Wn.no rfl) rfl rfl (R.move (v := (.bool (decide ((c : UInt8) ≥ 97)))) rfl) ?_
      rcases Bool.eq_false_or_eq_true (decide ((c : UInt8) ≥ 97)) with c_6 | c_6
      · have p_7 := of_decide_eq_true c_6
        refine WL.want rfl (congrArg Value.bool c_6) ?_
        refine WL.q (Wn.no rfl) rfl rfl (R.move (v := (vu8 c)) rfl) ?_
        refine WL.want rfl (congrArg Value.bool c_6) ?_
        refine WL.q (Wn.no rfl) rfl rfl (R.bin (v := (.bool (decide ((c : UInt8) ≤ 102)))) rfl rfl (b8_leq c 102 (r := decide ((c : UInt8) ≤ 102)) rfl)) ?_
        refine WL.q (Wn.no rfl) rfl rfl (R.pickT (v := (.bool (decide ((c : UInt8) ≤ 102)))) (congrArg Value.bool c_6) rfl) ?_
        refine WL.q (Wn.no rfl) rfl rfl (R.assign (v := (.bool (decide ((c : UInt8) ≤ 102)))) rfl) ?_
        refine WL.nil ?_
        refine thn_n ?_
        refine WP.cond (b := decide ((c : UInt8) ≤ 102)) rfl (fun c_8 => ?_) (fun c_8 => ?_)
        · have p_9 := of_decide_eq_true c_8
          refine WP.seq ?_
          refine WP.reg ?_
          refine WL.q (Wn.no rfl) rfl rfl (R.move (v := (vu8 c)) rfl) ?_
          refine WL.q (Wn.no rfl) rfl rfl (R.bin (v := (vu8 (c - 97))) rfl rfl (b8_sub c 97)) ?_
          refine WL.q (Wn.no rfl) rfl rfl (R.bin (v := (vu8 ((c - 97) + 10))) rfl rfl (b8_add (c - 97) 10)) ?_
          refine WL.q (Wn.no rfl) rfl rfl (R.assign (v := (vu8 ((c - 97) + 10))) rfl) ?_
          refine WL.nil ?_
          refine thn_n ?_
          refine WP.ret ?_
          refine inb_r ?_
          refine thn_r ?_
          refine ret_of Try.results66 (RV.tmp (v := (vu8 ((c - 97) + 10))) rfl RV.nil) ?_
          refine ⟨congrArg vu8 ?_, h_0.chgS⟩
          rw [Go.Wr.dig]
          rw [if_neg (fun hh => absurd hh.2 p_5), if_pos ⟨p_7, p_9⟩]
        · have p_10 := of_decide_eq_false c_8
          refine WP.skip ?_
          refine inb_n ?_
          refine thn_n ?_
          refine WP.seq ?_
          refine WP.reg ?_
          refine WL.q (Wn.no rfl) rfl rfl (R.assign (v := (vu8 16)) rfl) ?_
          refine WL.nil ?_
          refine thn_n ?_
          refine WP.ret ?_
          refine ret_of Try.results66 (RV.tmp (v := (vu8 16)) rfl RV.nil) ?_
          refine ⟨congrArg vu8 ?_, h_0.chgS⟩
          rw [Go.Wr.dig]
          rw [if_neg (fun hh => absurd hh.2 p_5), if_neg (fun hh => absurd hh.2 p_10)]
      · have p_11 := of_decide_eq_false c_6
        refine WL.skip rfl (congrArg Value.bool c_6) rfl ?_
        refine WL.skip rfl (congrArg Value.bool c_6) rfl ?_
        refine WL.q (Wn.no rfl) rfl rfl (R.pickF (v := (.bool false)) (congrArg Value.bool c_6) rfl) ?_
        refine WL.q (Wn.no rfl) rfl rfl (R.assign (v := (.bool false)) rfl) ?_
        refine WL.nil ?_
        refine thn_n ?_
        refine WP.condF rfl ?_
        refine WP.skip ?_
        refine inb_n ?_
        refine thn_n ?_
        refine WP.seq ?_
        refine WP.reg ?_
        refine WL.q (Wn.no rfl) rfl rfl (R.assign (v := (vu8 16)) rfl) ?_
        refine WL.nil ?_
        refine thn_n ?_
        refine WP.ret ?_
        refine ret_of Try.results66 (RV.tmp (v := (vu8 16)) rfl RV.nil) ?_
        refine ⟨congrArg vu8 ?_, h_0.chgS⟩
        rw [Go.Wr.dig]
        rw [if_neg (fun hh => absurd hh.2 p_5), if_neg (fun hh => absurd hh.1 p_11)]
  · have p_12 := of_decide_eq_false c_1
    refine WL.skip rfl (congrArg Value.bool c_1) rfl ?_
    refine WL.skip rfl (congrArg Value.bool c_1) rfl ?_
    refine WL.q (Wn.no rfl) rfl rfl (R.pickF (v := (.bool false)) (congrArg Value.bool c_1) rfl) ?_
    refine WL.q (Wn.no rfl) rfl rfl (R.assign (v := (.bool false)) rfl) ?_
    refine WL.nil ?_
    refine thn_n ?_
    refine WP.condF rfl ?_
    refine WP.seq ?_
    refine WP.reg ?_
    refine WL.q (Wn.no rfl) rfl rfl (R.move (v := (vu8 c)) rfl) ?_
    refine WL.q (Wn.no rfl) rfl rfl (R.bin (v := (.bool (decide ((c : UInt8) ≥ 97)))) rfl rfl (b8_geq c 97 (r := decide ((c : UInt8) ≥ 97)) rfl)) ?_
    refine WL.q (Wn.no rfl) rfl rfl (R.move (v := (.bool (decide ((c : UInt8) ≥ 97)))) rfl) ?_
    rcases Bool.eq_false_or_eq_true (decide ((c : UInt8) ≥ 97)) with c_13 | c_13
    · have p_14 := of_decide_eq_true c_13
      refine WL.want rfl (congrArg Value.bool c_13) ?_
      refine WL.q (Wn.no rfl) rfl rfl (R.move (v := (vu8 c)) rfl) ?_
      refine WL.want rfl (congrArg Value.bool c_13) ?_
      refine WL.q (Wn.no rfl) rfl rfl (R.bin (v := (.bool (decide ((c : UInt8) ≤ 102)))) rfl rfl (b8_leq c 102 (r := decide ((c : UInt8) ≤ 102)) rfl)) ?_
      refine WL.q (Wn.no rfl) rfl rfl (R.pickT (v := (.bool (decide ((c : UInt8) ≤ 102)))) (congrArg Value.bool c_13) rfl) ?_
      refine WL.q (Wn.no rfl) rfl rfl (R.assign (v := (.bool (decide ((c : UInt8) ≤ 102)))) rfl) ?_
      refine WL.nil ?_
      refine thn_n ?_
      refine WP.cond (b := decide ((c : UInt8) ≤ 102)) rfl (fun c_15 => ?_) (fun c_15 => ?_)
      · have p_16 := of_decide_eq_true c_15
        refine WP.seq ?_
        refine WP.reg ?_
        refine WL.q (Wn.no rfl) rfl rfl (R.move (v := (vu8 c)) rfl) ?_
        refine WL.q (Wn.no rfl) rfl rfl (R.bin (v := (vu8 (c - 97))) rfl rfl (b8_sub c 97)) ?_
        refine WL.q (Wn.no rfl) rfl rfl (R.bin (v := (vu8 ((c - 97) + 10))) rfl rfl (b8_add (c - 97) 10)) ?_
        refine WL.q (Wn.no rfl) rfl rfl (R.assign (v := (vu8 ((c - 97) + 10))) rfl) ?_
        refine WL.nil ?_
        refine thn_n ?_
        refine WP.ret ?_
        refine inb_r ?_
        refine thn_r ?_
        refine ret_of Try.results66 (RV.tmp (v := (vu8 ((c - 97) + 10))) rfl RV.nil) ?_
        refine ⟨congrArg vu8 ?_, h_0.chgS⟩
        rw [Go.Wr.dig]
        rw [if_neg (fun hh => absurd hh.1 p_12), if_pos ⟨p_14, p_16⟩]
      · have p_17 := of_decide_eq_false c_15
        refine WP.skip ?_
        refine inb_n ?_
        refine thn_n ?_
        refine WP.seq ?_
        refine WP.reg ?_
        refine WL.q (Wn.no rfl) rfl rfl (R.assign (v := (vu8 16)) rfl) ?_
        refine WL.nil ?_
        refine thn_n ?_
        refine WP.ret ?_
        refine ret_of Try.results66 (RV.tmp (v := (vu8 16)) rfl RV.nil) ?_
        refine ⟨congrArg vu8 ?_, h_0.chgS⟩
        rw [Go.Wr.dig]
        rw [if_neg (fun hh => absurd hh.1 p_12), if_neg (fun hh => absurd hh.2 p_17)]
    · have p_18 := of_decide_eq_false c_13
      refine WL.skip rfl (congrArg Value.bool c_13) rfl ?_
      refine WL.skip rfl (congrArg Value.bool c_13) rfl ?_
      refine WL.q (Wn.no rfl) rfl rfl (R.pickF (v := (.bool false)) (congrArg Value.bool c_13) rfl) ?_
      refine WL.q (Wn.no rfl) rfl rfl (R.assign (v := (.bool false)) rfl) ?_
      refine WL.nil ?_
      refine thn_n ?_
      refine WP.condF rfl ?_
      refine WP.skip ?_
      refine inb_n ?_
      refine thn_n ?_
      refine WP.seq ?_
      refine WP.reg ?_
      refine WL.q (Wn.no rfl) rfl rfl (R.assign (v := (vu8 16)) rfl) ?_
      refine WL.nil ?_
      refine thn_n ?_
      refine WP.ret ?_
      refine ret_of Try.results66 (RV.tmp (v := (vu8 16)) rfl RV.nil) ?_
      refine ⟨congrArg vu8 ?_, h_0.chgS⟩
      rw [Go.Wr.dig]
      rw [if_neg (fun hh => absurd hh.1 p_12), if_neg (fun hh => absurd hh.1 p_18)]

theorem c_Unhex_t (l : List UInt8) (n : Nat) (hl : l.length = n) (hn : n ≤ 1099511627776) (hx : Go.Wr.okHex l = true) (he : n % 2 = 0) (w : World) :
    Cs Try.prog 24 [(.string (bstr l))].toArray w (fun v w1 => ∃ a cap, v = .tuple [.slice a (n / 2) cap, (vi 0)].toArray ∧ Chg w w1 [] ∧ Own w.heap.size w1 5 1 a (n / 2) cap ((Go.Wr.unhexL l (n / 2)).map vu8)) := by
  refine Cs.of (n := 50) (args := [(.string (bstr l))]) Try.func24 rfl rfl rfl ?_
  have h_0 := HP.init w
  refine WP.seq ?_
  refine WP.reg ?_
  refine WL.q (Wn.no rfl) rfl rfl (R.assign (v := (.slice none 0 0)) rfl) ?_
  refine WL.q (Wn.no rfl) rfl rfl (R.assign (v := (vi 0)) rfl) ?_
  refine WL.nil ?_
  refine thn_n ?_
  refine WP.scope ?_
  refine WP.seq ?_
  refine WP.reg ?_
  refine WL.q (Wn.no rfl) rfl rfl (R.assign (v := (.slice none 0 0)) rfl) ?_
  refine WL.nil ?_
  refine thn_n ?_
  refine WP.seq ?_
  refine WP.reg ?_
  refine WL.q (Wn.no rfl) rfl rfl (R.move (v := (.string (bstr l))) rfl) ?_
  refine WL.q (Wn.no rfl) rfl rfl (R.lenStrL (l := l) (m := n) rfl rfl Try.underlying9 hl) ?_
  refine WL.q (Wn.no rfl) rfl rfl (R.bin (v := (vi ((n % 2 : Nat) : Int))) rfl rfl (bi_rem (c := ((n % 2 : Nat) : Int)) (Int.natCast_nonneg _) (by omega) (by first | omega | rfl))) ?_
  refine WL.q (Wn.no rfl) rfl rfl (R.bin (v := (.bool (decide ((((n % 2 : Nat) : Int) : Int) = 0)))) rfl rfl (bi_eql (r := decide ((((n % 2 : Nat) : Int) : Int) = 0)) rfl)) ?_
  refine WL.q (Wn.no rfl) rfl rfl (R.assign (v := (.bool (decide ((((n % 2 : Nat) : Int) : Int) = 0)))) rfl) ?_
  refine WL.nil ?_
  refine thn_n ?_
  refine WP.seq ?_
  refine WP.label ?_
  refine thn_n ?_
  refine WP.seq ?_
  refine WP.seq ?_
  refine WP.reg ?_
  refine WL.q (Wn.no rfl) rfl rfl (R.assign (v := (vi 0)) rfl) ?_
  refine WL.nil ?_
  refine thn_n ?_
  refine WP.block ?_
  have h_1 := h_0.rowNil 5 1
  refine WP.loopG (G := Nat × Option Addr × Nat) [4, 5, 6, 7, 8, 13, 14, 15, 16, 17, 18, 19, 20, 21, 22, 23, 24, 25, 26, 27, 28, 29, 30, 31, 32, 33, 34, 35, 36, 37, 38, 39, 40, 41, 42, 43, 44, 45, 46] (fun (k, ra, rc) => [(4, (.slice ra k rc)), (5, (.bool true)), (6, (vi ((2 * k : Nat) : Int)))]) (fun (k, ra, rc) m w1 => HP w w1 [.row ra k rc 5 1 ((Go.Wr.unhexL l k).map vu8)] ∧ (2 * k ≤ n) ∧ (∀ j : Nat, j < k → Go.Wr.hg l j = true) ∧ m = n - 2 * k) ⟨(0, none, 0), _, ⟨rfl, (congrArg Value.bool (decide_eq_true (by omega))), rfl, trivial⟩, h_1, (by omega), (fun j h => by omega), rfl⟩ ?_
  rintro ⟨k, ra, rc⟩ m_4 J_5 w_2 ⟨h_3, hk, hg, rfl⟩
  refine WP.seq ?_
  refine WP.seq ?_
  refine WP.reg ?_
  refine WL.q (Wn.no rfl) rfl rfl (R.move (v := (.bool true)) rfl) ?_
  refine WL.q (Wn.no rfl) rfl rfl (R.move (v := (.bool true)) rfl) ?_
  refine WL.want rfl rfl ?_
  refine WL.q (Wn.no rfl) rfl rfl (R.move (v := (vi ((2 * k : Nat) : Int))) rfl) ?_
  refine WL.want rfl rfl ?_
  refine WL.q (Wn.no rfl) rfl rfl (R.move (v := (.string (bstr l))) rfl) ?_
  refine WL.want rfl rfl ?_
  refine WL.q (Wn.no rfl) rfl rfl (R.lenStrL (l := l) (m := n) rfl rfl Try.underlying9 hl) ?_
  refine WL.want rfl rfl ?_
  refine WL.q (Wn.no rfl) rfl rfl (R.bin (v := (.bool (decide ((((2 * k : Nat) : Int) : Int) < ((n : Nat) : Int))))) rfl rfl (bi_lss (r := decide ((((2 * k : Nat) : Int) : Int) < ((n : Nat) : Int))) rfl)) ?_
  refine WL.q (Wn.no rfl) rfl rfl (R.pickT (v := (.bool (decide ((((2 * k : Nat) : Int) : Int) < ((n : Nat) : Int))))) rfl rfl) ?_
  refine WL.nil ?_
  refine thn_n ?_
  refine WP.cond (b := decide ((((2 * k : Nat) : Int) : Int) < ((n : Nat) : Int))) rfl (fun c_6 => ?_) (fun c_6 => ?_)
  · have p_7 := of_decide_eq_true c_6
    refine WP.skip ?_
    refine thn_n ?_
    refine WP.seq ?_
    refine WP.block ?_
    refine WP.seq ?_
    refine WP.drawT (SL w.heap.size [.row ra k rc 5 1 ((Go.Wr.unhexL l k).map vu8)]) (.q 0 (.q 1 (.q 2 (.q 4 (.q 5 (.q 6 (.q 7 (.s 3 (.s 8 (.q 9 (.q 10 .nil))))))))))) (by kernel_rfl) (by kernel_rfl) rfl (by kernel_rfl) (fun w_8 hc_10 => (SL.cons ((h_3.same hc_10).ok _ (.head _)) (SL.nil _ _))) (fun w_8 hc_10 => ?_)
    have h_9 := h_3.same hc_10
    refine WT.q rfl (Wn.no rfl) rfl rfl (fun wq hS => R.move (v := (.string (bstr l))) rfl) ?_
    refine WT.q rfl (Wn.no rfl) rfl rfl (fun wq hS => R.move (v := (vi ((2 * k : Nat) : Int))) rfl) ?_
    refine WT.q rfl (Wn.no rfl) rfl rfl (fun wq hS => R.indexStrL (l := l) (i := 2 * k) rfl rfl rfl (by rw [hl]; omega) Try.underlying9) ?_
    refine WT.q rfl (Wn.no rfl) rfl rfl (fun wq hS => R.move (v := (.string (bstr l))) rfl) ?_
    refine WT.q rfl (Wn.no rfl) rfl rfl (fun wq hS => R.move (v := (vi ((2 * k : Nat) : Int))) rfl) ?_
    refine WT.q rfl (Wn.no rfl) rfl rfl (fun wq hS => R.bin (v := (vi ((2 * k + 1 : Nat) : Int))) rfl rfl (bi_add (c := ((2 * k + 1 : Nat) : Int)) (by omega) (by omega))) ?_
    refine WT.q rfl (Wn.no rfl) rfl rfl (fun wq hS => R.indexStrL (l := l) (i := 2 * k + 1) rfl rfl rfl (by rw [hl]; omega) Try.underlying9) ?_
    refine WT.s ?_
    refine Op1.one rfl (Wn.no rfl) ?_
    refine WL.call (al := [(.string (bstr ([48, 49, 50, 51, 52, 53, 54, 55, 56, 57, 97, 98, 99, 100, 101, 102] : List UInt8))), (vu8 (l.getD (2 * k) 0))]) Try.call65 rfl rfl (c_ixb ([48, 49, 50, 51, 52, 53, 54, 55, 56, 57, 97, 98, 99, 100, 101, 102] : List UInt8) (l.getD (2 * k) 0) _ ) rfl ?_
    rintro _ w_12 ⟨rfl, hc_11⟩
    have h_13 := h_9.same hc_11
    refine WL.nil ?_
    refine ⟨(SL.cons (h_13.ok _ (.head _)) (SL.nil _ _)), ?_⟩
    refine WT.s ?_
    refine Op1.one rfl (Wn.no rfl) ?_
    refine WL.call (al := [(.string (bstr ([48, 49, 50, 51, 52, 53, 54, 55, 56, 57, 97, 98, 99, 100, 101, 102] : List UInt8))), (vu8 (l.getD (2 * k + 1) 0))]) Try.call65 rfl rfl (c_ixb ([48, 49, 50, 51, 52, 53, 54, 55, 56, 57, 97, 98, 99, 100, 101, 102] : List UInt8) (l.getD (2 * k + 1) 0) _ ) rfl ?_
    rintro _ w_15 ⟨rfl, hc_14⟩
    have h_16 := h_13.same hc_14
    refine WL.nil ?_
    refine ⟨(SL.cons (h_16.ok _ (.head _)) (SL.nil _ _)), ?_⟩
    refine WT.q rfl (Wn.no rfl) rfl rfl (fun wq hS => R.assign (v := (vi (Go.Lib.indexByte ([48, 49, 50, 51, 52, 53, 54, 55, 56, 57, 97, 98, 99, 100, 101, 102] : List UInt8) (l.getD (2 * k) 0)))) rfl) ?_
    refine WT.q rfl (Wn.no rfl) rfl rfl (fun wq hS => R.assign (v := (vi (Go.Lib.indexByte ([48, 49, 50, 51, 52, 53, 54, 55, 56, 57, 97, 98, 99, 100, 101, 102] : List UInt8) (l.getD (2 * k + 1) 0)))) rfl) ?_
    refine WT.nil ?_
    refine thn_n ?_
    refine WP.seq ?_
    refine WP.seq ?_
    refine WP.reg ?_
    refine WL.q (Wn.no rfl) rfl rfl (R.move (v := (vi (Go.Lib.indexByte ([48, 49, 50, 51, 52, 53, 54, 55, 56, 57, 97, 98, 99, 100, 101, 102] : List UInt8) (l.getD (2 * k) 0)))) rfl) ?_
    refine WL.q (Wn.no rfl) rfl rfl (R.bin (v := (.bool (decide ((Go.Lib.indexByte ([48, 49, 50, 51, 52, 53, 54, 55, 56, 57, 97, 98, 99, 100, 101, 102] : List UInt8) (l.getD (2 * k) 0) : Int) ≥ 0)))) rfl rfl (bi_geq (r := decide ((Go.Lib.indexByte ([48, 49, 50, 51, 52, 53, 54, 55, 56, 57, 97, 98, 99, 100, 101, 102] : List UInt8) (l.getD (2 * k) 0) : Int) ≥ 0)) rfl)) ?_
    refine WL.q (Wn.no rfl) rfl rfl (R.move (v := (.bool (decide ((Go.Lib.indexByte ([48, 49, 50, 51, 52, 53, 54, 55, 56, 57, 97, 98, 99, 100, 101, 102] : List UInt8) (l.getD (2 * k) 0) : Int) ≥ 0)))) rfl) ?_
    rcases Bool.eq_false_or_eq_true (decide ((Go.Lib.indexByte ([48, 49, 50, 51, 52, 53, 54, 55, 56, 57, 97, 98, 99, 100, 101, 102] : List UInt8) (l.getD (2 * k) 0) : Int) ≥ 0)) with c_17 | c_17
    · have p_18 := of_decide_eq_true c_17
      refine WL.want rfl (congrArg Value.bool c_17) ?_
      refine WL.q (Wn.no rfl) rfl rfl (R.move (v := (vi (Go.Lib.indexByte ([48, 49, 50, 51, 52, 53, 54, 55, 56, 57, 97, 98, 99, 100, 101, 102] : List UInt8) (l.getD (2 * k + 1) 0)))) rfl) ?_
      refine WL.want rfl (congrArg Value.bool c_17) ?_
      refine WL.q (Wn.no rfl) rfl rfl (R.bin (v := (.bool (decide ((Go.Lib.indexByte ([48, 49, 50, 51, 52, 53, 54, 55, 56, 57, 97, 98, 99, 100, 101, 102] : List UInt8) (l.getD (2 * k + 1) 0) : Int) ≥ 0)))) rfl rfl (bi_geq (r := decide ((Go.Lib.indexByte ([48, 49, 50, 51, 52, 53, 54, 55, 56, 57, 97, 98, 99, 100, 101, 102] : List UInt8) (l.getD (2 * k + 1) 0) : Int) ≥ 0)) rfl)) ?_
      refine WL.q (Wn.no rfl) rfl rfl (R.pickT (v := (.bool (decide ((Go.Lib.indexByte ([48, 49, 50, 51, 52, 53, 54, 55, 56, 57, 97, 98, 99, 100, 101, 102] : List UInt8) (l.getD (2 * k + 1) 0) : Int) ≥ 0)))) (congrArg Value.bool c_17) rfl) ?_
      refine WL.q (Wn.no rfl) rfl rfl (R.assign (v := (.bool (decide ((Go.Lib.indexByte ([48, 49, 50, 51, 52, 53, 54, 55, 56, 57, 97, 98, 99, 100, 101, 102] : List UInt8) (l.getD (2 * k + 1) 0) : Int) ≥ 0)))) rfl) ?_
      refine WL.nil ?_
      refine thn_n ?_
      refine WP.seq ?_
      refine WP.reg ?_
      refine WL.q (Wn.no rfl) rfl rfl (R.move (v := (.bool (decide ((Go.Lib.indexByte ([48, 49, 50, 51, 52, 53, 54, 55, 56, 57, 97, 98, 99, 100, 101, 102] : List UInt8) (l.getD (2 * k + 1) 0) : Int) ≥ 0)))) rfl) ?_
      refine WL.q (Wn.no rfl) rfl rfl (R.not (b := decide ((Go.Lib.indexByte ([48, 49, 50, 51, 52, 53, 54, 55, 56, 57, 97, 98, 99, 100, 101, 102] : List UInt8) (l.getD (2 * k + 1) 0) : Int) ≥ 0)) rfl) ?_
      refine WL.nil ?_
      refine thn_n ?_
      refine WP.cond (b := !(decide ((Go.Lib.indexByte ([48, 49, 50, 51, 52, 53, 54, 55, 56, 57, 97, 98, 99, 100, 101, 102] : List UInt8) (l.getD (2 * k + 1) 0) : Int) ≥ 0))) rfl (fun c_19 => ?_) (fun c_19 => ?_)
      · have p_20 := of_decide_eq_false (notT c_19)
        refine WP.exit ?_
        refine thn_x ?_
        refine inb_miss rfl ?_
        refine thn_x ?_
        refine thn_x ?_
        refine inb_hit ?_
        refine thn_n ?_
        refine WP.seq ?_
        refine WP.seq ?_
        refine WP.reg ?_
        refine WL.q (Wn.no rfl) rfl rfl (R.move (v := (.bool false)) (congrArg Value.bool (notT c_19))) ?_
        refine WL.q (Wn.no rfl) rfl rfl (R.not (b := false) rfl) ?_
        refine WL.nil ?_
        refine thn_n ?_
        refine WP.condT rfl ?_
        refine WP.seq ?_
        refine WP.reg ?_
        refine WL.q (Wn.no rfl) rfl rfl (R.assign (v := (.slice none 0 0)) rfl) ?_
        refine WL.q (Wn.no rfl) rfl rfl (R.assign (v := (vi 4)) rfl) ?_
        refine WL.nil ?_
        refine thn_n ?_
        refine WP.ret ?_
        refine thn_r ?_
        refine ng_r ?_
        refine ret_of Try.results24 (RV.tmp (v := (.slice none 0 0)) rfl (RV.tmp (v := (vi 4)) rfl RV.nil)) ?_
        have hb := (Go.Wr.okHex_good hx).2 k (by omega)
        rw [hg_no (.inr (ix_bad p_20))] at hb
        cases hb
      · have p_21 := of_decide_eq_true (notF c_19)
        refine WP.skip ?_
        refine thn_n ?_
        refine WP.reg ?_
        refine WL.q (Wn.no rfl) rfl rfl (R.move (v := (.slice ra k rc)) rfl) ?_
        refine WL.q (Wn.no rfl) rfl rfl (R.move (v := (vi (Go.Lib.indexByte ([48, 49, 50, 51, 52, 53, 54, 55, 56, 57, 97, 98, 99, 100, 101, 102] : List UInt8) (l.getD (2 * k) 0)))) rfl) ?_
        have d1 := ix_ok p_18
        have d2 := ix_ok p_21
        refine WL.q (Wn.no rfl) rfl rfl (R.binR (v := vi (((Go.Wr.dig (l.getD (2 * k) 0)).toNat * 2 ^ 4 : Nat) : Int)) (congrArg vi d1.2) rfl (run_shlN _ _ _ (Go.Wr.dig (l.getD (2 * k) 0)).toNat _ 4 (by decide) (or_lt (y := 0)))) ?_
        refine WL.q (Wn.no rfl) rfl rfl (R.move (v := (vi (Go.Lib.indexByte ([48, 49, 50, 51, 52, 53, 54, 55, 56, 57, 97, 98, 99, 100, 101, 102] : List UInt8) (l.getD (2 * k + 1) 0)))) rfl) ?_
        refine WL.q (Wn.no rfl) rfl rfl (R.bin (v := (vi (((Go.Wr.dig (l.getD (2 * k) 0)).toNat * 2 ^ 4 ||| (Go.Wr.dig (l.getD (2 * k + 1) 0)).toNat : Nat) : Int))) rfl (congrArg vi d2.2) (bi_orN (or_lt (y := 0)) (Nat.lt_trans (UInt8.toNat_lt _) (by decide)))) ?_
        refine WL.q (Wn.no rfl) rfl rfl (R.conv (b := ((UInt8.ofNat ((Go.Wr.dig (l.getD (2 * k) 0)).toNat * 2 ^ 4 ||| (Go.Wr.dig (l.getD (2 * k + 1) 0)).toNat)) : UInt8).toNat) rfl Try.underlying3 Try.underlying5 (w8_nat ((Go.Wr.dig (l.getD (2 * k) 0)).toNat * 2 ^ 4 ||| (Go.Wr.dig (l.getD (2 * k + 1) 0)).toNat))) ?_
        refine WL.buildSl (vs := [(0, (vu8 (UInt8.ofNat ((Go.Wr.dig (l.getD (2 * k) 0)).toNat * 2 ^ 4 ||| (Go.Wr.dig (l.getD (2 * k + 1) 0)).toNat))))]) (cs := ([UInt8.ofNat ((Go.Wr.dig (l.getD (2 * k) 0)).toNat * 2 ^ 4 ||| (Go.Wr.dig (l.getD (2 * k + 1) 0)).toNat)] : List UInt8).map vu8) h_16 Try.underlying23 Try.sizeOf5 (zv Try.typeInfo5 rfl) rfl rfl (by kernel_rfl) rfl (one_u8 _) rfl rfl (fun b_22 w_23 h_24 => ?_)
        refine WL.append (km := k + 1) (xs := (Go.Wr.unhexL l k).map vu8) (ys := ([UInt8.ofNat ((Go.Wr.dig (l.getD (2 * k) 0)).toNat * 2 ^ 4 ||| (Go.Wr.dig (l.getD (2 * k + 1) 0)).toNat)] : List UInt8).map vu8) (zs := ((Go.Wr.unhexL l k) ++ ([UInt8.ofNat ((Go.Wr.dig (l.getD (2 * k) 0)).toNat * 2 ^ 4 ||| (Go.Wr.dig (l.getD (2 * k + 1) 0)).toNat)] : List UInt8)).map vu8) h_24 rfl rfl el23 (viewB (h_24.ok _ (.head _)) Sg.h) ((len_map (rfl : List.length ([UInt8.ofNat ((Go.Wr.dig (l.getD (2 * k) 0)).toNat * 2 ^ 4 ||| (Go.Wr.dig (l.getD (2 * k + 1) 0)).toNat)] : List UInt8) = 1)).trans (Nat.mul_one _).symm) (one_u8 _) (by simp only [List.map_append, List.map_nil]) (by omega) (by omega) (by omega) (fun _ _ => (At.t At.h)) rfl (fun a_25 c_26 w_27 h_28 => ?_)
        refine WL.q (Wn.no rfl) rfl rfl (R.assign (v := (.slice a_25 (k + 1) c_26)) rfl) ?_
        refine WL.nil ?_
        refine inb_n ?_
        refine thn_n ?_
        refine WP.reg ?_
        refine WL.q (Wn.no rfl) rfl rfl (R.move (v := (vi ((2 * k : Nat) : Int))) rfl) ?_
        refine WL.q (Wn.no rfl) rfl rfl (R.bin (v := (vi ((2 * k + 2 : Nat) : Int))) rfl rfl (bi_add (c := ((2 * k + 2 : Nat) : Int)) (by omega) (by omega))) ?_
        refine WL.q (Wn.no rfl) rfl rfl (R.assign (v := (vi ((2 * k + 2 : Nat) : Int))) rfl) ?_
        refine WL.nil ?_
        refine thn_n ?_
        have h_29 := h_28.drop rfl
        rw [un_snoc d1.1 d2.1] at h_29
        refine ⟨(k + 1, a_25, c_26), _, (by omega), (Ag.upd rfl (Ag.upd rfl (Ag.upd rfl (Ag.upd rfl (Ag.upd rfl (Ag.upd rfl (Ag.upd rfl (Ag.upd rfl (Ag.upd rfl (Ag.upd rfl (Ag.upd rfl (Ag.upd rfl (Ag.upd rfl (Ag.upd rfl (Ag.upd rfl (Ag.upd rfl (Ag.upd rfl (Ag.upd rfl (Ag.upd rfl (Ag.upd rfl (Ag.upd rfl (Ag.upd rfl (Ag.upd rfl (Ag.upd rfl (Ag.upd rfl (Ag.upd rfl (Ag.upd rfl (Ag.upd rfl (Ag.upd rfl (Ag.upd rfl (Ag.upd rfl (Ag.upd rfl (Ag.upd rfl (Ag.upd rfl (Ag.upd rfl (Ag.upd rfl (Ag.upd rfl (Ag.upd rfl (Ag.upd rfl (Ag.updL rfl (Ag.mix _ _ _))))))))))))))))))))))))))))))))))))))))), ⟨rfl, (congrArg Value.bool (notF c_19)), rfl, trivial⟩, h_29, (by omega), (fun j hj => ?_), rfl⟩
        rcases Nat.lt_or_eq_of_le (Nat.le_of_lt_succ hj) with hj | rfl
        · exact hg j hj
        · exact hg_ok d1.1 d2.1
    · have p_30 := of_decide_eq_false c_17
      refine WL.skip rfl (congrArg Value.bool c_17) rfl ?_
      refine WL.skip rfl (congrArg Value.bool c_17) rfl ?_
      refine WL.q (Wn.no rfl) rfl rfl (R.pickF (v := (.bool false)) (congrArg Value.bool c_17) rfl) ?_
      refine WL.q (Wn.no rfl) rfl rfl (R.assign (v := (.bool false)) rfl) ?_
      refine WL.nil ?_
      refine thn_n ?_
      refine WP.seq ?_
      refine WP.reg ?_
      refine WL.q (Wn.no rfl) rfl rfl (R.move (v := (.bool false)) rfl) ?_
      refine WL.q (Wn.no rfl) rfl rfl (R.not (b := false) rfl) ?_
      refine WL.nil ?_
      refine thn_n ?_
      refine WP.condT rfl ?_
      refine WP.exit ?_
      refine thn_x ?_
      refine inb_miss rfl ?_
      refine thn_x ?_
      refine thn_x ?_
      refine inb_hit ?_
      refine thn_n ?_
      refine WP.seq ?_
      refine WP.seq ?_
      refine WP.reg ?_
      refine WL.q (Wn.no rfl) rfl rfl (R.move (v := (.bool false)) rfl) ?_
      refine WL.q (Wn.no rfl) rfl rfl (R.not (b := false) rfl) ?_
      refine WL.nil ?_
      refine thn_n ?_
      refine WP.condT rfl ?_
      refine WP.seq ?_
      refine WP.reg ?_
      refine WL.q (Wn.no rfl) rfl rfl (R.assign (v := (.slice none 0 0)) rfl) ?_
      refine WL.q (Wn.no rfl) rfl rfl (R.assign (v := (vi 4)) rfl) ?_
      refine WL.nil ?_
      refine thn_n ?_
      refine WP.ret ?_
      refine thn_r ?_
      refine ng_r ?_
      refine ret_of Try.results24 (RV.tmp (v := (.slice none 0 0)) rfl (RV.tmp (v := (vi 4)) rfl RV.nil)) ?_
      have hb := (Go.Wr.okHex_good hx).2 k (by omega)
      rw [hg_no (.inl (ix_bad p_30))] at hb
      cases hb
  · have p_31 := of_decide_eq_false c_6
    refine WP.exit ?_
    refine thn_x ?_
    refine thn_x ?_
    refine inb_hit ?_
    refine thn_n ?_
    refine WP.seq ?_
    refine WP.seq ?_
    refine WP.reg ?_
    refine WL.q (Wn.no rfl) rfl rfl (R.move (v := (.bool true)) rfl) ?_
    refine WL.q (Wn.no rfl) rfl rfl (R.not (b := true) rfl) ?_
    refine WL.nil ?_
    refine thn_n ?_
    refine WP.condF rfl ?_
    refine WP.skip ?_
    refine thn_n ?_
    refine WP.seq ?_
    refine WP.reg ?_
    refine WL.q (Wn.no rfl) rfl rfl (R.move (v := (.slice ra k rc)) rfl) ?_
    refine WL.q (Wn.no rfl) rfl rfl (R.assign (v := (.slice ra k rc)) rfl) ?_
    refine WL.q (Wn.no rfl) rfl rfl (R.assign (v := (vi 0)) rfl) ?_
    refine WL.nil ?_
    refine thn_n ?_
    refine WP.ret ?_
    refine ng_r ?_
    refine ret_of Try.results24 (RV.tmp (v := (.slice ra k rc)) rfl (RV.tmp (v := (vi 0)) rfl RV.nil)) ?_
    have hk2 : k = n / 2 := by omega
    subst hk2
    exact ⟨_, _, rfl, h_3.chgS, h_3.ok _ (.head _)⟩

theorem c_Unhex_f (l : List UInt8) (n : Nat) (hl : l.length = n) (hn : n ≤ 1099511627776) (hx : Go.Wr.okHex l = false) (he : n % 2 = 0) (w : World) :
    Cs Try.prog 24 [(.string (bstr l))].toArray w (fun v w1 => v = (.tuple [(.slice none 0 0), (vi 4)].toArray) ∧ Chg w w1 []) := by
  refine Cs.of (n := 50) (args := [(.string (bstr l))]) Try.func24 rfl rfl rfl ?_
  have h_0 := HP.init w
  refine WP.seq ?_
  refine WP.reg ?_
  refine WL.q (Wn.no rfl) rfl rfl (R.assign (v := (.slice none 0 0)) rfl) ?_
  refine WL.q (Wn.no rfl) rfl rfl (R.assign (v := (vi 0)) rfl) ?_
  refine WL.nil ?_
  refine thn_n ?_
  refine WP.scope ?_
  refine WP.seq ?_
  refine WP.reg ?_
  refine WL.q (Wn.no rfl) rfl rfl (R.assign (v := (.slice none 0 0)) rfl) ?_
  refine WL.nil ?_
  refine thn_n ?_
  refine WP.seq ?_
  refine WP.reg ?_
  refine WL.q (Wn.no rfl) rfl rfl (R.move (v := (.string (bstr l))) rfl) ?_
  refine WL.q (Wn.no rfl) rfl rfl (R.lenStrL (l := l) (m := n) rfl rfl Try.underlying9 hl) ?_
  refine WL.q (Wn.no rfl) rfl rfl (R.bin (v := (vi ((n % 2 : Nat) : Int))) rfl rfl (bi_rem (c := ((n % 2 : Nat) : Int)) (Int.natCast_nonneg _) (by omega) (by first | omega | rfl))) ?_
  refine WL.q (Wn.no rfl) rfl rfl (R.bin (v := (.bool (decide ((((n % 2 : Nat) : Int) : Int) = 0)))) rfl rfl (bi_eql (r := decide ((((n % 2 : Nat) : Int) : Int) = 0)) rfl)) ?_
  refine WL.q (Wn.no rfl) rfl rfl (R.assign (v := (.bool (decide ((((n % 2 : Nat) : Int) : Int) = 0)))) rfl) ?_
  refine WL.nil ?_
  refine thn_n ?_
  refine WP.seq ?_
  refine WP.label ?_
  refine thn_n ?_
  refine WP.seq ?_
  refine WP.seq ?_
  refine WP.reg ?_
  refine WL.q (Wn.no rfl) rfl rfl (R.assign (v := (vi 0)) rfl) ?_
  refine WL.nil ?_
  refine thn_n ?_
  refine WP.block ?_
  have h_1 := h_0.rowNil 5 1
  refine WP.loopG (G := Nat × Option Addr × Nat) [4, 5, 6, 7, 8, 13, 14, 15, 16, 17, 18, 19, 20, 21, 22, 23, 24, 25, 26, 27, 28, 29, 30, 31, 32, 33, 34, 35, 36, 37, 38, 39, 40, 41, 42, 43, 44, 45, 46] (fun (k, ra, rc) => [(4, (.slice ra k rc)), (5, (.bool true)), (6, (vi ((2 * k : Nat) : Int)))]) (fun (k, ra, rc) m w1 => HP w w1 [.row ra k rc 5 1 ((Go.Wr.unhexL l k).map vu8)] ∧ (2 * k ≤ n) ∧ (∀ j : Nat, j < k → Go.Wr.hg l j = true) ∧ m = n - 2 * k) ⟨(0, none, 0), _, ⟨rfl, (congrArg Value.bool (decide_eq_true (by omega))), rfl, trivial⟩, h_1, (by omega), (fun j h => by omega), rfl⟩ ?_
  rintro ⟨k, ra, rc⟩ m_4 J_5 w_2 ⟨h_3, hk, hg, rfl⟩
  refine WP.seq ?_
  refine WP.seq ?_
  refine WP.reg ?_
  refine WL.q (Wn.no rfl) rfl rfl (R.move (v := (.bool true)) rfl) ?_
  refine WL.q (Wn.no rfl) rfl rfl (R.move (v := (.bool true)) rfl) ?_
  refine WL.want rfl rfl ?_
  refine WL.q (Wn.no rfl) rfl rfl (R.move (v := (vi ((2 * k : Nat) : Int))) rfl) ?_
  refine WL.want rfl rfl ?_
  refine WL.q (Wn.no rfl) rfl rfl (R.move (v := (.string (bstr l))) rfl) ?_
  refine WL.want rfl rfl ?_
  refine WL.q (Wn.no rfl) rfl rfl (R.lenStrL (l := l) (m := n) rfl rfl Try.underlying9 hl) ?_
  refine WL.want rfl rfl ?_
  refine WL.q (Wn.no rfl) rfl rfl (R.bin (v := (.bool (decide ((((2 * k : Nat) : Int) : Int) < ((n : Nat) : Int))))) rfl rfl (bi_lss (r := decide ((((2 * k : Nat) : Int) : Int) < ((n : Nat) : Int))) rfl)) ?_
  refine WL.q (Wn.no rfl) rfl rfl (R.pickT (v := (.bool (decide ((((2 * k : Nat) : Int) : Int) < ((n : Nat) : Int))))) rfl rfl) ?_
  refine WL.nil ?_
  refine thn_n ?_
  refine WP.cond (b := decide ((((2 * k : Nat) : Int) : Int) < ((n : Nat) : Int))) rfl (fun c_6 => ?_) (fun c_6 => ?_)
  · have p_7 := of_decide_eq_true c_6
    refine WP.skip ?_
    refine thn_n ?_
    refine WP.seq ?_
    refine WP.block ?_
    refine WP.seq ?_
    refine WP.drawT (SL w.heap.size [.row ra k rc 5 1 ((Go.Wr.unhexL l k).map vu8)]) (.q 0 (.q 1 (.q 2 (.q 4 (.q 5 (.q 6 (.q 7 (.s 3 (.s 8 (.q 9 (.q 10 .nil))))))))))) (by kernel_rfl) (by kernel_rfl) rfl (by kernel_rfl) (fun w_8 hc_10 => (SL.cons ((h_3.same hc_10).ok _ (.head _)) (SL.nil _ _))) (fun w_8 hc_10 => ?_)
    have h_9 := h_3.same hc_10
    refine WT.q rfl (Wn.no rfl) rfl rfl (fun wq hS => R.move (v := (.string (bstr l))) rfl) ?_
    refine WT.q rfl (Wn.no rfl) rfl rfl (fun wq hS => R.move (v := (vi ((2 * k : Nat) : Int))) rfl) ?_
    refine WT.q rfl (Wn.no rfl) rfl rfl (fun wq hS => R.indexStrL (l := l) (i := 2 * k) rfl rfl rfl (by rw [hl]; omega) Try.underlying9) ?_
    refine WT.q rfl (Wn.no rfl) rfl rfl (fun wq hS => R.move (v := (.string (bstr l))) rfl) ?_
    refine WT.q rfl (Wn.no rfl) rfl rfl (fun wq hS => R.move (v := (vi ((2 * k : Nat) : Int))) rfl) ?_
    refine WT.q rfl (Wn.no rfl) rfl rfl (fun wq hS => R.bin (v := (vi ((2 * k + 1 : Nat) : Int))) rfl rfl (bi_add (c := ((2 * k + 1 : Nat) : Int)) (by omega) (by omega))) ?_
    refine WT.q rfl (Wn.no rfl) rfl rfl (fun wq hS => R.indexStrL (l := l) (i := 2 * k + 1) rfl rfl rfl (by rw [hl]; omega) Try.underlying9) ?_
    refine WT.s ?_
    refine Op1.one rfl (Wn.no rfl) ?_
    refine WL.call (al := [(.string (bstr ([48, 49, 50, 51, 52, 53, 54, 55, 56, 57, 97, 98, 99, 100, 101, 102] : List UInt8))), (vu8 (l.getD (2 * k) 0))]) Try.call65 rfl rfl (c_ixb ([48, 49, 50, 51, 52, 53, 54, 55, 56, 57, 97, 98, 99, 100, 101, 102] : List UInt8) (l.getD (2 * k) 0) _ ) rfl ?_
    rintro _ w_12 ⟨rfl, hc_11⟩
    have h_13 := h_9.same hc_11
    refine WL.nil ?_
    refine ⟨(SL.cons (h_13.ok _ (.head _)) (SL.nil _ _)), ?_⟩
    refine WT.s ?_
    refine Op1.one rfl (Wn.no rfl) ?_
    refine WL.call (al := [(.string (bstr ([48, 49, 50, 51, 52, 53, 54, 55, 56, 57, 97, 98, 99, 100, 101, 102] : List UInt8))), (vu8 (l.getD (2 * k + 1) 0))]) Try.call65 rfl rfl (c_ixb ([48, 49, 50, 51, 52, 53, 54, 55, 56, 57, 97, 98, 99, 100, 101, 102] : List UInt8) (l.getD (2 * k + 1) 0) _ ) rfl ?_
    rintro _ w_15 ⟨rfl, hc_14⟩
    have h_16 := h_13.same hc_14
    refine WL.nil ?_
    refine ⟨(SL.cons (h_16.ok _ (.head _)) (SL.nil _ _)), ?_⟩
    refine WT.q rfl (Wn.no rfl) rfl rfl (fun wq hS => R.assign (v := (vi (Go.Lib.indexByte ([48, 49, 50, 51, 52, 53, 54, 55, 56, 57, 97, 98, 99, 100, 101, 102] : List UInt8) (l.getD (2 * k) 0)))) rfl) ?_
    refine WT.q rfl (Wn.no rfl) rfl rfl (fun wq hS => R.assign (v := (vi (Go.Lib.indexByte ([48, 49, 50, 51, 52, 53, 54, 55, 56, 57, 97, 98, 99, 100, 101, 102] : List UInt8) (l.getD (2 * k + 1) 0)))) rfl) ?_
    refine WT.nil ?_
    refine thn_n ?_
    refine WP.seq ?_
    refine WP.seq ?_
    refine WP.reg ?_
    refine WL.q (Wn.no rfl) rfl rfl (R.move (v := (vi (Go.Lib.indexByte ([48, 49, 50, 51, 52, 53, 54, 55, 56, 57, 97, 98, 99, 100, 101, 102] : List UInt8) (l.getD (2 * k) 0)))) rfl) ?_
    refine WL.q (Wn.no rfl) rfl rfl (R.bin (v := (.bool (decide ((Go.Lib.indexByte ([48, 49, 50, 51, 52, 53, 54, 55, 56, 57, 97, 98, 99, 100, 101, 102] : List UInt8) (l.getD (2 * k) 0) : Int) ≥ 0)))) rfl rfl (bi_geq (r := decide ((Go.Lib.indexByte ([48, 49, 50, 51, 52, 53, 54, 55, 56, 57, 97, 98, 99, 100, 101, 102] : List UInt8) (l.getD (2 * k) 0) : Int) ≥ 0)) rfl)) ?_
    refine WL.q (Wn.no rfl) rfl rfl (R.move (v := (.bool (decide ((Go.Lib.indexByte ([48, 49, 50, 51, 52, 53, 54, 55, 56, 57, 97, 98, 99, 100, 101, 102] : List UInt8) (l.getD (2 * k) 0) : Int) ≥ 0)))) rfl) ?_
    rcases Bool.eq_false_or_eq_true (decide ((Go.Lib.indexByte ([48, 49, 50, 51, 52, 53, 54, 55, 56, 57, 97, 98, 99, 100, 101, 102] : List UInt8) (l.getD (2 * k) 0) : Int) ≥ 0)) with c_17 | c_17
    · have p_18 := of_decide_eq_true c_17
      refine WL.want rfl (congrArg Value.bool c_17) ?_
      refine WL.q (Wn.no rfl) rfl rfl (R.move (v := (vi (Go.Lib.indexByte ([48, 49, 50, 51, 52, 53, 54, 55, 56, 57, 97, 98, 99, 100, 101, 102] : List UInt8) (l.getD (2 * k + 1) 0)))) rfl) ?_
      refine WL.want rfl (congrArg Value.bool c_17) ?_
      refine WL.q (Wn.no rfl) rfl rfl (R.bin (v := (.bool (decide ((Go.Lib.indexByte ([48, 49, 50, 51, 52, 53, 54, 55, 56, 57, 97, 98, 99, 100, 101, 102] : List UInt8) (l.getD (2 * k + 1) 0) : Int) ≥ 0)))) rfl rfl (bi_geq (r := decide ((Go.Lib.indexByte ([48, 49, 50, 51, 52, 53, 54, 55, 56, 57, 97, 98, 99, 100, 101, 102] : List UInt8) (l.getD (2 * k + 1) 0) : Int) ≥ 0)) rfl)) ?_
      refine WL.q (Wn.no rfl) rfl rfl (R.pickT (v := (.bool (decide ((Go.Lib.indexByte ([48, 49, 50, 51, 52, 53, 54, 55, 56, 57, 97, 98, 99, 100, 101, 102] : List UInt8) (l.getD (2 * k + 1) 0) : Int) ≥ 0)))) (congrArg Value.bool c_17) rfl) ?_
      refine WL.q (Wn.no rfl) rfl rfl (R.assign (v := (.bool (decide ((Go.Lib.indexByte ([48, 49, 50, 51, 52, 53, 54, 55, 56, 57, 97, 98, 99, 100, 101, 102] : List UInt8) (l.getD (2 * k + 1) 0) : Int) ≥ 0)))) rfl) ?_
      refine WL.nil ?_
      refine thn_n ?_
      refine WP.seq ?_
      refine WP.reg ?_
      refine WL.q (Wn.no rfl) rfl rfl (R.move (v := (.bool (decide ((Go.Lib.indexByte ([48, 49, 50, 51, 52, 53, 54, 55, 56, 57, 97, 98, 99, 100, 101, 102] : List UInt8) (l.getD (2 * k + 1) 0) : Int) ≥ 0)))) rfl) ?_
      refine WL.q (Wn.no rfl) rfl rfl (R.not (b := decide ((Go.Lib.indexByte ([48, 49, 50, 51, 52, 53, 54, 55, 56, 57, 97, 98, 99, 100, 101, 102] : List UInt8) (l.getD (2 * k + 1) 0) : Int) ≥ 0)) rfl) ?_
      refine WL.nil ?_
      refine thn_n ?_
      refine WP.cond (b := !(decide ((Go.Lib.indexByte ([48, 49, 50, 51, 52, 53, 54, 55, 56, 57, 97, 98, 99, 100, 101, 102] : List UInt8) (l.getD (2 * k + 1) 0) : Int) ≥ 0))) rfl (fun c_19 => ?_) (fun c_19 => ?_)
      · have p_20 := of_decide_eq_false (notT c_19)
        refine WP.exit ?_
        refine thn_x ?_
        refine inb_miss rfl ?_
        refine thn_x ?_
        refine thn_x ?_
        refine inb_hit ?_
        refine thn_n ?_
        refine WP.seq ?_
        refine WP.seq ?_
        refine WP.reg ?_
        refine WL.q (Wn.no rfl) rfl rfl (R.move (v := (.bool false)) (congrArg Value.bool (notT c_19))) ?_
        refine WL.q (Wn.no rfl) rfl rfl (R.not (b := false) rfl) ?_
        refine WL.nil ?_
        refine thn_n ?_
        refine WP.condT rfl ?_
        refine WP.seq ?_
        refine WP.reg ?_
        refine WL.q (Wn.no rfl) rfl rfl (R.assign (v := (.slice none 0 0)) rfl) ?_
        refine WL.q (Wn.no rfl) rfl rfl (R.assign (v := (vi 4)) rfl) ?_
        refine WL.nil ?_
        refine thn_n ?_
        refine WP.ret ?_
        refine thn_r ?_
        refine ng_r ?_
        refine ret_of Try.results24 (RV.tmp (v := (.slice none 0 0)) rfl (RV.tmp (v := (vi 4)) rfl RV.nil)) ?_
        exact ⟨rfl, h_16.chgS⟩
      · have p_21 := of_decide_eq_true (notF c_19)
        refine WP.skip ?_
        refine thn_n ?_
        refine WP.reg ?_
        refine WL.q (Wn.no rfl) rfl rfl (R.move (v := (.slice ra k rc)) rfl) ?_
        refine WL.q (Wn.no rfl) rfl rfl (R.move (v := (vi (Go.Lib.indexByte ([48, 49, 50, 51, 52, 53, 54, 55, 56, 57, 97, 98, 99, 100, 101, 102] : List UInt8) (l.getD (2 * k) 0)))) rfl) ?_
        have d1 := ix_ok p_18
        have d2 := ix_ok p_21
        refine WL.q (Wn.no rfl) rfl rfl (R.binR (v := vi (((Go.Wr.dig (l.getD (2 * k) 0)).toNat * 2 ^ 4 : Nat) : Int)) (congrArg vi d1.2) rfl (run_shlN _ _ _ (Go.Wr.dig (l.getD (2 * k) 0)).toNat _ 4 (by decide) (or_lt (y := 0)))) ?_
        refine WL.q (Wn.no rfl) rfl rfl (R.move (v := (vi (Go.Lib.indexByte ([48, 49, 50, 51, 52, 53, 54, 55, 56, 57, 97, 98, 99, 100, 101, 102] : List UInt8) (l.getD (2 * k + 1) 0)))) rfl) ?_
        refine WL.q (Wn.no rfl) rfl rfl (R.bin (v := (vi (((Go.Wr.dig (l.getD (2 * k) 0)).toNat * 2 ^ 4 ||| (Go.Wr.dig (l.getD (2 * k + 1) 0)).toNat : Nat) : Int))) rfl (congrArg vi d2.2) (bi_orN (or_lt (y := 0)) (Nat.lt_trans (UInt8.toNat_lt _) (by decide)))) ?_
        refine WL.q (Wn.no rfl) rfl rfl (R.conv (b := ((UInt8.ofNat ((Go.Wr.dig (l.getD (2 * k) 0)).toNat * 2 ^ 4 ||| (Go.Wr.dig (l.getD (2 * k + 1) 0)).toNat)) : UInt8).toNat) rfl Try.underlying3 Try.underlying5 (w8_nat ((Go.Wr.dig (l.getD (2 * k) 0)).toNat * 2 ^ 4 ||| (Go.Wr.dig (l.getD (2 * k + 1) 0)).toNat))) ?_
        refine WL.buildSl (vs := [(0, (vu8 (UInt8.ofNat ((Go.Wr.dig (l.getD (2 * k) 0)).toNat * 2 ^ 4 ||| (Go.Wr.dig (l.getD (2 * k + 1) 0)).toNat))))]) (cs := ([UInt8.ofNat ((Go.Wr.dig (l.getD (2 * k) 0)).toNat * 2 ^ 4 ||| (Go.Wr.dig (l.getD (2 * k + 1) 0)).toNat)] : List UInt8).map vu8) h_16 Try.underlying23 Try.sizeOf5 (zv Try.typeInfo5 rfl) rfl rfl (by kernel_rfl) rfl (one_u8 _) rfl rfl (fun b_22 w_23 h_24 => ?_)
        refine WL.append (km := k + 1) (xs := (Go.Wr.unhexL l k).map vu8) (ys := ([UInt8.ofNat ((Go.Wr.dig (l.getD (2 * k) 0)).toNat * 2 ^ 4 ||| (Go.Wr.dig (l.getD (2 * k + 1) 0)).toNat)] : List UInt8).map vu8) (zs := ((Go.Wr.unhexL l k) ++ ([UInt8.ofNat ((Go.Wr.dig (l.getD (2 * k) 0)).toNat * 2 ^ 4 ||| (Go.Wr.dig (l.getD (2 * k + 1) 0)).toNat)] : List UInt8)).map vu8) h_24 rfl rfl el23 (viewB (h_24.ok _ (.head _)) Sg.h) ((len_map (rfl : List.length ([UInt8.ofNat ((Go.Wr.dig (l.getD (2 * k) 0)).toNat * 2 ^ 4 ||| (Go.Wr.dig (l.getD (2 * k + 1) 0)).toNat)] : List UInt8) = 1)).trans (Nat.mul_one _).symm) (one_u8 _) (by simp only [List.map_append, List.map_nil]) (by omega) (by omega) (by omega) (fun _ _ => (At.t At.h)) rfl (fun a_25 c_26 w_27 h_28 => ?_)
        refine WL.q (Wn.no rfl) rfl rfl (R.assign (v := (.slice a_25 (k + 1) c_26)) rfl) ?_
        refine WL.nil ?_
        refine inb_n ?_
        refine thn_n ?_
        refine WP.reg ?_
        refine WL.q (Wn.no rfl) rfl rfl (R.move (v := (vi ((2 * k : Nat) : Int))) rfl) ?_
        refine WL.q (Wn.no rfl) rfl rfl (R.bin (v := (vi ((2 * k + 2 : Nat) : Int))) rfl rfl (bi_add (c := ((2 * k + 2 : Nat) : Int)) (by omega) (by omega))) ?_
        refine WL.q (Wn.no rfl) rfl rfl (R.assign (v := (vi ((2 * k + 2 : Nat) : Int))) rfl) ?_
        refine WL.nil ?_
        refine thn_n ?_
        have h_29 := h_28.drop rfl
        rw [un_snoc d1.1 d2.1] at h_29
        refine ⟨(k + 1, a_25, c_26), _, (by omega), (Ag.upd rfl (Ag.upd rfl (Ag.upd rfl (Ag.upd rfl (Ag.upd rfl (Ag.upd rfl (Ag.upd rfl (Ag.upd rfl (Ag.upd rfl (Ag.upd rfl (Ag.upd rfl (Ag.upd rfl (Ag.upd rfl (Ag.upd rfl (Ag.upd rfl (Ag.upd rfl (Ag.upd rfl (Ag.upd rfl (Ag.upd rfl (Ag.upd rfl (Ag.upd rfl (Ag.upd rfl (Ag.upd rfl (Ag.upd rfl (Ag.upd rfl (Ag.upd rfl (Ag.upd rfl (Ag.upd rfl (Ag.upd rfl (Ag.upd rfl (Ag.upd rfl (Ag.upd rfl (Ag.upd rfl (Ag.upd rfl (Ag.upd rfl (Ag.upd rfl (Ag.upd rfl (Ag.upd rfl (Ag.upd rfl (Ag.updL rfl (Ag.mix _ _ _))))))))))))))))))))))))))))))))))))))))), ⟨rfl, (congrArg Value.bool (notF c_19)), rfl, trivial⟩, h_29, (by omega), (fun j hj => ?_), rfl⟩
        rcases Nat.lt_or_eq_of_le (Nat.le_of_lt_succ hj) with hj | rfl
        · exact hg j hj
        · exact hg_ok d1.1 d2.1
    · have p_30 := of_decide_eq_false c_17
      refine WL.skip rfl (congrArg Value.bool c_17) rfl ?_
      refine WL.skip rfl (congrArg Value.bool c_17) rfl ?_
      refine WL.q (Wn.no rfl) rfl rfl (R.pickF (v := (.bool false)) (congrArg Value.bool c_17) rfl) ?_
      refine WL.q (Wn.no rfl) rfl rfl (R.assign (v := (.bool false)) rfl) ?_
      refine WL.nil ?_
      refine thn_n ?_
      refine WP.seq ?_
      refine WP.reg ?_
      refine WL.q (Wn.no rfl) rfl rfl (R.move (v := (.bool false)) rfl) ?_
      refine WL.q (Wn.no rfl) rfl rfl (R.not (b := false) rfl) ?_
      refine WL.nil ?_
      refine thn_n ?_
      refine WP.condT rfl ?_
      refine WP.exit ?_
      refine thn_x ?_
      refine inb_miss rfl ?_
      refine thn_x ?_
      refine thn_x ?_
      refine inb_hit ?_
      refine thn_n ?_
      refine WP.seq ?_
      refine WP.seq ?_
      refine WP.reg ?_
      refine WL.q (Wn.no rfl) rfl rfl (R.move (v := (.bool false)) rfl) ?_
      refine WL.q (Wn.no rfl) rfl rfl (R.not (b := false) rfl) ?_
      refine WL.nil ?_
      refine thn_n ?_
      refine WP.condT rfl ?_
      refine WP.seq ?_
      refine WP.reg ?_
      refine WL.q (Wn.no rfl) rfl rfl (R.assign (v := (.slice none 0 0)) rfl) ?_
      refine WL.q (Wn.no rfl) rfl rfl (R.assign (v := (vi 4)) rfl) ?_
      refine WL.nil ?_
      refine thn_n ?_
      refine WP.ret ?_
      refine thn_r ?_
      refine ng_r ?_
      refine ret_of Try.results24 (RV.tmp (v := (.slice none 0 0)) rfl (RV.tmp (v := (vi 4)) rfl RV.nil)) ?_
      exact ⟨rfl, h_16.chgS⟩
  · have p_31 := of_decide_eq_false c_6
    refine WP.exit ?_
    refine thn_x ?_
    refine thn_x ?_
    refine inb_hit ?_
    refine thn_n ?_
    refine WP.seq ?_
    refine WP.seq ?_
    refine WP.reg ?_
    refine WL.q (Wn.no rfl) rfl rfl (R.move (v := (.bool true)) rfl) ?_
    refine WL.q (Wn.no rfl) rfl rfl (R.not (b := true) rfl) ?_
    refine WL.nil ?_
    refine thn_n ?_
    refine WP.condF rfl ?_
    refine WP.skip ?_
    refine thn_n ?_
    refine WP.seq ?_
    refine WP.reg ?_
    refine WL.q (Wn.no rfl) rfl rfl (R.move (v := (.slice ra k rc)) rfl) ?_
    refine WL.q (Wn.no rfl) rfl rfl (R.assign (v := (.slice ra k rc)) rfl) ?_
    refine WL.q (Wn.no rfl) rfl rfl (R.assign (v := (vi 0)) rfl) ?_
    refine WL.nil ?_
    refine thn_n ?_
    refine WP.ret ?_
    refine ng_r ?_
    refine ret_of Try.results24 (RV.tmp (v := (.slice ra k rc)) rfl (RV.tmp (v := (vi 0)) rfl RV.nil)) ?_
    have hb : Go.Wr.okHex l = true := Go.Wr.okHex_of (by omega) (fun j hj => hg j (by omega))
    rw [hx] at hb
    cases hb

theorem c_Unhex_o (l : List UInt8) (n : Nat) (hl : l.length = n) (hn : n ≤ 1099511627776) (he : ¬ n % 2 = 0) (w : World) :
    Cs Try.prog 24 [(.string (bstr l))].toArray w (fun v w1 => v = (.tuple [(.slice none 0 0), (vi 4)].toArray) ∧ Chg w w1 []) := by
  refine Cs.of (n := 50) (args := [(.string (bstr l))]) Try.func24 rfl rfl rfl ?_
  have h_0 := HP.init w
  refine WP.seq ?_
  refine WP.reg ?_
  refine WL.q (Wn.no rfl) rfl rfl (R.assign (v := (.slice none 0 0)) rfl) ?_
  refine WL.q (Wn.no rfl) rfl rfl (R.assign (v := (vi 0)) rfl) ?_
  refine WL.nil ?_
  refine thn_n ?_
  refine WP.scope ?_
  refine WP.seq ?_
  refine WP.reg ?_
  refine WL.q (Wn.no rfl) rfl rfl (R.assign (v := (.slice none 0 0)) rfl) ?_
  refine WL.nil ?_
  refine thn_n ?_
  refine WP.seq ?_
  refine WP.reg ?_
  refine WL.q (Wn.no rfl) rfl rfl (R.move (v := (.string (bstr l))) rfl) ?_
  refine WL.q (Wn.no rfl) rfl rfl (R.lenStrL (l := l) (m := n) rfl rfl Try.underlying9 hl) ?_
  refine WL.q (Wn.no rfl) rfl rfl (R.bin (v := (vi ((n % 2 : Nat) : Int))) rfl rfl (bi_rem (c := ((n % 2 : Nat) : Int)) (Int.natCast_nonneg _) (by omega) (by first | omega | rfl))) ?_
  refine WL.q (Wn.no rfl) rfl rfl (R.bin (v := (.bool (decide ((((n % 2 : Nat) : Int) : Int) = 0)))) rfl rfl (bi_eql (r := decide ((((n % 2 : Nat) : Int) : Int) = 0)) rfl)) ?_
  refine WL.q (Wn.no rfl) rfl rfl (R.assign (v := (.bool (decide ((((n % 2 : Nat) : Int) : Int) = 0)))) rfl) ?_
  refine WL.nil ?_
  refine thn_n ?_
  refine WP.seq ?_
  refine WP.label ?_
  refine thn_n ?_
  refine WP.seq ?_
  refine WP.seq ?_
  refine WP.reg ?_
  refine WL.q (Wn.no rfl) rfl rfl (R.assign (v := (vi 0)) rfl) ?_
  refine WL.nil ?_
  refine thn_n ?_
  refine WP.block ?_
  refine WP.loopU (WI.round ?_)
  refine WP.seq ?_
  refine WP.seq ?_
  refine WP.reg ?_
  refine WL.q (Wn.no rfl) rfl rfl (R.move (v := (.bool (decide ((((n % 2 : Nat) : Int) : Int) = 0)))) rfl) ?_
  refine WL.q (Wn.no rfl) rfl rfl (R.move (v := (.bool (decide ((((n % 2 : Nat) : Int) : Int) = 0)))) rfl) ?_
  refine WL.skip rfl (congrArg Value.bool (decide_eq_false (by omega))) rfl ?_
  refine WL.skip rfl (congrArg Value.bool (decide_eq_false (by omega))) rfl ?_
  refine WL.skip rfl (congrArg Value.bool (decide_eq_false (by omega))) rfl ?_
  refine WL.skip rfl (congrArg Value.bool (decide_eq_false (by omega))) rfl ?_
  refine WL.q (Wn.no rfl) rfl rfl (R.pickF (v := (.bool false)) (congrArg Value.bool (decide_eq_false (by omega))) rfl) ?_
  refine WL.nil ?_
  refine thn_n ?_
  refine WP.condF rfl ?_
  refine WP.exit ?_
  refine thn_x ?_
  refine thn_x ?_
  refine inb_hit ?_
  refine thn_n ?_
  refine WP.seq ?_
  refine WP.seq ?_
  refine WP.reg ?_
  refine WL.q (Wn.no rfl) rfl rfl (R.move (v := (.bool (decide ((((n % 2 : Nat) : Int) : Int) = 0)))) rfl) ?_
  refine WL.q (Wn.no rfl) rfl rfl (R.not (b := false) (congrArg Value.bool (decide_eq_false (by omega)))) ?_
  refine WL.nil ?_
  refine thn_n ?_
  refine WP.condT rfl ?_
  refine WP.seq ?_
  refine WP.reg ?_
  refine WL.q (Wn.no rfl) rfl rfl (R.assign (v := (.slice none 0 0)) rfl) ?_
  refine WL.q (Wn.no rfl) rfl rfl (R.assign (v := (vi 4)) rfl) ?_
  refine WL.nil ?_
  refine thn_n ?_
  refine WP.ret ?_
  refine thn_r ?_
  refine ng_r ?_
  refine ret_of Try.results24 (RV.tmp (v := (.slice none 0 0)) rfl (RV.tmp (v := (vi 4)) rfl RV.nil)) ?_
  exact ⟨rfl, h_0.chgS⟩

theorem c_Unhex_no (l : List UInt8) (n : Nat) (hl : l.length = n) (hn : n ≤ 1099511627776) (hx : Go.Wr.okHex l = false) (w : World) : Cs Try.prog 24 [.string (bstr l)].toArray w (fun v w1 => v = (.tuple [(.slice none 0 0), (vi 4)].toArray) ∧ Chg w w1 []) := by
  by_cases he : n % 2 = 0
  · exact c_Unhex_f l n hl hn hx he w
  · exact c_Unhex_o l n hl hn he w

theorem c_UnhexR_t (l : List UInt8) (n : Nat) (hl : l.length = n) (hn : n ≤ 1099511627776) (hx : Go.Wr.okHex l = true) (he : n % 2 = 0) (w : World) :
    Cs Try.prog 25 [(.string (bstr l))].toArray w (fun v w1 => ∃ a cap, v = .tuple [.slice a (n / 2) cap, (.bool true)].toArray ∧ Chg w w1 [] ∧ Own w.heap.size w1 5 1 a (n / 2) cap ((Go.Wr.unhexL l (n / 2)).map vu8)) := by
  refine Cs.of (n := 41) (args := [(.string (bstr l))]) Try.func25 rfl rfl rfl ?_
  have h_0 := HP.init w
  refine WP.seq ?_
  refine WP.reg ?_
  refine WL.q (Wn.no rfl) rfl rfl (R.assign (v := (.slice none 0 0)) rfl) ?_
  refine WL.q (Wn.no rfl) rfl rfl (R.assign (v := (.bool false)) rfl) ?_
  refine WL.nil ?_
  refine thn_n ?_
  refine WP.seq ?_
  refine WP.reg ?_
  refine WL.q (Wn.no rfl) rfl rfl (R.assign (v := (.slice none 0 0)) rfl) ?_
  refine WL.nil ?_
  refine thn_n ?_
  refine WP.seq ?_
  refine WP.seq ?_
  refine WP.reg ?_
  refine WL.q (Wn.no rfl) rfl rfl (R.move (v := (.string (bstr l))) rfl) ?_
  refine WL.q (Wn.no rfl) rfl rfl (R.lenStrL (l := l) (m := n) rfl rfl Try.underlying9 hl) ?_
  refine WL.q (Wn.no rfl) rfl rfl (R.bin (v := (vi ((n % 2 : Nat) : Int))) rfl rfl (bi_rem (c := ((n % 2 : Nat) : Int)) (Int.natCast_nonneg _) (by omega) (by first | omega | rfl))) ?_
  refine WL.q (Wn.no rfl) rfl rfl (R.bin (v := (.bool (decide ((((n % 2 : Nat) : Int) : Int) ≠ 0)))) rfl rfl (bi_neq (r := decide ((((n % 2 : Nat) : Int) : Int) ≠ 0)) rfl)) ?_
  refine WL.nil ?_
  refine thn_n ?_
  refine WP.condF (congrArg Value.bool (decide_eq_false (by omega))) ?_
  refine WP.skip ?_
  refine thn_n ?_
  refine WP.seq ?_
  refine WP.seq ?_
  refine WP.reg ?_
  refine WL.q (Wn.no rfl) rfl rfl (R.assign (v := (vi 0)) rfl) ?_
  refine WL.nil ?_
  refine thn_n ?_
  refine WP.block ?_
  have h_1 := h_0.rowNil 5 1
  refine WP.loopG (G := Nat × Option Addr × Nat) [2, 3, 4, 5, 6, 7, 12, 13, 14, 15, 16, 17, 18, 19, 20, 21, 22, 23, 24, 25, 26, 27, 28, 29, 30, 31, 32, 33, 34, 35, 36, 37, 38, 39] (fun (k, ra, rc) => [(4, (.slice ra k rc)), (5, (vi ((2 * k : Nat) : Int)))]) (fun (k, ra, rc) m w1 => HP w w1 [.row ra k rc 5 1 ((Go.Wr.unhexL l k).map vu8)] ∧ (2 * k ≤ n) ∧ (∀ j : Nat, j < k → Go.Wr.hg l j = true) ∧ m = n - 2 * k) ⟨(0, none, 0), _, ⟨rfl, rfl, trivial⟩, h_1, (by omega), (fun j h => by omega), rfl⟩ ?_
  rintro ⟨k, ra, rc⟩ m_4 J_5 w_2 ⟨h_3, hk, hg, rfl⟩
  refine WP.seq ?_
  refine WP.seq ?_
  refine WP.reg ?_
  refine WL.q (Wn.no rfl) rfl rfl (R.move (v := (vi ((2 * k : Nat) : Int))) rfl) ?_
  refine WL.q (Wn.no rfl) rfl rfl (R.move (v := (.string (bstr l))) rfl) ?_
  refine WL.q (Wn.no rfl) rfl rfl (R.lenStrL (l := l) (m := n) rfl rfl Try.underlying9 hl) ?_
  refine WL.q (Wn.no rfl) rfl rfl (R.bin (v := (.bool (decide ((((2 * k : Nat) : Int) : Int) < ((n : Nat) : Int))))) rfl rfl (bi_lss (r := decide ((((2 * k : Nat) : Int) : Int) < ((n : Nat) : Int))) rfl)) ?_
  refine WL.nil ?_
  refine thn_n ?_
  refine WP.cond (b := decide ((((2 * k : Nat) : Int) : Int) < ((n : Nat) : Int))) rfl (fun c_6 => ?_) (fun c_6 => ?_)
  · have p_7 := of_decide_eq_true c_6
    refine WP.skip ?_
    refine thn_n ?_
    refine WP.seq ?_
    refine WP.block ?_
    refine WP.seq ?_
    refine WP.drawT (SL w.heap.size [.row ra k rc 5 1 ((Go.Wr.unhexL l k).map vu8)]) (.q 0 (.q 1 (.q 2 (.q 4 (.q 5 (.q 6 (.q 7 (.s 3 (.s 8 (.q 9 (.q 10 .nil))))))))))) (by kernel_rfl) (by kernel_rfl) rfl (by kernel_rfl) (fun w_8 hc_10 => (SL.cons ((h_3.same hc_10).ok _ (.head _)) (SL.nil _ _))) (fun w_8 hc_10 => ?_)
    have h_9 := h_3.same hc_10
    refine WT.q rfl (Wn.no rfl) rfl rfl (fun wq hS => R.move (v := (.string (bstr l))) rfl) ?_
    refine WT.q rfl (Wn.no rfl) rfl rfl (fun wq hS => R.move (v := (vi ((2 * k : Nat) : Int))) rfl) ?_
    refine WT.q rfl (Wn.no rfl) rfl rfl (fun wq hS => R.indexStrL (l := l) (i := 2 * k) rfl rfl rfl (by rw [hl]; omega) Try.underlying9) ?_
    refine WT.q rfl (Wn.no rfl) rfl rfl (fun wq hS => R.move (v := (.string (bstr l))) rfl) ?_
    refine WT.q rfl (Wn.no rfl) rfl rfl (fun wq hS => R.move (v := (vi ((2 * k : Nat) : Int))) rfl) ?_
    refine WT.q rfl (Wn.no rfl) rfl rfl (fun wq hS => R.bin (v := (vi ((2 * k + 1 : Nat) : Int))) rfl rfl (bi_add (c := ((2 * k + 1 : Nat) : Int)) (by omega) (by omega))) ?_
    refine WT.q rfl (Wn.no rfl) rfl rfl (fun wq hS => R.indexStrL (l := l) (i := 2 * k + 1) rfl rfl rfl (by rw [hl]; omega) Try.underlying9) ?_
    refine WT.s ?_
    refine Op1.one rfl (Wn.no rfl) ?_
    refine WL.call (al := [(vu8 (l.getD (2 * k) 0))]) Try.call66 rfl rfl (c_digit (l.getD (2 * k) 0) _ ) rfl ?_
    rintro _ w_12 ⟨rfl, hc_11⟩
    have h_13 := h_9.same hc_11
    refine WL.nil ?_
    refine ⟨(SL.cons (h_13.ok _ (.head _)) (SL.nil _ _)), ?_⟩
    refine WT.s ?_
    refine Op1.one rfl (Wn.no rfl) ?_
    refine WL.call (al := [(vu8 (l.getD (2 * k + 1) 0))]) Try.call66 rfl rfl (c_digit (l.getD (2 * k + 1) 0) _ ) rfl ?_
    rintro _ w_15 ⟨rfl, hc_14⟩
    have h_16 := h_13.same hc_14
    refine WL.nil ?_
    refine ⟨(SL.cons (h_16.ok _ (.head _)) (SL.nil _ _)), ?_⟩
    refine WT.q rfl (Wn.no rfl) rfl rfl (fun wq hS => R.assign (v := (vu8 (Go.Wr.dig (l.getD (2 * k) 0)))) rfl) ?_
    refine WT.q rfl (Wn.no rfl) rfl rfl (fun wq hS => R.assign (v := (vu8 (Go.Wr.dig (l.getD (2 * k + 1) 0)))) rfl) ?_
    refine WT.nil ?_
    refine thn_n ?_
    refine WP.seq ?_
    refine WP.seq ?_
    refine WP.reg ?_
    refine WL.q (Wn.no rfl) rfl rfl (R.move (v := (vu8 (Go.Wr.dig (l.getD (2 * k) 0)))) rfl) ?_
    refine WL.q (Wn.no rfl) rfl rfl (R.bin (v := (.bool (decide ((Go.Wr.dig (l.getD (2 * k) 0) : UInt8) > 15)))) rfl rfl (b8_gtr (Go.Wr.dig (l.getD (2 * k) 0)) 15 (r := decide ((Go.Wr.dig (l.getD (2 * k) 0) : UInt8) > 15)) rfl)) ?_
    refine WL.q (Wn.no rfl) rfl rfl (R.move (v := (.bool (decide ((Go.Wr.dig (l.getD (2 * k) 0) : UInt8) > 15)))) rfl) ?_
    rcases Bool.eq_false_or_eq_true (decide ((Go.Wr.dig (l.getD (2 * k) 0) : UInt8) > 15)) with c_17 | c_17
    · have p_18 := of_decide_eq_true c_17
      refine WL.skip rfl (congrArg Value.bool c_17) rfl ?_
      refine WL.skip rfl (congrArg Value.bool c_17) rfl ?_
      refine WL.q (Wn.no rfl) rfl rfl (R.pickT (v := (.bool true)) (congrArg Value.bool c_17) rfl) ?_
      refine WL.nil ?_
      refine thn_n ?_
      refine WP.condT rfl ?_
      refine WP.seq ?_
      refine WP.reg ?_
      refine WL.q (Wn.no rfl) rfl rfl (R.assign (v := (.slice none 0 0)) rfl) ?_
      refine WL.q (Wn.no rfl) rfl rfl (R.assign (v := (.bool false)) rfl) ?_
      refine WL.nil ?_
      refine thn_n ?_
      refine WP.ret ?_
      refine thn_r ?_
      refine inb_r ?_
      refine thn_r ?_
      refine thn_r ?_
      refine inb_r ?_
      refine thn_r ?_
      refine ret_of Try.results25 (RV.tmp (v := (.slice none 0 0)) rfl (RV.tmp (v := (.bool false)) rfl RV.nil)) ?_
      have hb := (Go.Wr.okHex_good hx).2 k (by omega)
      rw [hg_no (.inl (fun hh => absurd p_18 (UInt8.not_lt.2 hh)))] at hb
      cases hb
    · have p_19 := of_decide_eq_false c_17
      refine WL.want rfl (congrArg Value.bool c_17) ?_
      refine WL.q (Wn.no rfl) rfl rfl (R.move (v := (vu8 (Go.Wr.dig (l.getD (2 * k + 1) 0)))) rfl) ?_
      refine WL.want rfl (congrArg Value.bool c_17) ?_
      refine WL.q (Wn.no rfl) rfl rfl (R.bin (v := (.bool (decide ((Go.Wr.dig (l.getD (2 * k + 1) 0) : UInt8) > 15)))) rfl rfl (b8_gtr (Go.Wr.dig (l.getD (2 * k + 1) 0)) 15 (r := decide ((Go.Wr.dig (l.getD (2 * k + 1) 0) : UInt8) > 15)) rfl)) ?_
      refine WL.q (Wn.no rfl) rfl rfl (R.pickF (v := (.bool (decide ((Go.Wr.dig (l.getD (2 * k + 1) 0) : UInt8) > 15)))) (congrArg Value.bool c_17) rfl) ?_
      refine WL.nil ?_
      refine thn_n ?_
      refine WP.cond (b := decide ((Go.Wr.dig (l.getD (2 * k + 1) 0) : UInt8) > 15)) rfl (fun c_20 => ?_) (fun c_20 => ?_)
      · have p_21 := of_decide_eq_true c_20
        refine WP.seq ?_
        refine WP.reg ?_
        refine WL.q (Wn.no rfl) rfl rfl (R.assign (v := (.slice none 0 0)) rfl) ?_
        refine WL.q (Wn.no rfl) rfl rfl (R.assign (v := (.bool false)) rfl) ?_
        refine WL.nil ?_
        refine thn_n ?_
        refine WP.ret ?_
        refine thn_r ?_
        refine inb_r ?_
        refine thn_r ?_
        refine thn_r ?_
        refine inb_r ?_
        refine thn_r ?_
        refine ret_of Try.results25 (RV.tmp (v := (.slice none 0 0)) rfl (RV.tmp (v := (.bool false)) rfl RV.nil)) ?_
        have hb := (Go.Wr.okHex_good hx).2 k (by omega)
        rw [hg_no (.inr (fun hh => absurd p_21 (UInt8.not_lt.2 hh)))] at hb
        cases hb
      · have p_22 := of_decide_eq_false c_20
        refine WP.skip ?_
        refine thn_n ?_
        refine WP.reg ?_
        refine WL.q (Wn.no rfl) rfl rfl (R.move (v := (.slice ra k rc)) rfl) ?_
        refine WL.q (Wn.no rfl) rfl rfl (R.move (v := (vu8 (Go.Wr.dig (l.getD (2 * k) 0)))) rfl) ?_
        refine WL.q (Wn.no rfl) rfl rfl (R.bin (v := (vu8 ((Go.Wr.dig (l.getD (2 * k) 0)) * 16))) rfl rfl (b8_mul (Go.Wr.dig (l.getD (2 * k) 0)) 16)) ?_
        refine WL.q (Wn.no rfl) rfl rfl (R.move (v := (vu8 (Go.Wr.dig (l.getD (2 * k + 1) 0)))) rfl) ?_
        refine WL.q (Wn.no rfl) rfl rfl (R.bin (v := (vu8 (((Go.Wr.dig (l.getD (2 * k) 0)) * 16) + (Go.Wr.dig (l.getD (2 * k + 1) 0))))) rfl rfl (b8_add ((Go.Wr.dig (l.getD (2 * k) 0)) * 16) (Go.Wr.dig (l.getD (2 * k + 1) 0)))) ?_
        refine WL.buildSl (vs := [(0, (vu8 (((Go.Wr.dig (l.getD (2 * k) 0)) * 16) + (Go.Wr.dig (l.getD (2 * k + 1) 0)))))]) (cs := ([((Go.Wr.dig (l.getD (2 * k) 0)) * 16) + (Go.Wr.dig (l.getD (2 * k + 1) 0))] : List UInt8).map vu8) h_16 Try.underlying23 Try.sizeOf5 (zv Try.typeInfo5 rfl) rfl rfl (by kernel_rfl) rfl (one_u8 _) rfl rfl (fun b_23 w_24 h_25 => ?_)
        refine WL.append (km := k + 1) (xs := (Go.Wr.unhexL l k).map vu8) (ys := ([((Go.Wr.dig (l.getD (2 * k) 0)) * 16) + (Go.Wr.dig (l.getD (2 * k + 1) 0))] : List UInt8).map vu8) (zs := ((Go.Wr.unhexL l k) ++ ([((Go.Wr.dig (l.getD (2 * k) 0)) * 16) + (Go.Wr.dig (l.getD (2 * k + 1) 0))] : List UInt8)).map vu8) h_25 rfl rfl el23 (viewB (h_25.ok _ (.head _)) Sg.h) ((len_map (rfl : List.length ([((Go.Wr.dig (l.getD (2 * k) 0)) * 16) + (Go.Wr.dig (l.getD (2 * k + 1) 0))] : List UInt8) = 1)).trans (Nat.mul_one _).symm) (one_u8 _) (by simp only [List.map_append, List.map_nil]) (by omega) (by omega) (by omega) (fun _ _ => (At.t At.h)) rfl (fun a_26 c_27 w_28 h_29 => ?_)
        refine WL.q (Wn.no rfl) rfl rfl (R.assign (v := (.slice a_26 (k + 1) c_27)) rfl) ?_
        refine WL.nil ?_
        refine inb_n ?_
        refine thn_n ?_
        refine WP.reg ?_
        refine WL.q (Wn.no rfl) rfl rfl (R.move (v := (vi ((2 * k : Nat) : Int))) rfl) ?_
        refine WL.q (Wn.no rfl) rfl rfl (R.bin (v := (vi ((2 * k + 2 : Nat) : Int))) rfl rfl (bi_add (c := ((2 * k + 2 : Nat) : Int)) (by omega) (by omega))) ?_
        refine WL.q (Wn.no rfl) rfl rfl (R.assign (v := (vi ((2 * k + 2 : Nat) : Int))) rfl) ?_
        refine WL.nil ?_
        refine thn_n ?_
        have h_30 := h_29.drop rfl
        have d1 : Go.Wr.dig (l.getD (2 * k) 0) ≤ 15 := UInt8.not_lt.1 p_19
        have d2 : Go.Wr.dig (l.getD (2 * k + 1) 0) ≤ 15 := UInt8.not_lt.1 p_22
        rw [un_snocR] at h_30
        refine ⟨(k + 1, a_26, c_27), _, (by omega), (Ag.upd rfl (Ag.upd rfl (Ag.upd rfl (Ag.upd rfl (Ag.upd rfl (Ag.upd rfl (Ag.upd rfl (Ag.upd rfl (Ag.upd rfl (Ag.upd rfl (Ag.upd rfl (Ag.upd rfl (Ag.upd rfl (Ag.upd rfl (Ag.upd rfl (Ag.upd rfl (Ag.upd rfl (Ag.upd rfl (Ag.upd rfl (Ag.upd rfl (Ag.upd rfl (Ag.upd rfl (Ag.upd rfl (Ag.upd rfl (Ag.upd rfl (Ag.upd rfl (Ag.upd rfl (Ag.upd rfl (Ag.upd rfl (Ag.upd rfl (Ag.upd rfl (Ag.upd rfl (Ag.updL rfl (Ag.mix _ _ _)))))))))))))))))))))))))))))))))), ⟨rfl, rfl, trivial⟩, h_30, (by omega), (fun j hj => ?_), rfl⟩
        rcases Nat.lt_or_eq_of_le (Nat.le_of_lt_succ hj) with hj | rfl
        · exact hg j hj
        · exact hg_ok d1 d2
  · have p_31 := of_decide_eq_false c_6
    refine WP.exit ?_
    refine thn_x ?_
    refine thn_x ?_
    refine inb_hit ?_
    refine thn_n ?_
    refine WP.seq ?_
    refine WP.reg ?_
    refine WL.q (Wn.no rfl) rfl rfl (R.move (v := (.slice ra k rc)) rfl) ?_
    refine WL.q (Wn.no rfl) rfl rfl (R.assign (v := (.slice ra k rc)) rfl) ?_
    refine WL.q (Wn.no rfl) rfl rfl (R.assign (v := (.bool true)) rfl) ?_
    refine WL.nil ?_
    refine thn_n ?_
    refine WP.ret ?_
    refine ret_of Try.results25 (RV.tmp (v := (.slice ra k rc)) rfl (RV.tmp (v := (.bool true)) rfl RV.nil)) ?_
    have hk2 : k = n / 2 := by omega
    subst hk2
    exact ⟨_, _, rfl, h_3.chgS, h_3.ok _ (.head _)⟩

theorem c_UnhexR_f (l : List UInt8) (n : Nat) (hl : l.length = n) (hn : n ≤ 1099511627776) (hx : Go.Wr.okHex l = false) (he : n % 2 = 0) (w : World) :
    Cs Try.prog 25 [(.string (bstr l))].toArray w (fun v w1 => v = (.tuple [(.slice none 0 0), (.bool false)].toArray) ∧ Chg w w1 []) := by
  refine Cs.of (n := 41) (args := [(.string (bstr l))]) Try.func25 rfl rfl rfl ?_
  have h_0 := HP.init w
  refine WP.seq ?_
  refine WP.reg ?_
  refine WL.q (Wn.no rfl) rfl rfl (R.assign (v := (.slice none 0 0)) rfl) ?_
  refine WL.q (Wn.no rfl) rfl rfl (R.assign (v := (.bool false)) rfl) ?_
  refine WL.nil ?_
  refine thn_n ?_
  refine WP.seq ?_
  refine WP.reg ?_
  refine WL.q (Wn.no rfl) rfl rfl (R.assign (v := (.slice none 0 0)) rfl) ?_
  refine WL.nil ?_
  refine thn_n ?_
  refine WP.seq ?_
  refine WP.seq ?_
  refine WP.reg ?_
  refine WL.q (Wn.no rfl) rfl rfl (R.move (v := (.string (bstr l))) rfl) ?_
  refine WL.q (Wn.no rfl) rfl rfl (R.lenStrL (l := l) (m := n) rfl rfl Try.underlying9 hl) ?_
  refine WL.q (Wn.no rfl) rfl rfl (R.bin (v := (vi ((n % 2 : Nat) : Int))) rfl rfl (bi_rem (c := ((n % 2 : Nat) : Int)) (Int.natCast_nonneg _) (by omega) (by first | omega | rfl))) ?_
  refine WL.q (Wn.no rfl) rfl rfl (R.bin (v := (.bool (decide ((((n % 2 : Nat) : Int) : Int) ≠ 0)))) rfl rfl (bi_neq (r := decide ((((n % 2 : Nat) : Int) : Int) ≠ 0)) rfl)) ?_
  refine WL.nil ?_
  refine thn_n ?_
  refine WP.condF (congrArg Value.bool (decide_eq_false (by omega))) ?_
  refine WP.skip ?_
  refine thn_n ?_
  refine WP.seq ?_
  refine WP.seq ?_
  refine WP.reg ?_
  refine WL.q (Wn.no rfl) rfl rfl (R.assign (v := (vi 0)) rfl) ?_
  refine WL.nil ?_
  refine thn_n ?_
  refine WP.block ?_
  have h_1 := h_0.rowNil 5 1
  refine WP.loopG (G := Nat × Option Addr × Nat) [2, 3, 4, 5, 6, 7, 12, 13, 14, 15, 16, 17, 18, 19, 20, 21, 22, 23, 24, 25, 26, 27, 28, 29, 30, 31, 32, 33, 34, 35, 36, 37, 38, 39] (fun (k, ra, rc) => [(4, (.slice ra k rc)), (5, (vi ((2 * k : Nat) : Int)))]) (fun (k, ra, rc) m w1 => HP w w1 [.row ra k rc 5 1 ((Go.Wr.unhexL l k).map vu8)] ∧ (2 * k ≤ n) ∧ (∀ j : Nat, j < k → Go.Wr.hg l j = true) ∧ m = n - 2 * k) ⟨(0, none, 0), _, ⟨rfl, rfl, trivial⟩, h_1, (by omega), (fun j h => by omega), rfl⟩ ?_
  rintro ⟨k, ra, rc⟩ m_4 J_5 w_2 ⟨h_3, hk, hg, rfl⟩
  refine WP.seq ?_
  refine WP.seq ?_
  refine WP.reg ?_
  refine WL.q (Wn.no rfl) rfl rfl (R.move (v := (vi ((2 * k : Nat) : Int))) rfl) ?_
  refine WL.q (Wn.no rfl) rfl rfl (R.move (v := (.string (bstr l))) rfl) ?_
  refine WL.q (Wn.no rfl) rfl rfl (R.lenStrL (l := l) (m := n) rfl rfl Try.underlying9 hl) ?_
  refine WL.q (Wn.no rfl) rfl rfl (R.bin (v := (.bool (decide ((((2 * k : Nat) : Int) : Int) < ((n : Nat) : Int))))) rfl rfl (bi_lss (r := decide ((((2 * k : Nat) : Int) : Int) < ((n : Nat) : Int))) rfl)) ?_
  refine WL.nil ?_
  refine thn_n ?_
  refine WP.cond (b := decide ((((2 * k : Nat) : Int) : Int) < ((n : Nat) : Int))) rfl (fun c_6 => ?_) (fun c_6 => ?_)
  · have p_7 := of_decide_eq_true c_6
    refine WP.skip ?_
    refine thn_n ?_
    refine WP.seq ?_
    refine WP.block ?_
    refine WP.seq ?_
    refine WP.drawT (SL w.heap.size [.row ra k rc 5 1 ((Go.Wr.unhexL l k).map vu8)]) (.q 0 (.q 1 (.q 2 (.q 4 (.q 5 (.q 6 (.q 7 (.s 3 (.s 8 (.q 9 (.q 10 .nil))))))))))) (by kernel_rfl) (by kernel_rfl) rfl (by kernel_rfl) (fun w_8 hc_10 => (SL.cons ((h_3.same hc_10).ok _ (.head _)) (SL.nil _ _))) (fun w_8 hc_10 => ?_)
    have h_9 := h_3.same hc_10
    refine WT.q rfl (Wn.no rfl) rfl rfl (fun wq hS => R.move (v := (.string (bstr l))) rfl) ?_
    refine WT.q rfl (Wn.no rfl) rfl rfl (fun wq hS => R.move (v := (vi ((2 * k : Nat) : Int))) rfl) ?_
    refine WT.q rfl (Wn.no rfl) rfl rfl (fun wq hS => R.indexStrL (l := l) (i := 2 * k) rfl rfl rfl (by rw [hl]; omega) Try.underlying9) ?_
    refine WT.q rfl (Wn.no rfl) rfl rfl (fun wq hS => R.move (v := (.string (bstr l))) rfl) ?_
    refine WT.q rfl (Wn.no rfl) rfl rfl (fun wq hS => R.move (v := (vi ((2 * k : Nat) : Int))) rfl) ?_
    refine WT.q rfl (Wn.no rfl) rfl rfl (fun wq hS => R.bin (v := (vi ((2 * k + 1 : Nat) : Int))) rfl rfl (bi_add (c := ((2 * k + 1 : Nat) : Int)) (by omega) (by omega))) ?_
    refine WT.q rfl (Wn.no rfl) rfl rfl (fun wq hS => R.indexStrL (l := l) (i := 2 * k + 1) rfl rfl rfl (by rw [hl]; omega) Try.underlying9) ?_
    refine WT.s ?_
    refine Op1.one rfl (Wn.no rfl) ?_
    refine WL.call (al := [(vu8 (l.getD (2 * k) 0))]) Try.call66 rfl rfl (c_digit (l.getD (2 * k) 0) _ ) rfl ?_
    rintro _ w_12 ⟨rfl, hc_11⟩
    have h_13 := h_9.same hc_11
    refine WL.nil ?_
    refine ⟨(SL.cons (h_13.ok _ (.head _)) (SL.nil _ _)), ?_⟩
    refine WT.s ?_
    refine Op1.one rfl (Wn.no rfl) ?_
    refine WL.call (al := [(vu8 (l.getD (2 * k + 1) 0))]) Try.call66 rfl rfl (c_digit (l.getD (2 * k + 1) 0) _ ) rfl ?_
    rintro _ w_15 ⟨rfl, hc_14⟩
    have h_16 := h_13.same hc_14
    refine WL.nil ?_
    refine ⟨(SL.cons (h_16.ok _ (.head _)) (SL.nil _ _)), ?_⟩
    refine WT.q rfl (Wn.no rfl) rfl rfl (fun wq hS => R.assign (v := (vu8 (Go.Wr.dig (l.getD (2 * k) 0)))) rfl) ?_
    refine WT.q rfl (Wn.no rfl) rfl rfl (fun wq hS => R.assign (v := (vu8 (Go.Wr.dig (l.getD (2 * k + 1) 0)))) rfl) ?_
    refine WT.nil ?_
    refine thn_n ?_
    refine WP.seq ?_
    refine WP.seq ?_
    refine WP.reg ?_
    refine WL.q (Wn.no rfl) rfl rfl (R.move (v := (vu8 (Go.Wr.dig (l.getD (2 * k) 0)))) rfl) ?_
    refine WL.q (Wn.no rfl) rfl rfl (R.bin (v := (.bool (decide ((Go.Wr.dig (l.getD (2 * k) 0) : UInt8) > 15)))) rfl rfl (b8_gtr (Go.Wr.dig (l.getD (2 * k) 0)) 15 (r := decide ((Go.Wr.dig (l.getD (2 * k) 0) : UInt8) > 15)) rfl)) ?_
    refine WL.q (Wn.no rfl) rfl rfl (R.move (v := (.bool (decide ((Go.Wr.dig (l.getD (2 * k) 0) : UInt8) > 15)))) rfl) ?_
    rcases Bool.eq_false_or_eq_true (decide ((Go.Wr.dig (l.getD (2 * k) 0) : UInt8) > 15)) with c_17 | c_17
    · have p_18 := of_decide_eq_true c_17
      refine WL.skip rfl (congrArg Value.bool c_17) rfl ?_
      refine WL.skip rfl (congrArg Value.bool c_17) rfl ?_
      refine WL.q (Wn.no rfl) rfl rfl (R.pickT (v := (.bool true)) (congrArg Value.bool c_17) rfl) ?_
      refine WL.nil ?_
      refine thn_n ?_
      refine WP.condT rfl ?_
      refine WP.seq ?_
      refine WP.reg ?_
      refine WL.q (Wn.no rfl) rfl rfl (R.assign (v := (.slice none 0 0)) rfl) ?_
      refine WL.q (Wn.no rfl) rfl rfl (R.assign (v := (.bool false)) rfl) ?_
      refine WL.nil ?_
      refine thn_n ?_
      refine WP.ret ?_
      refine thn_r ?_
      refine inb_r ?_
      refine thn_r ?_
      refine thn_r ?_
      refine inb_r ?_
      refine thn_r ?_
      refine ret_of Try.results25 (RV.tmp (v := (.slice none 0 0)) rfl (RV.tmp (v := (.bool false)) rfl RV.nil)) ?_
      exact ⟨rfl, h_16.chgS⟩
    · have p_19 := of_decide_eq_false c_17
      refine WL.want rfl (congrArg Value.bool c_17) ?_
      refine WL.q (Wn.no rfl) rfl rfl (R.move (v := (vu8 (Go.Wr.dig (l.getD (2 * k + 1) 0)))) rfl) ?_
      refine WL.want rfl (congrArg Value.bool c_17) ?_
      refine WL.q (Wn.no rfl) rfl rfl (R.bin (v := (.bool (decide ((Go.Wr.dig (l.getD (2 * k + 1) 0) : UInt8) > 15)))) rfl rfl (b8_gtr (Go.Wr.dig (l.getD (2 * k + 1) 0)) 15 (r := decide ((Go.Wr.dig (l.getD (2 * k + 1) 0) : UInt8) > 15)) rfl)) ?_
      refine WL.q (Wn.no rfl) rfl rfl (R.pickF (v := (.bool (decide ((Go.Wr.dig (l.getD (2 * k + 1) 0) : UInt8) > 15)))) (congrArg Value.bool c_17) rfl) ?_
      refine WL.nil ?_
      refine thn_n ?_
      refine WP.cond (b := decide ((Go.Wr.dig (l.getD (2 * k + 1) 0) : UInt8) > 15)) rfl (fun c_20 => ?_) (fun c_20 => ?_)
      · have p_21 := of_decide_eq_true c_20
        refine WP.seq ?_
        refine WP.reg ?_
        refine WL.q (Wn.no rfl) rfl rfl (R.assign (v := (.slice none 0 0)) rfl) ?_
        refine WL.q (Wn.no rfl) rfl rfl (R.assign (v := (.bool false)) rfl) ?_
        refine WL.nil ?_
        refine thn_n ?_
        refine WP.ret ?_
        refine thn_r ?_
        refine inb_r ?_
        refine thn_r ?_
        refine thn_r ?_
        refine inb_r ?_
        refine thn_r ?_
        refine ret_of Try.results25 (RV.tmp (v := (.slice none 0 0)) rfl (RV.tmp (v := (.bool false)) rfl RV.nil)) ?_
        exact ⟨rfl, h_16.chgS⟩
      · have p_22 := of_decide_eq_false c_20
        refine WP.skip ?_
        refine thn_n ?_
        refine WP.reg ?_
        refine WL.q (Wn.no rfl) rfl rfl (R.move (v := (.slice ra k rc)) rfl) ?_
        refine WL.q (Wn.no rfl) rfl rfl (R.move (v := (vu8 (Go.Wr.dig (l.getD (2 * k) 0)))) rfl) ?_
        refine WL.q (Wn.no rfl) rfl rfl (R.bin (v := (vu8 ((Go.Wr.dig (l.getD (2 * k) 0)) * 16))) rfl rfl (b8_mul (Go.Wr.dig (l.getD (2 * k) 0)) 16)) ?_
        refine WL.q (Wn.no rfl) rfl rfl (R.move (v := (vu8 (Go.Wr.dig (l.getD (2 * k + 1) 0)))) rfl) ?_
        refine WL.q (Wn.no rfl) rfl rfl (R.bin (v := (vu8 (((Go.Wr.dig (l.getD (2 * k) 0)) * 16) + (Go.Wr.dig (l.getD (2 * k + 1) 0))))) rfl rfl (b8_add ((Go.Wr.dig (l.getD (2 * k) 0)) * 16) (Go.Wr.dig (l.getD (2 * k + 1) 0)))) ?_
        refine WL.buildSl (vs := [(0, (vu8 (((Go.Wr.dig (l.getD (2 * k) 0)) * 16) + (Go.Wr.dig (l.getD (2 * k + 1) 0)))))]) (cs := ([((Go.Wr.dig (l.getD (2 * k) 0)) * 16) + (Go.Wr.dig (l.getD (2 * k + 1) 0))] : List UInt8).map vu8) h_16 Try.underlying23 Try.sizeOf5 (zv Try.typeInfo5 rfl) rfl rfl (by kernel_rfl) rfl (one_u8 _) rfl rfl (fun b_23 w_24 h_25 => ?_)
        refine WL.append (km := k + 1) (xs := (Go.Wr.unhexL l k).map vu8) (ys := ([((Go.Wr.dig (l.getD (2 * k) 0)) * 16) + (Go.Wr.dig (l.getD (2 * k + 1) 0))] : List UInt8).map vu8) (zs := ((Go.Wr.unhexL l k) ++ ([((Go.Wr.dig (l.getD (2 * k) 0)) * 16) + (Go.Wr.dig (l.getD (2 * k + 1) 0))] : List UInt8)).map vu8) h_25 rfl rfl el23 (viewB (h_25.ok _ (.head _)) Sg.h) ((len_map (rfl : List.length ([((Go.Wr.dig (l.getD (2 * k) 0)) * 16) + (Go.Wr.dig (l.getD (2 * k + 1) 0))] : List UInt8) = 1)).trans (Nat.mul_one _).symm) (one_u8 _) (by simp only [List.map_append, List.map_nil]) (by omega) (by omega) (by omega) (fun _ _ => (At.t At.h)) rfl (fun a_26 c_27 w_28 h_29 => ?_)
        refine WL.q (Wn.no rfl) rfl rfl (R.assign (v := (.slice a_26 (k + 1) c_27)) rfl) ?_
        refine WL.nil ?_
        refine inb_n ?_
        refine thn_n ?_
        refine WP.reg ?_
        refine WL.q (Wn.no rfl) rfl rfl (R.move (v := (vi ((2 * k : Nat) : Int))) rfl) ?_
        refine WL.q (Wn.no rfl) rfl rfl (R.bin (v := (vi ((2 * k + 2 : Nat) : Int))) rfl rfl (bi_add (c := ((2 * k + 2 : Nat) : Int)) (by omega) (by omega))) ?_
        refine WL.q (Wn.no rfl) rfl rfl (R.assign (v := (vi ((2 * k + 2 : Nat) : Int))) rfl) ?_
        refine WL.nil ?_
        refine thn_n ?_
        have h_30 := h_29.drop rfl
        have d1 : Go.Wr.dig (l.getD (2 * k) 0) ≤ 15 := UInt8.not_lt.1 p_19
        have d2 : Go.Wr.dig (l.getD (2 * k + 1) 0) ≤ 15 := UInt8.not_lt.1 p_22
        rw [un_snocR] at h_30
        refine ⟨(k + 1, a_26, c_27), _, (by omega), (Ag.upd rfl (Ag.upd rfl (Ag.upd rfl (Ag.upd rfl (Ag.upd rfl (Ag.upd rfl (Ag.upd rfl (Ag.upd rfl (Ag.upd rfl (Ag.upd rfl (Ag.upd rfl (Ag.upd rfl (Ag.upd rfl (Ag.upd rfl (Ag.upd rfl (Ag.upd rfl (Ag.upd rfl (Ag.upd rfl (Ag.upd rfl (Ag.upd rfl (Ag.upd rfl (Ag.upd rfl (Ag.upd rfl (Ag.upd rfl (Ag.upd rfl (Ag.upd rfl (Ag.upd rfl (Ag.upd rfl (Ag.upd rfl (Ag.upd rfl (Ag.upd rfl (Ag.upd rfl (Ag.updL rfl (Ag.mix _ _ _)))))))))))))))))))))))))))))))))), ⟨rfl, rfl, trivial⟩, h_30, (by omega), (fun j hj => ?_), rfl⟩
        rcases Nat.lt_or_eq_of_le (Nat.le_of_lt_succ hj) with hj | rfl
        · exact hg j hj
        · exact hg_ok d1 d2
  · have p_31 := of_decide_eq_false c_6
    refine WP.exit ?_
    refine thn_x ?_
    refine thn_x ?_
    refine inb_hit ?_
    refine thn_n ?_
    refine WP.seq ?_
    refine WP.reg ?_
    refine WL.q (Wn.no rfl) rfl rfl (R.move (v := (.slice ra k rc)) rfl) ?_
    refine WL.q (Wn.no rfl) rfl rfl (R.assign (v := (.slice ra k rc)) rfl) ?_
    refine WL.q (Wn.no rfl) rfl rfl (R.assign (v := (.bool true)) rfl) ?_
    refine WL.nil ?_
    refine thn_n ?_
    refine WP.ret ?_
    refine ret_of Try.results25 (RV.tmp (v := (.slice ra k rc)) rfl (RV.tmp (v := (.bool true)) rfl RV.nil)) ?_
    have hb : Go.Wr.okHex l = true := Go.Wr.okHex_of (by omega) (fun j hj => hg j (by omega))
    rw [hx] at hb
    cases hb

theorem c_UnhexR_o (l : List UInt8) (n : Nat) (hl : l.length = n) (hn : n ≤ 1099511627776) (he : ¬ n % 2 = 0) (w : World) :
    Cs Try.prog 25 [(.string (bstr l))].toArray w (fun v w1 => v = (.tuple [(.slice none 0 0), (.bool false)].toArray) ∧ Chg w w1 []) := by
  refine Cs.of (n := 41) (args := [(.string (bstr l))]) Try.func25 rfl rfl rfl ?_
  have h_0 := HP.init w
  refine WP.seq ?_
  refine WP.reg ?_
  refine WL.q (Wn.no rfl) rfl rfl (R.assign (v := (.slice none 0 0)) rfl) ?_
  refine WL.q (Wn.no rfl) rfl rfl (R.assign (v := (.bool false)) rfl) ?_
  refine WL.nil ?_
  refine thn_n ?_
  refine WP.seq ?_
  refine WP.reg ?_
  refine WL.q (Wn.no rfl) rfl rfl (R.assign (v := (.slice none 0 0)) rfl) ?_
  refine WL.nil ?_
  refine thn_n ?_
  refine WP.seq ?_
  refine WP.seq ?_
  refine WP.reg ?_
  refine WL.q (Wn.no rfl) rfl rfl (R.move (v := (.string (bstr l))) rfl) ?_
  refine WL.q (Wn.no rfl) rfl rfl (R.lenStrL (l := l) (m := n) rfl rfl Try.underlying9 hl) ?_
  refine WL.q (Wn.no rfl) rfl rfl (R.bin (v := (vi ((n % 2 : Nat) : Int))) rfl rfl (bi_rem (c := ((n % 2 : Nat) : Int)) (Int.natCast_nonneg _) (by omega) (by first | omega | rfl))) ?_
  refine WL.q (Wn.no rfl) rfl rfl (R.bin (v := (.bool (decide ((((n % 2 : Nat) : Int) : Int) ≠ 0)))) rfl rfl (bi_neq (r := decide ((((n % 2 : Nat) : Int) : Int) ≠ 0)) rfl)) ?_
  refine WL.nil ?_
  refine thn_n ?_
  refine WP.condT (congrArg Value.bool (decide_eq_true (by omega))) ?_
  refine WP.seq ?_
  refine WP.reg ?_
  refine WL.q (Wn.no rfl) rfl rfl (R.assign (v := (.slice none 0 0)) rfl) ?_
  refine WL.q (Wn.no rfl) rfl rfl (R.assign (v := (.bool false)) rfl) ?_
  refine WL.nil ?_
  refine thn_n ?_
  refine WP.ret ?_
  refine thn_r ?_
  refine ret_of Try.results25 (RV.tmp (v := (.slice none 0 0)) rfl (RV.tmp (v := (.bool false)) rfl RV.nil)) ?_
  exact ⟨rfl, h_0.chgS⟩

theorem c_UnhexR_no (l : List UInt8) (n : Nat) (hl : l.length = n) (hn : n ≤ 1099511627776) (hx : Go.Wr.okHex l = false) (w : World) : Cs Try.prog 25 [.string (bstr l)].toArray w (fun v w1 => v = (.tuple [(.slice none 0 0), (.bool false)].toArray) ∧ Chg w w1 []) := by
  by_cases he : n % 2 = 0
  · exact c_UnhexR_f l n hl hn hx he w
  · exact c_UnhexR_o l n hl hn he w
end Go.Proofs.Ytcmgadjnammahaa
