/- ShaNil holds of every input. Conditions: none. -/
import Derived.Test.YtelkjcigdhgcoaaPA
namespace Go.Proofs.Ytelkjcigdhgcoaa
open Go.Vc Go.Sh Go.RowKit
set_option linter.unusedVariables false
set_option linter.unusedSimpArgs false
set_option maxRecDepth 20000

theorem w_ShaNil  (w : World) :
    Cs Try.prog 8 [].toArray w (fun v w1 => v = .bool true ∧ Chg w w1 []) := by
  refine Cs.of (n := 30) (args := []) Try.func8 rfl rfl rfl ?_
  have h_0 := HP.init w
  refine WP.seq ?_
  refine WP.reg ?_
  refine WL.q (Wn.no rfl) rfl rfl (R.assign (v := (.bool false)) rfl) ?_
  refine WL.nil ?_
  refine thn_n ?_
  refine WP.seq ?_
  refine WP.seq ?_
  refine WP.reg ?_
  refine WL.q (Wn.no rfl) rfl rfl (R.assign (v := (vi 53)) rfl) ?_
  refine WL.nil ?_
  refine thn_n ?_
  refine WP.block ?_
  refine WP.loopG (G := Nat) [0, 1, 2, 3, 4, 5, 6, 7, 8, 9, 10, 11, 12, 13, 14, 15, 16, 17, 18, 19, 20] (fun n => [(1, (vi ((n : Nat) : Int)))]) (fun n m w1 => HP w w1 [] ∧ (53 ≤ n) ∧ (n ≤ 67) ∧ m = 67 - n) ⟨53, _, ⟨rfl, trivial⟩, h_0, (by omega), (by omega), rfl⟩ ?_
  rintro n m_3 J_4 w_1 ⟨h_2, hn1, hn2, rfl⟩
  have hpl := padded_len (List.replicate n (0 : UInt8))
  refine WP.seq ?_
  refine WP.seq ?_
  refine WP.reg ?_
  refine WL.q (Wn.no rfl) rfl rfl (R.move (v := (vi ((n : Nat) : Int))) rfl) ?_
  refine WL.q (Wn.no rfl) rfl rfl (R.bin (v := (.bool (decide ((((n : Nat) : Int) : Int) < 67)))) rfl rfl (bi_lss (r := decide ((((n : Nat) : Int) : Int) < 67)) rfl)) ?_
  refine WL.nil ?_
  refine thn_n ?_
  refine WP.cond (b := decide ((((n : Nat) : Int) : Int) < 67)) rfl (fun c_5 => ?_) (fun c_5 => ?_)
  · have p_6 := of_decide_eq_true c_5
    refine WP.skip ?_
    refine thn_n ?_
    refine WP.seq ?_
    refine WP.block ?_
    refine WP.seq ?_
    refine WP.reg ?_
    refine WL.q (Wn.no rfl) rfl rfl (R.move (v := (vi ((n : Nat) : Int))) rfl) ?_
    refine WL.makeSl (m := n) (i := Try.t5) (z := vu8 0) h_2 rfl rfl Try.underlying26 rfl rfl rfl rfl (by show 1 * _ ≤ _; omega) (by omega) rfl (fun b_7 w_8 h_9 => ?_)
    rw [show List.replicate n (vu8 0) = (List.replicate n (0 : UInt8)).map vu8 from (List.map_replicate ..).symm] at h_9
    refine WL.q (Wn.no rfl) rfl rfl (R.assign (v := (.slice (some ⟨b_7, 0, none⟩) n n)) rfl) ?_
    refine WL.nil ?_
    refine thn_n ?_
    refine WP.seq ?_
    refine WP.reg ?_
    refine WL.q (Wn.no rfl) rfl rfl (R.move (v := (.slice (some ⟨b_7, 0, none⟩) n n)) rfl) ?_
    refine WL.call (al := [(.slice (some ⟨b_7, 0, none⟩) n n)]) Try.call19 rfl rfl (c_Sum (some ⟨b_7, 0, none⟩) n n (List.replicate n (0 : UInt8)) (List.length_replicate ..) (by omega) (h_9.own (.head _)).2.2.1 _ (ownView (h_9.ok _ (.head _)))) rfl ?_
    rintro _ w_12 ⟨rfl, hc_11⟩
    have h_13 := h_9.same hc_11
    refine WL.q (Wn.no rfl) rfl rfl (R.move (v := (.slice (some ⟨b_7, 0, none⟩) n n)) rfl) ?_
    refine WL.call (al := [(.slice (some ⟨b_7, 0, none⟩) n n)]) Try.call20 rfl rfl (c_SumR (some ⟨b_7, 0, none⟩) n n (List.replicate n (0 : UInt8)) (List.length_replicate ..) (by omega) _ (ownView (h_13.ok _ (.head _)))) rfl ?_
    rintro _ w_15 ⟨rfl, hc_14⟩
    have h_16 := h_13.same hc_14
    refine WL.q (Wn.no rfl) rfl rfl (R.neA (xs := (sumL (List.replicate n (0 : UInt8))).map vu8) (ys := (sumL (List.replicate n (0 : UInt8))).map vu8) (r := false) rfl rfl Try.eqGuardType28 kt28 (by decide) ag28 (Typ.u8s Try.underlying28 ce28 Try.underlying5 ce5 (sumL_len _)) (Typ.u8s Try.underlying28 ce28 Try.underlying5 ce5 (sumL_len _)) (neT rfl)) ?_
    refine WL.q (Wn.no rfl) rfl rfl (R.move (v := (.bool false)) rfl) ?_
    refine WL.want rfl rfl ?_
    refine WL.q (Wn.no rfl) rfl rfl (R.move (v := (.slice (some ⟨b_7, 0, none⟩) n n)) rfl) ?_
    refine WL.want rfl rfl ?_
    refine WL.call (al := [(.slice (some ⟨b_7, 0, none⟩) n n)]) Try.call22 rfl rfl (c_Pad (some ⟨b_7, 0, none⟩) n n (List.replicate n (0 : UInt8)) (List.length_replicate ..) (by omega) (h_16.own (.head _)).2.2.1 _ (ownView (h_16.ok _ (.head _)))) rfl ?_
    rintro _ w_19 ⟨a_17, cap_18, rfl, hc_20, ho_21⟩
    have h_22 := h_16.gotRow hc_20 ho_21
    refine WL.want rfl rfl ?_
    refine WL.q (Wn.no rfl) rfl rfl (R.lenS (a := a_17) (m := (padded (List.replicate n (0 : UInt8))).length) rfl rfl Try.underlying26) ?_
    refine WL.want rfl rfl ?_
    refine WL.q (Wn.no rfl) rfl rfl (R.bin (v := (vi ((((padded (List.replicate n (0 : UInt8))).length) % 64 : Nat) : Int))) rfl rfl (bi_rem (c := ((((padded (List.replicate n (0 : UInt8))).length) % 64 : Nat) : Int)) (Int.natCast_nonneg _) (by omega) (by first | omega | rfl))) ?_
    refine WL.want rfl rfl ?_
    refine WL.q (Wn.no rfl) rfl rfl (R.bin (v := (.bool false)) rfl rfl (bi_neq (r := false) (decide_eq_false (by omega)))) ?_
    refine WL.q (Wn.no rfl) rfl rfl (R.pickF (v := (.bool false)) rfl rfl) ?_
    refine WL.nil ?_
    refine thn_n ?_
    refine WP.condF rfl ?_
    refine WP.skip ?_
    refine inb_n ?_
    refine thn_n ?_
    refine WP.reg ?_
    refine WL.q (Wn.no rfl) rfl rfl (R.move (v := (vi ((n : Nat) : Int))) rfl) ?_
    refine WL.q (Wn.no rfl) rfl rfl (R.bin (v := (vi ((n + 1 : Nat) : Int))) rfl rfl (bi_add (c := ((n + 1 : Nat) : Int)) (by omega) (by omega))) ?_
    refine WL.q (Wn.no rfl) rfl rfl (R.assign (v := (vi ((n + 1 : Nat) : Int))) rfl) ?_
    refine WL.nil ?_
    refine thn_n ?_
    have h_23 := h_22.drop rfl
    have h_24 := h_23.drop rfl
    exact ⟨n + 1, _, (by omega), (Ag.upd rfl (Ag.upd rfl (Ag.upd rfl (Ag.upd rfl (Ag.upd rfl (Ag.upd rfl (Ag.upd rfl (Ag.upd rfl (Ag.upd rfl (Ag.upd rfl (Ag.upd rfl (Ag.upd rfl (Ag.upd rfl (Ag.upd rfl (Ag.upd rfl (Ag.upd rfl (Ag.upd rfl (Ag.upd rfl (Ag.upd rfl (Ag.upd rfl (Ag.updL rfl (Ag.mix _ _ _)))))))))))))))))))))), ⟨rfl, trivial⟩, h_24, (by omega), (by omega), rfl⟩
  · have p_25 := of_decide_eq_false c_5
    refine WP.exit ?_
    refine thn_x ?_
    refine thn_x ?_
    refine inb_hit ?_
    refine thn_n ?_
    refine WP.seq ?_
    refine WP.reg ?_
    refine WL.call (al := [(.pointer none)]) Try.call34 rfl rfl (c_nothing_nil  _ ) rfl ?_
    rintro _ w_27 ⟨rfl, hc_26⟩
    have h_28 := h_2.same hc_26
    refine WL.q (Wn.no rfl) rfl rfl (R.move (v := (.bool true)) rfl) ?_
    refine WL.want rfl rfl ?_
    refine WL.q (Wn.no rfl) rfl rfl (R.buildS (pl := [(0, 64), (64, 8), (72, 1), (73, 1), (74, 1)]) (zs := [(64, (List.replicate 64 (0 : UInt32)).map vu32), (8, (List.replicate 8 (0 : UInt32)).map vu32), (1, [(.slice none 0 0)]), (1, [(vi 0)]), (1, [(.bool false)])]) (vs := []) (out := [(64, (List.replicate 64 (0 : UInt32)).map vu32), (8, (List.replicate 8 (0 : UInt32)).map vu32), (1, [(.slice none 0 0)]), (1, [(vi 0)]), (1, [(.bool false)])]) (cs := flat [(64, (List.replicate 64 (0 : UInt32)).map vu32), (8, (List.replicate 8 (0 : UInt32)).map vu32), (1, [(.slice none 0 0)]), (1, [(vi 0)]), (1, [(.bool false)])]) Try.underlying55 (zv Try.typeInfo55 rfl) rfl (SsOk.cons (SOk.u32 (List.length_replicate ..)) (SsOk.cons (SOk.u32 (List.length_replicate ..)) (SsOk.cons (SOk.v rfl) (SsOk.cons (SOk.v rfl) (SsOk.cons (SOk.v rfl) SsOk.nil))))) (pl55 _ Try.underlying55) rfl FillR.nil rfl) ?_
    refine WL.want rfl rfl ?_
    refine WL.box (v := (.agg ⟨flat [(64, (List.replicate 64 (0 : UInt32)).map vu32), (8, (List.replicate 8 (0 : UInt32)).map vu32), (1, [(.slice none 0 0)]), (1, [(vi 0)]), (1, [(.bool false)])]⟩)) (segs := [(64, (List.replicate 64 (0 : UInt32)).map vu32), (8, (List.replicate 8 (0 : UInt32)).map vu32), (1, [(.slice none 0 0)]), (1, [(vi 0)]), (1, [(.bool false)])]) h_28 rfl rfl (SsOk.cons (SOk.u32 (List.length_replicate ..)) (SsOk.cons (SOk.u32 (List.length_replicate ..)) (SsOk.cons (SOk.v rfl) (SsOk.cons (SOk.v rfl) (SsOk.cons (SOk.v rfl) SsOk.nil))))) rfl (fun b_30 w_31 h_32 => ?_)
    refine WL.want rfl rfl ?_
    refine WL.call (al := [(.pointer (some ⟨b_30, 0, none⟩))]) Try.call34 rfl rfl (c_nothing_false (List.replicate 64 (0 : UInt32)) (List.replicate 8 (0 : UInt32)) (List.length_replicate ..) (List.length_replicate ..) none 0 0 0 b_30 _ (h_32.argR (.head _))) rfl ?_
    rintro _ w_34 ⟨rfl, hc_33⟩
    have h_35 := h_32.same hc_33
    refine WL.q (Wn.no rfl) rfl rfl (R.pickT (v := (.bool true)) rfl rfl) ?_
    refine WL.q (Wn.no rfl) rfl rfl (R.move (v := (.bool true)) rfl) ?_
    refine WL.want rfl rfl ?_
    refine WL.call (al := []) Try.call18 rfl rfl (c_known2  _ ) rfl ?_
    rintro _ w_37 ⟨rfl, hc_36⟩
    have h_38 := h_35.same hc_36
    refine WL.q (Wn.no rfl) rfl rfl (R.pickT (v := (.bool true)) rfl rfl) ?_
    refine WL.q (Wn.no rfl) rfl rfl (R.assign (v := (.bool true)) rfl) ?_
    refine WL.nil ?_
    refine thn_n ?_
    refine WP.ret ?_
    refine ret_of Try.results8 (RV.tmp (v := (.bool true)) rfl RV.nil) ?_
    exact ⟨rfl, h_38.chgS⟩
namespace shaNilDone
open Go.ChangeShapes Go.WideShapes Go.ChangeAt
theorem own : ownKnob Try.prog.godebug = none := by kernel_rfl
theorem laidOut : laidOutB Try.prog = true := by kernel_rfl
set_option maxRecDepth 100000 in
theorem lifted (os : Os) (started : os.Started) (H : Type) (enc : TypeId × Value → H) :
    ReturnsInHanded {} Try.checked os 8 .any (Rows.shaNilSpec.pre6 enc Try.prog Try.f8 Rows.shaNilRow.domain false) (Rows.shaNilSpec.post enc Try.prog Try.f8 false true false false) := by
  refine returnsInHanded_of_change (C := Try.checked) own started (by kernel_rfl) Try.func8
    (ChangeSpec.witness6 (enc := enc) (C := Try.checked) false ⟨#[], #[], []⟩ 8 (by kernel_rfl) (by kernel_rfl) (by kernel_rfl) (by kernel_rfl)) ?_
  intro W base args ds gs before hval0 hW hcnd _
  have hval : ∀ (j : Nat) t v, Try.f8.params[j]? = some t → args[j]? = some v → Value.okWide Try.prog W .any base t v := hval0
  have hW' := hW
  obtain ⟨p, q, hA0, hV, rfl, hfz, hnd⟩ := hW
  have hA : DataW.TrodAll enc Try.prog W 0 (fun _ => true) true Try.f8.params.toList args.toList ds p := hA0
  rw [Try.params8] at hA hval
  obtain ⟨hargs, rfl, rfl⟩ := trodAll_nil hA
  obtain rfl : args = #[] := by cases args; simp_all
  obtain ⟨rfl, rfl⟩ := trodVars_none hV
  clear hA0 hval0
  have hw : Cs Try.prog 8 [].toArray W (fun v w1 => v = .bool true ∧ Chg W w1 []) := w_ShaNil W
  have ea : ([] : List Value).toArray = (#[] : Array Value) := by simp [flat]
  rw [ea] at hw
  refine Calls.mono (Cs.below hw) fun e W' ⟨he, bel⟩ => ?_
  subst he
  exact ⟨_, rfl, _, _, _, [], _, [], hW', trodAll_mk1 (shut_bool Try.underlying4 _), trodAll_mk0, rfl, bel.frame _, fun h => by cases h⟩
theorem over : Rows.shaNilRow.holds Try.pinned (OpenSpec.ofChange Rows.shaNilSpec) :=
  OpenClaim.holds_of_wide 8 Try.f8 rfl rfl rfl rfl rfl rfl rfl ⟨rfl, rfl, rfl, rfl, rfl⟩ rfl rfl rfl rfl rfl (by kernel_rfl) Try.func8 (by kernel_rfl)
    (of_decide_eq_true (by kernel_rfl)) (by unfold Func.isWrapper; first | (rw [if_pos (by decide +kernel)]; kernel_rfl) | (rw [if_neg (by decide +kernel)]; exact ⟨rfl, rfl⟩))
    (fun os started H enc _ => lifted os started H enc)
theorem proved : Rows.ShaNilSaid := over
end shaNilDone
end Go.Proofs.Ytelkjcigdhgcoaa
