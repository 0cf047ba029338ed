/- AesField holds of every input. Conditions: none. -/
import Derived.Test.YtcmgadjnammahaaE4
namespace Go.Proofs.Ytcmgadjnammahaa
open Go.Vc Go.Ax Go.RowKit
set_option linter.unusedVariables false
set_option linter.unusedSimpArgs false
set_option maxRecDepth 20000
theorem w_AesField (a b c : UInt8) (w : World) :
    Cs Try.prog 8 [(vu8 a), (vu8 b), (vu8 c)].toArray w (fun v w1 => v = .bool true ∧ Chg w w1 []) := by
  refine Cs.of (n := 63) (args := [(vu8 a), (vu8 b), (vu8 c)]) Try.func8 rfl rfl rfl ?_
  have h_0 := HP.init w
  refine WP.seq ?_
  refine WP.reg ?_
  refine WL.q (Wn.no rfl) rfl rfl (R.assign (v := (.bool false)) rfl) ?_
  refine WL.nil ?_
  refine thn_n ?_
  refine WP.seq ?_
  refine WP.seq ?_
  refine WP.reg ?_
  refine WL.q (Wn.no rfl) rfl rfl (R.move (v := (vu8 a)) rfl) ?_
  refine WL.q (Wn.no rfl) rfl rfl (R.move (v := (vu8 b)) rfl) ?_
  refine WL.q (Wn.no rfl) rfl rfl (R.move (v := (vu8 c)) rfl) ?_
  refine WL.q (Wn.no rfl) rfl rfl (R.bin (v := (vu8 (b ^^^ c))) rfl rfl (b8_xor b c)) ?_
  refine WL.call (al := [(vu8 a), (vu8 (b ^^^ c))]) Try.call35 rfl rfl (c_Times a (b ^^^ c) _ ) rfl ?_
  rintro _ w_2 ⟨rfl, hc_1⟩
  have h_3 := h_0.same hc_1
  refine WL.q (Wn.no rfl) rfl rfl (R.move (v := (vu8 a)) rfl) ?_
  refine WL.q (Wn.no rfl) rfl rfl (R.move (v := (vu8 b)) rfl) ?_
  refine WL.call (al := [(vu8 a), (vu8 b)]) Try.call35 rfl rfl (c_Times a b _ ) rfl ?_
  rintro _ w_5 ⟨rfl, hc_4⟩
  have h_6 := h_3.same hc_4
  refine WL.q (Wn.no rfl) rfl rfl (R.move (v := (vu8 a)) rfl) ?_
  refine WL.q (Wn.no rfl) rfl rfl (R.move (v := (vu8 c)) rfl) ?_
  refine WL.call (al := [(vu8 a), (vu8 c)]) Try.call35 rfl rfl (c_Times a c _ ) rfl ?_
  rintro _ w_8 ⟨rfl, hc_7⟩
  have h_9 := h_6.same hc_7
  refine WL.q (Wn.no rfl) rfl rfl (R.bin (v := (vu8 ((tm a b) ^^^ (tm a c)))) rfl rfl (b8_xor (tm a b) (tm a c))) ?_
  refine WL.q (Wn.no rfl) rfl rfl (R.bin (v := (.bool false)) rfl rfl (b8_neq (tm a (b ^^^ c)) ((tm a b) ^^^ (tm a c)) (r := false) (decide_eq_false (fun h => h (tm_b a b c))))) ?_
  refine WL.q (Wn.no rfl) rfl rfl (R.move (v := (.bool false)) rfl) ?_
  refine WL.want rfl rfl ?_
  refine WL.q (Wn.no rfl) rfl rfl (R.move (v := (vu8 a)) rfl) ?_
  refine WL.want rfl rfl ?_
  refine WL.q (Wn.no rfl) rfl rfl (R.move (v := (vu8 b)) rfl) ?_
  refine WL.want rfl rfl ?_
  refine WL.call (al := [(vu8 a), (vu8 b)]) Try.call35 rfl rfl (c_Times a b _ ) rfl ?_
  rintro _ w_11 ⟨rfl, hc_10⟩
  have h_12 := h_9.same hc_10
  refine WL.want rfl rfl ?_
  refine WL.q (Wn.no rfl) rfl rfl (R.move (v := (vu8 b)) rfl) ?_
  refine WL.want rfl rfl ?_
  refine WL.q (Wn.no rfl) rfl rfl (R.move (v := (vu8 a)) rfl) ?_
  refine WL.want rfl rfl ?_
  refine WL.call (al := [(vu8 b), (vu8 a)]) Try.call35 rfl rfl (c_Times b a _ ) rfl ?_
  rintro _ w_14 ⟨rfl, hc_13⟩
  have h_15 := h_12.same hc_13
  refine WL.want rfl rfl ?_
  refine WL.q (Wn.no rfl) rfl rfl (R.bin (v := (.bool false)) rfl rfl (b8_neq (tm a b) (tm b a) (r := false) (decide_eq_false (fun h => h (tm_comm a b))))) ?_
  refine WL.q (Wn.no rfl) rfl rfl (R.pickF (v := (.bool false)) rfl rfl) ?_
  refine WL.q (Wn.no rfl) rfl rfl (R.move (v := (.bool false)) rfl) ?_
  refine WL.want rfl rfl ?_
  refine WL.q (Wn.no rfl) rfl rfl (R.move (v := (vu8 a)) rfl) ?_
  refine WL.want rfl rfl ?_
  refine WL.q (Wn.no rfl) rfl rfl (R.move (v := (vu8 b)) rfl) ?_
  refine WL.want rfl rfl ?_
  refine WL.call (al := [(vu8 a), (vu8 b)]) Try.call35 rfl rfl (c_Times a b _ ) rfl ?_
  rintro _ w_17 ⟨rfl, hc_16⟩
  have h_18 := h_15.same hc_16
  refine WL.want rfl rfl ?_
  refine WL.q (Wn.no rfl) rfl rfl (R.move (v := (vu8 c)) rfl) ?_
  refine WL.want rfl rfl ?_
  refine WL.call (al := [(vu8 (tm a b)), (vu8 c)]) Try.call35 rfl rfl (c_Times (tm a b) c _ ) rfl ?_
  rintro _ w_20 ⟨rfl, hc_19⟩
  have h_21 := h_18.same hc_19
  refine WL.want rfl rfl ?_
  refine WL.q (Wn.no rfl) rfl rfl (R.move (v := (vu8 a)) rfl) ?_
  refine WL.want rfl rfl ?_
  refine WL.q (Wn.no rfl) rfl rfl (R.move (v := (vu8 b)) rfl) ?_
  refine WL.want rfl rfl ?_
  refine WL.q (Wn.no rfl) rfl rfl (R.move (v := (vu8 c)) rfl) ?_
  refine WL.want rfl rfl ?_
  refine WL.call (al := [(vu8 b), (vu8 c)]) Try.call35 rfl rfl (c_Times b c _ ) rfl ?_
  rintro _ w_23 ⟨rfl, hc_22⟩
  have h_24 := h_21.same hc_22
  refine WL.want rfl rfl ?_
  refine WL.call (al := [(vu8 a), (vu8 (tm b c))]) Try.call35 rfl rfl (c_Times a (tm b c) _ ) rfl ?_
  rintro _ w_26 ⟨rfl, hc_25⟩
  have h_27 := h_24.same hc_25
  refine WL.want rfl rfl ?_
  refine WL.q (Wn.no rfl) rfl rfl (R.bin (v := (.bool false)) rfl rfl (b8_neq (tm (tm a b) c) (tm a (tm b c)) (r := false) (decide_eq_false (fun h => h (tm_assoc a b c))))) ?_
  refine WL.q (Wn.no rfl) rfl rfl (R.pickF (v := (.bool false)) rfl rfl) ?_
  refine WL.nil ?_
  refine thn_n ?_
  refine WP.condF rfl ?_
  refine WP.skip ?_
  refine thn_n ?_
  refine WP.seq ?_
  refine WP.reg ?_
  refine WL.q (Wn.no rfl) rfl rfl (R.move (v := (vu8 a)) rfl) ?_
  refine WL.call (al := [(vu8 a), (vu8 1)]) Try.call35 rfl rfl (c_Times a (1 : UInt8) _ ) rfl ?_
  rintro _ w_29 ⟨rfl, hc_28⟩
  have h_30 := h_27.same hc_28
  refine WL.q (Wn.no rfl) rfl rfl (R.move (v := (vu8 a)) rfl) ?_
  refine WL.q (Wn.no rfl) rfl rfl (R.bin (v := (.bool true)) rfl rfl (b8_eql (tm a (1 : UInt8)) a (r := true) (decide_eq_true (tm_1 a)))) ?_
  refine WL.q (Wn.no rfl) rfl rfl (R.move (v := (.bool true)) rfl) ?_
  refine WL.want rfl rfl ?_
  refine WL.q (Wn.no rfl) rfl rfl (R.move (v := (vu8 a)) rfl) ?_
  refine WL.want rfl rfl ?_
  refine WL.call (al := [(vu8 a)]) Try.call37 rfl rfl (c_Inverse a _ ) rfl ?_
  rintro _ w_32 ⟨rfl, hc_31⟩
  have h_33 := h_30.same hc_31
  refine WL.want rfl rfl ?_
  refine WL.call (al := [(vu8 (inv a))]) Try.call37 rfl rfl (c_Inverse (inv a) _ ) rfl ?_
  rintro _ w_35 ⟨rfl, hc_34⟩
  have h_36 := h_33.same hc_34
  refine WL.want rfl rfl ?_
  refine WL.q (Wn.no rfl) rfl rfl (R.move (v := (vu8 a)) rfl) ?_
  refine WL.want rfl rfl ?_
  refine WL.q (Wn.no rfl) rfl rfl (R.bin (v := (.bool true)) rfl rfl (b8_eql (inv (inv a)) a (r := true) (decide_eq_true (inv_inv a)))) ?_
  refine WL.q (Wn.no rfl) rfl rfl (R.pickT (v := (.bool true)) rfl rfl) ?_
  refine WL.q (Wn.no rfl) rfl rfl (R.move (v := (.bool true)) rfl) ?_
  refine WL.want rfl rfl ?_
  refine WL.q (Wn.no rfl) rfl rfl (R.move (v := (vu8 a)) rfl) ?_
  refine WL.want rfl rfl ?_
  refine WL.call (al := [(vu8 a)]) Try.call41 rfl rfl (c_Unsub a _ ) rfl ?_
  rintro _ w_38 ⟨rfl, hc_37⟩
  have h_39 := h_36.same hc_37
  refine WL.want rfl rfl ?_
  refine WL.call (al := [(vu8 (unsub a))]) Try.call39 rfl rfl (c_Sub (unsub a) _ ) rfl ?_
  rintro _ w_41 ⟨rfl, hc_40⟩
  have h_42 := h_39.same hc_40
  refine WL.want rfl rfl ?_
  refine WL.q (Wn.no rfl) rfl rfl (R.move (v := (vu8 a)) rfl) ?_
  refine WL.want rfl rfl ?_
  refine WL.q (Wn.no rfl) rfl rfl (R.bin (v := (.bool true)) rfl rfl (b8_eql (sub (unsub a)) a (r := true) (decide_eq_true (sub_unsub a)))) ?_
  refine WL.q (Wn.no rfl) rfl rfl (R.pickT (v := (.bool true)) rfl rfl) ?_
  refine WL.q (Wn.no rfl) rfl rfl (R.move (v := (.bool true)) rfl) ?_
  refine WL.want rfl rfl ?_
  refine WL.call (al := []) Try.call43 rfl rfl (c_known4  _ ) rfl ?_
  rintro _ w_44 ⟨rfl, hc_43⟩
  have h_45 := h_42.same hc_43
  refine WL.q (Wn.no rfl) rfl rfl (R.pickT (v := (.bool true)) rfl rfl) ?_
  refine WL.q (Wn.no rfl) rfl rfl (R.assign (v := (.bool true)) rfl) ?_
  refine WL.nil ?_
  refine thn_n ?_
  refine WP.ret ?_
  refine ret_of Try.results8 (RV.tmp (v := (.bool true)) rfl RV.nil) ?_
  exact ⟨rfl, h_45.chgS⟩
namespace aesFieldDone
open Go.ChangeShapes Go.WideShapes Go.ChangeAt
theorem own : ownKnob Try.prog.godebug = none := by kernel_rfl
theorem laidOut : laidOutB Try.prog = true := by kernel_rfl
set_option maxRecDepth 100000 in
theorem lifted (os : Os) (started : os.Started) (H : Type) (enc : TypeId × Value → H) :
    ReturnsInHanded {} Try.checked os 8 .any (Rows.aesFieldSpec.pre6 enc Try.prog Try.f8 Rows.aesFieldRow.domain false) (Rows.aesFieldSpec.post enc Try.prog Try.f8 false true false false) := by
  refine returnsInHanded_of_change (C := Try.checked) own started (by kernel_rfl) Try.func8
    (ChangeSpec.witness6 (enc := enc) (C := Try.checked) false ⟨#[], #[.int .u8 0, .int .u8 0, .int .u8 0], []⟩ 8 (by kernel_rfl) (by kernel_rfl) (by kernel_rfl) (by kernel_rfl)) ?_
  intro W base args ds gs before hval0 hW hcnd _
  have hval : ∀ (j : Nat) t v, Try.f8.params[j]? = some t → args[j]? = some v → Value.okWide Try.prog W .any base t v := hval0
  have hW' := hW
  obtain ⟨p, q, hA0, hV, rfl, hfz, hnd⟩ := hW
  have hA : DataW.TrodAll enc Try.prog W 0 (fun _ => true) true Try.f8.params.toList args.toList ds p := hA0
  rw [Try.params8] at hA hval
  obtain ⟨v0, vs0, d0, ds0, p0, q0, hargs, rfl, rfl, h0, r0⟩ := trodAll_cons hA
  obtain ⟨v1, vs1, d1, ds1, p1, q1, rfl, rfl, rfl, h1, r1⟩ := trodAll_cons r0
  obtain ⟨v2, vs2, d2, ds2, p2, q2, rfl, rfl, rfl, h2, r2⟩ := trodAll_cons r1
  obtain ⟨rfl, rfl, rfl⟩ := trodAll_nil r2
  obtain rfl : args = #[v0, v1, v2] := by cases args; simp_all
  obtain ⟨rfl, rfl⟩ := trodVars_none hV
  have lt0 : ∀ x ∈ p0, x.block < W.heap.size := by obtain ⟨m, hm⟩ := h0; exact DataW.trod_lt m _ _ _ hm
  obtain ⟨n0, rfl⟩ := okWide_int Try.underlying5 (hval 0 5 v0 rfl rfl)
  obtain ⟨x0, rfl⟩ := Tr.u8' Try.underlying5 (Tr.of h0 rfl)
  have lt1 : ∀ x ∈ p1, x.block < W.heap.size := by obtain ⟨m, hm⟩ := h1; exact DataW.trod_lt m _ _ _ hm
  obtain ⟨n1, rfl⟩ := okWide_int Try.underlying5 (hval 1 5 v1 rfl rfl)
  obtain ⟨x1, rfl⟩ := Tr.u8' Try.underlying5 (Tr.of h1 rfl)
  have lt2 : ∀ x ∈ p2, x.block < W.heap.size := by obtain ⟨m, hm⟩ := h2; exact DataW.trod_lt m _ _ _ hm
  obtain ⟨n2, rfl⟩ := okWide_int Try.underlying5 (hval 2 5 v2 rfl rfl)
  obtain ⟨x2, rfl⟩ := Tr.u8' Try.underlying5 (Tr.of h2 rfl)
  clear hA0 hval0
  have hw : Cs Try.prog 8 [(vu8 x0), (vu8 x1), (vu8 x2)].toArray W (fun v w1 => v = .bool true ∧ Chg W w1 []) := w_AesField x0 x1 x2 W
  have ea : ([(vu8 x0), (vu8 x1), (vu8 x2)] : List Value).toArray = (#[(vu8 x0), (vu8 x1), (vu8 x2)] : Array Value) := by simp [flat]
  rw [ea] at hw
  refine Calls.mono (Cs.below hw) fun e W' ⟨he, bel⟩ => ?_
  subst he
  exact ⟨_, rfl, _, _, _, [], _, [], hW', trodAll_mk1 (shut_bool Try.underlying4 _), (trodAll_cons_mk (Below.trod laidOut (by kernel_rfl) (of_decide_eq_true (by kernel_rfl)) h0 bel lt0) (trodAll_cons_mk (Below.trod laidOut (by kernel_rfl) (of_decide_eq_true (by kernel_rfl)) h1 bel lt1) (trodAll_cons_mk (Below.trod laidOut (by kernel_rfl) (of_decide_eq_true (by kernel_rfl)) h2 bel lt2) trodAll_mk0))), rfl, bel.frame _, fun h => by cases h⟩
theorem over : Rows.aesFieldRow.holds Try.pinned (OpenSpec.ofChange Rows.aesFieldSpec) :=
  OpenClaim.holds_of_wide 8 Try.f8 rfl rfl rfl rfl rfl rfl rfl ⟨rfl, rfl, rfl, rfl, rfl⟩ rfl rfl rfl rfl rfl (by kernel_rfl) Try.func8 (by kernel_rfl)
    (of_decide_eq_true (by kernel_rfl)) (by unfold Func.isWrapper; first | (rw [if_pos (by decide +kernel)]; kernel_rfl) | (rw [if_neg (by decide +kernel)]; exact ⟨rfl, rfl⟩))
    (fun os started H enc _ => lifted os started H enc)
theorem proved : Rows.AesFieldSaid := over
end aesFieldDone
end Go.Proofs.Ytcmgadjnammahaa
