/- AttestVerifies holds of every input. Conditions: none. -/
import Derived.Test.YtnhppjimimhlkaaZ6AttestVerifies
set_option linter.unusedVariables false
set_option linter.unusedSimpArgs false
set_option linter.unusedSectionVars false
namespace Go.Proofs.Ytnhppjimimhlkaa
open Go.Vc Go.Orc Go.Sh Go.RowKit
set_option linter.unusedVariables false
set_option linter.unusedSimpArgs false
set_option maxRecDepth 20000
theorem aggT26 : aggB Try.prog 26 = true := by unfold aggB; rw [Try.underlying26]
theorem ce26 : Try.prog.cellsOf 26 = 34 := by kernel_rfl
theorem w_AttestVerifies_len (id : Bool) (ms df : List UInt8) (hms : ms.length = 32) (da0 : Option Addr) (n cap0 : Nat) (hl : df.length = 32 * n) (ab : Option Addr) (nb cb : Nat) (bs : List UInt8) (hbl : bs.length = nb) (hcb : nb ≤ cb) (hn : nb ≠ 112) (w : World) (hv : View w da0 (df.map vu8)) (hvb : View w ab (bs.map vu8)) :
  Cs Try.prog 7 [(.agg ⟨flat [(1, [(.bool id)]), (32, ms.map vu8), (1, [(.slice da0 n cap0)])]⟩), (.slice ab nb cb)].toArray w (fun v w1 => v = (.bool true) ∧ Chg w w1 []) := by
 refine Cs.of (n := 111) (args := [(.agg ⟨flat [(1, [(.bool id)]), (32, ms.map vu8), (1, [(.slice da0 n cap0)])]⟩), (.slice ab nb cb)]) Try.func7 rfl rfl rfl ?_
 have h_0 := HP.init w
 have h_01 := h_0.oldV (View.arg hv) rfl (by simp [Ent.mut])
 have h_00 := h_01.oldV (View.arg hvb) rfl (by simp [Ent.mut])
 refine WP.seq (WP.reg ?_)
 refine WL.box (v := (.agg ⟨flat [(1, [(.bool id)]), (32, ms.map vu8), (1, [(.slice da0 n cap0)])]⟩)) (segs := [(1, [(.bool id)]), (32, ms.map vu8), (1, [(.slice da0 n cap0)])]) h_00 rfl rfl (SsOk.cons (SOk.v rfl) (SsOk.cons (SOk.u8 hms) (SsOk.cons (SOk.v rfl) SsOk.nil))) rfl (fun b_1 w_2 h_3 => ?_)
 refine qA (.bool false) rfl rfl ?_
 refine WL.nil (thn_n (WP.seq (WP.seq (WP.reg ?_))))
 refine qV rfl (R.fieldAddr (b := b_1) (off := 0) (off' := 33) rfl Try.underlying26 rfl Try.sizeOf24 rfl rfl) (qV rfl (R.load1 (b := b_1) (off := 33) (v := (.slice da0 n cap0)) rfl Try.isAgg24 (h_3.ok _ M0) (Sg.t rfl (Sg.t rfl Sg.h))) (qV rfl (R.lenS (a := da0) (m := n) rfl rfl Try.underlying24) (qV rfl (R.bin rfl rfl (bi_gtr (r := decide ((((n : Nat) : Int) : Int) > 60)) rfl)) (qM (.bool (decide ((((n : Nat) : Int) : Int) > 60))) rfl rfl ?_))))
 rcases Bool.eq_false_or_eq_true (decide ((((n : Nat) : Int) : Int) > 60)) with c_4 | c_4
 ·have p_5 := of_decide_eq_true c_4
  refine WL.skip rfl (congrArg Value.bool c_4) rfl ?_
  refine WL.skip rfl (congrArg Value.bool c_4) rfl ?_
  refine WL.skip rfl (congrArg Value.bool c_4) rfl ?_
  refine qV rfl (R.pickT (v := (.bool true)) (congrArg Value.bool c_4) rfl) ?_
  refine WL.nil (thn_n ?_)
  refine WP.condT rfl ?_
  refine WP.seq (WP.reg ?_)
  refine WL.call Try.call11 rfl rfl (c_known19  _ ) rfl ?_
  rintro _ w_7 ⟨rfl, hc_6⟩
  have h_8 := h_3.same hc_6
  refine qA (.bool true) rfl rfl ?_
  refine WL.nil (thn_n (WP.ret (thn_r ?_)))
  refine ret_of Try.results7 (RV.tmp (v := (.bool true)) rfl RV.nil) ?_
  exact ⟨rfl, h_8.chgS⟩
 ·have p_9 := of_decide_eq_false c_4
  refine WL.want rfl (congrArg Value.bool c_4) ?_
  refine qM (.slice ab nb cb) rfl rfl ?_
  refine WL.want rfl (congrArg Value.bool c_4) ?_
  refine qV rfl (R.lenS (a := ab) (m := nb) rfl rfl Try.underlying37) ?_
  refine WL.want rfl (congrArg Value.bool c_4) ?_
  refine qV rfl (R.bin rfl rfl (bi_gtr (r := decide ((((nb : Nat) : Int) : Int) > 900)) rfl)) (qV rfl (R.pickF (v := (.bool (decide ((((nb : Nat) : Int) : Int) > 900)))) (congrArg Value.bool c_4) rfl) ?_)
  refine WL.nil (thn_n ?_)
  refine WP.cond (b := decide ((((nb : Nat) : Int) : Int) > 900)) rfl (fun c_10 => ?_) (fun c_10 => ?_)
  ·have p_11 := of_decide_eq_true c_10
   refine WP.seq (WP.reg ?_)
   refine WL.call Try.call11 rfl rfl (c_known19  _ ) rfl ?_
   rintro _ w_13 ⟨rfl, hc_12⟩
   have h_14 := h_3.same hc_12
   refine qA (.bool true) rfl rfl ?_
   refine WL.nil (thn_n (WP.ret (thn_r ?_)))
   refine ret_of Try.results7 (RV.tmp (v := (.bool true)) rfl RV.nil) ?_
   exact ⟨rfl, h_14.chgS⟩
  ·have p_15 := of_decide_eq_false c_10
   refine WP.skip (thn_n (WP.seq (WP.reg ?_)))
   refine qV rfl (R.loadA (b := b_1) (off := 0) [] [(1, [(.bool id)]), (32, ms.map vu8), (1, [(.slice da0 n cap0)])] [] (cs := flat [(1, [(.bool id)]), (32, ms.map vu8), (1, [(.slice da0 n cap0)])]) rfl Try.isAgg26 Try.sizeOf26 (h_3.ok _ M0) rfl rfl rfl rfl) ?_
   have h_16 := h_3.up J2
   refine WL.call Try.call12 rfl rfl (c_both19 id ms df hms da0 n cap0 hl (by omega) _ h_16) rfl ?_
   rintro _ w_22 ⟨b_17, b_18, a_19, c_20, b_21, rfl, h_23⟩
   have h_24 := h_23.rowNil 111 67
   have h_25 := HP_logNil h_24
   refine qM (.tuple [(pO b_17 0), (pO b_21 0)].toArray) rfl rfl (qV rfl (R.extract rfl rfl) (qV rfl (R.extract rfl rfl) (qA (pO b_17 0) rfl rfl (qA (pO b_21 0) rfl rfl ?_))))
   refine WL.nil (thn_n (WP.seq (WP.reg ?_)))
   refine qM (.slice ab nb cb) rfl rfl ?_
   refine WL.call Try.call18 rfl rfl (c_Spl_len ab nb cb hn _ ) rfl ?_
   rintro _ w_27 ⟨rfl, hc_26⟩
   have h_28 := h_25.same hc_26
   refine qM (.tuple [(.agg ⟨flat [(1, [(vu64 0)]), (32, (List.replicate 32 (0 : UInt8)).map vu8), (32, (List.replicate 32 (0 : UInt8)).map vu8)]⟩), (.agg ⟨(List.replicate 32 (0 : UInt8)).map vu8⟩), (vi 4)].toArray) rfl rfl (qV rfl (R.extract rfl rfl) (qV rfl (R.extract rfl rfl) (qV rfl (R.extract rfl rfl) ?_)))
   refine WL.alloc (segs := [(1, [(vu64 0)]), (32, (List.replicate 32 (0 : UInt8)).map vu8), (32, (List.replicate 32 (0 : UInt8)).map vu8)]) h_28 (zv Try.typeInfo30 rfl) rfl (SsOk.cons (SOk.v rfl) (SsOk.cons (SOk.u8 lr) (SsOk.cons (SOk.u8 lr) SsOk.nil))) rfl (fun b_29 w_30 h_31 => ?_)
   refine WL.alloc (segs := [(32, (List.replicate 32 (0 : UInt8)).map vu8)]) h_31 (zv Try.typeInfo23 rfl) rfl (SsOk.cons (SOk.u8 lr) SsOk.nil) rfl (fun b_32 w_33 h_34 => ?_)
   refine WL.storeA (b := b_29) (off := 0) [] [(1, [(vu64 0)]), (32, (List.replicate 32 (0 : UInt8)).map vu8), (32, (List.replicate 32 (0 : UInt8)).map vu8)] [(1, [(vu64 0)]), (32, (List.replicate 32 (0 : UInt8)).map vu8), (32, (List.replicate 32 (0 : UInt8)).map vu8)] [] (ys := flat [(1, [(vu64 0)]), (32, (List.replicate 32 (0 : UInt8)).map vu8), (32, (List.replicate 32 (0 : UInt8)).map vu8)]) h_34 rfl rfl Try.sizeOf30 Y1 (by decide) rfl rfl rfl rfl rfl rfl (SsOk.cons (SOk.v rfl) (SsOk.cons (SOk.u8 lr) (SsOk.cons (SOk.u8 lr) SsOk.nil))) (fun w_35 h_36 => ?_)
   refine WL.storeA (b := b_32) (off := 0) [] [(32, (List.replicate 32 (0 : UInt8)).map vu8)] [(32, (List.replicate 32 (0 : UInt8)).map vu8)] [] (ys := (List.replicate 32 (0 : UInt8)).map vu8) h_36 rfl rfl Try.sizeOf23 At.h (by decide) rfl rfl rfl rfl rfl rfl (SsOk.cons (SOk.u8 lr) SsOk.nil) (fun w_37 h_38 => ?_)
   refine qA (vi 4) rfl rfl ?_
   refine WL.nil (thn_n (WP.seq (WP.reg ?_)))
   refine qM (pO b_17 0) rfl rfl (qM (.slice ab nb cb) rfl rfl ?_)
   refine WL.call Try.call15 rfl rfl (c_Ver_len id b_17 b_18 ms hms a_19 n c_20 0 none 0 0 ab nb cb hn _ (h_38.argR M4)) rfl ?_
   rintro _ w_40 ⟨rfl, hc_39⟩
   have h_41 := h_38.same hc_39
   refine qM (.tuple [(.agg ⟨flat [(1, [(vu64 0)]), (32, (List.replicate 32 (0 : UInt8)).map vu8), (32, (List.replicate 32 (0 : UInt8)).map vu8)]⟩), (.bool false), (vi 4)].toArray) rfl rfl (qV rfl (R.extract rfl rfl) (qV rfl (R.extract rfl rfl) (qV rfl (R.extract rfl rfl) ?_)))
   refine WL.alloc (segs := [(1, [(vu64 0)]), (32, (List.replicate 32 (0 : UInt8)).map vu8), (32, (List.replicate 32 (0 : UInt8)).map vu8)]) h_41 (zv Try.typeInfo30 rfl) rfl (SsOk.cons (SOk.v rfl) (SsOk.cons (SOk.u8 lr) (SsOk.cons (SOk.u8 lr) SsOk.nil))) rfl (fun b_42 w_43 h_44 => ?_)
   refine WL.storeA (b := b_42) (off := 0) [] [(1, [(vu64 0)]), (32, (List.replicate 32 (0 : UInt8)).map vu8), (32, (List.replicate 32 (0 : UInt8)).map vu8)] [(1, [(vu64 0)]), (32, (List.replicate 32 (0 : UInt8)).map vu8), (32, (List.replicate 32 (0 : UInt8)).map vu8)] [] (ys := flat [(1, [(vu64 0)]), (32, (List.replicate 32 (0 : UInt8)).map vu8), (32, (List.replicate 32 (0 : UInt8)).map vu8)]) h_44 rfl rfl Try.sizeOf30 At.h (by decide) rfl rfl rfl rfl rfl rfl (SsOk.cons (SOk.v rfl) (SsOk.cons (SOk.u8 lr) (SsOk.cons (SOk.u8 lr) SsOk.nil))) (fun w_45 h_46 => ?_)
   refine qA (.bool false) rfl rfl (qA (vi 4) rfl rfl ?_)
   refine WL.nil (thn_n (WP.seq (WP.reg ?_)))
   refine qM (.slice ab nb cb) rfl rfl ?_
   refine WL.call Try.call26 rfl rfl (c_rSpl_len ab nb cb hn _ ) rfl ?_
   rintro _ w_48 ⟨rfl, hc_47⟩
   have h_49 := h_46.same hc_47
   refine qM (.tuple [(.agg ⟨flat [(1, [(vu64 0)]), (32, (List.replicate 32 (0 : UInt8)).map vu8), (32, (List.replicate 32 (0 : UInt8)).map vu8)]⟩), (.agg ⟨(List.replicate 32 (0 : UInt8)).map vu8⟩), (.bool false)].toArray) rfl rfl (qV rfl (R.extract rfl rfl) (qV rfl (R.extract rfl rfl) (qV rfl (R.extract rfl rfl) ?_)))
   refine WL.alloc (segs := [(1, [(vu64 0)]), (32, (List.replicate 32 (0 : UInt8)).map vu8), (32, (List.replicate 32 (0 : UInt8)).map vu8)]) h_49 (zv Try.typeInfo30 rfl) rfl (SsOk.cons (SOk.v rfl) (SsOk.cons (SOk.u8 lr) (SsOk.cons (SOk.u8 lr) SsOk.nil))) rfl (fun b_50 w_51 h_52 => ?_)
   refine WL.alloc (segs := [(32, (List.replicate 32 (0 : UInt8)).map vu8)]) h_52 (zv Try.typeInfo23 rfl) rfl (SsOk.cons (SOk.u8 lr) SsOk.nil) rfl (fun b_53 w_54 h_55 => ?_)
   refine WL.storeA (b := b_50) (off := 0) [] [(1, [(vu64 0)]), (32, (List.replicate 32 (0 : UInt8)).map vu8), (32, (List.replicate 32 (0 : UInt8)).map vu8)] [(1, [(vu64 0)]), (32, (List.replicate 32 (0 : UInt8)).map vu8), (32, (List.replicate 32 (0 : UInt8)).map vu8)] [] (ys := flat [(1, [(vu64 0)]), (32, (List.replicate 32 (0 : UInt8)).map vu8), (32, (List.replicate 32 (0 : UInt8)).map vu8)]) h_55 rfl rfl Try.sizeOf30 Y1 (by decide) rfl rfl rfl rfl rfl rfl (SsOk.cons (SOk.v rfl) (SsOk.cons (SOk.u8 lr) (SsOk.cons (SOk.u8 lr) SsOk.nil))) (fun w_56 h_57 => ?_)
   refine WL.storeA (b := b_53) (off := 0) [] [(32, (List.replicate 32 (0 : UInt8)).map vu8)] [(32, (List.replicate 32 (0 : UInt8)).map vu8)] [] (ys := (List.replicate 32 (0 : UInt8)).map vu8) h_57 rfl rfl Try.sizeOf23 At.h (by decide) rfl rfl rfl rfl rfl rfl (SsOk.cons (SOk.u8 lr) SsOk.nil) (fun w_58 h_59 => ?_)
   refine qA (.bool false) rfl rfl ?_
   refine WL.nil (thn_n (WP.seq (WP.seq (WP.reg ?_))))
   refine qV rfl (R.loadA (b := b_29) (off := 0) [] [(1, [(vu64 0)]), (32, (List.replicate 32 (0 : UInt8)).map vu8), (32, (List.replicate 32 (0 : UInt8)).map vu8)] [] (cs := flat [(1, [(vu64 0)]), (32, (List.replicate 32 (0 : UInt8)).map vu8), (32, (List.replicate 32 (0 : UInt8)).map vu8)]) rfl Try.isAgg30 Try.sizeOf30 (h_59.ok _ M4) rfl rfl rfl rfl) (qV rfl (R.loadA (b := b_50) (off := 0) [] [(1, [(vu64 0)]), (32, (List.replicate 32 (0 : UInt8)).map vu8), (32, (List.replicate 32 (0 : UInt8)).map vu8)] [] (cs := flat [(1, [(vu64 0)]), (32, (List.replicate 32 (0 : UInt8)).map vu8), (32, (List.replicate 32 (0 : UInt8)).map vu8)]) rfl Try.isAgg30 Try.sizeOf30 (h_59.ok _ M1) rfl rfl rfl rfl) (qV rfl (R.neA (xs := flat [(1, [(vu64 0)]), (32, (List.replicate 32 (0 : UInt8)).map vu8), (32, (List.replicate 32 (0 : UInt8)).map vu8)]) (ys := flat [(1, [(vu64 0)]), (32, (List.replicate 32 (0 : UInt8)).map vu8), (32, (List.replicate 32 (0 : UInt8)).map vu8)]) (r := false) rfl rfl Try.eqGuardType30 kt30 (by decide) ag30 (Typ.struct (h := 2) (r := [(1, [(vu64 0)]), (32, (List.replicate 32 (0 : UInt8)).map vu8), (32, (List.replicate 32 (0 : UInt8)).map vu8)]) (cs := flat [(1, [(vu64 0)]), (32, (List.replicate 32 (0 : UInt8)).map vu8), (32, (List.replicate 32 (0 : UInt8)).map vu8)]) Try.underlying30 (TypF.cons (k := 1) rfl rfl (by decide) rfl (Typ.int Try.underlying28 ce28 (wfu64 0)) (TypF.cons (k := 32) rfl rfl (by decide) (len_map lr) (Typ.u8s Try.underlying23 ce23 Try.underlying5 ce5 lr) (TypF.cons (k := 32) rfl rfl (by decide) (len_map lr) (Typ.u8s Try.underlying23 ce23 Try.underlying5 ce5 lr) TypF.nil))) rfl (((SsOk.cons (SOk.v rfl) (SsOk.cons (SOk.u8 lr) (SsOk.cons (SOk.u8 lr) SsOk.nil)))).len.trans ce30.symm)) (Typ.struct (h := 2) (r := [(1, [(vu64 0)]), (32, (List.replicate 32 (0 : UInt8)).map vu8), (32, (List.replicate 32 (0 : UInt8)).map vu8)]) (cs := flat [(1, [(vu64 0)]), (32, (List.replicate 32 (0 : UInt8)).map vu8), (32, (List.replicate 32 (0 : UInt8)).map vu8)]) Try.underlying30 (TypF.cons (k := 1) rfl rfl (by decide) rfl (Typ.int Try.underlying28 ce28 (wfu64 0)) (TypF.cons (k := 32) rfl rfl (by decide) (len_map lr) (Typ.u8s Try.underlying23 ce23 Try.underlying5 ce5 lr) (TypF.cons (k := 32) rfl rfl (by decide) (len_map lr) (Typ.u8s Try.underlying23 ce23 Try.underlying5 ce5 lr) TypF.nil))) rfl (((SsOk.cons (SOk.v rfl) (SsOk.cons (SOk.u8 lr) (SsOk.cons (SOk.u8 lr) SsOk.nil)))).len.trans ce30.symm)) (neT rfl)) (qM (.bool false) rfl rfl ?_)))
   refine WL.want rfl rfl ?_
   refine qV rfl (R.loadA (b := b_32) (off := 0) [] [(32, (List.replicate 32 (0 : UInt8)).map vu8)] [] (cs := (List.replicate 32 (0 : UInt8)).map vu8) rfl Try.isAgg23 Try.sizeOf23 (h_59.ok _ M3) rfl rfl rfl rfl) ?_
   refine WL.want rfl rfl ?_
   refine qV rfl (R.loadA (b := b_53) (off := 0) [] [(32, (List.replicate 32 (0 : UInt8)).map vu8)] [] (cs := (List.replicate 32 (0 : UInt8)).map vu8) rfl Try.isAgg23 Try.sizeOf23 (h_59.ok _ M0) rfl rfl rfl rfl) ?_
   refine WL.want rfl rfl ?_
   refine qV rfl (R.neA (xs := (List.replicate 32 (0 : UInt8)).map vu8) (ys := (List.replicate 32 (0 : UInt8)).map vu8) (r := false) rfl rfl Try.eqGuardType23 kt23 (by decide) ag23 (Typ.u8s Try.underlying23 ce23 Try.underlying5 ce5 lr) (Typ.u8s Try.underlying23 ce23 Try.underlying5 ce5 lr) (neT rfl)) (qV rfl (R.pickF (v := (.bool false)) rfl rfl) (qM (.bool false) rfl rfl ?_))
   refine WL.want rfl rfl ?_
   refine qV rfl (R.loadA (b := b_42) (off := 0) [] [(1, [(vu64 0)]), (32, (List.replicate 32 (0 : UInt8)).map vu8), (32, (List.replicate 32 (0 : UInt8)).map vu8)] [] (cs := flat [(1, [(vu64 0)]), (32, (List.replicate 32 (0 : UInt8)).map vu8), (32, (List.replicate 32 (0 : UInt8)).map vu8)]) rfl Try.isAgg30 Try.sizeOf30 (h_59.ok _ M2) rfl rfl rfl rfl) ?_
   refine WL.want rfl rfl ?_
   refine qV rfl (R.loadA (b := b_50) (off := 0) [] [(1, [(vu64 0)]), (32, (List.replicate 32 (0 : UInt8)).map vu8), (32, (List.replicate 32 (0 : UInt8)).map vu8)] [] (cs := flat [(1, [(vu64 0)]), (32, (List.replicate 32 (0 : UInt8)).map vu8), (32, (List.replicate 32 (0 : UInt8)).map vu8)]) rfl Try.isAgg30 Try.sizeOf30 (h_59.ok _ M1) rfl rfl rfl rfl) ?_
   refine WL.want rfl rfl ?_
   refine qV rfl (R.neA (xs := flat [(1, [(vu64 0)]), (32, (List.replicate 32 (0 : UInt8)).map vu8), (32, (List.replicate 32 (0 : UInt8)).map vu8)]) (ys := flat [(1, [(vu64 0)]), (32, (List.replicate 32 (0 : UInt8)).map vu8), (32, (List.replicate 32 (0 : UInt8)).map vu8)]) (r := false) rfl rfl Try.eqGuardType30 kt30 (by decide) ag30 (Typ.struct (h := 2) (r := [(1, [(vu64 0)]), (32, (List.replicate 32 (0 : UInt8)).map vu8), (32, (List.replicate 32 (0 : UInt8)).map vu8)]) (cs := flat [(1, [(vu64 0)]), (32, (List.replicate 32 (0 : UInt8)).map vu8), (32, (List.replicate 32 (0 : UInt8)).map vu8)]) Try.underlying30 (TypF.cons (k := 1) rfl rfl (by decide) rfl (Typ.int Try.underlying28 ce28 (wfu64 0)) (TypF.cons (k := 32) rfl rfl (by decide) (len_map lr) (Typ.u8s Try.underlying23 ce23 Try.underlying5 ce5 lr) (TypF.cons (k := 32) rfl rfl (by decide) (len_map lr) (Typ.u8s Try.underlying23 ce23 Try.underlying5 ce5 lr) TypF.nil))) rfl (((SsOk.cons (SOk.v rfl) (SsOk.cons (SOk.u8 lr) (SsOk.cons (SOk.u8 lr) SsOk.nil)))).len.trans ce30.symm)) (Typ.struct (h := 2) (r := [(1, [(vu64 0)]), (32, (List.replicate 32 (0 : UInt8)).map vu8), (32, (List.replicate 32 (0 : UInt8)).map vu8)]) (cs := flat [(1, [(vu64 0)]), (32, (List.replicate 32 (0 : UInt8)).map vu8), (32, (List.replicate 32 (0 : UInt8)).map vu8)]) Try.underlying30 (TypF.cons (k := 1) rfl rfl (by decide) rfl (Typ.int Try.underlying28 ce28 (wfu64 0)) (TypF.cons (k := 32) rfl rfl (by decide) (len_map lr) (Typ.u8s Try.underlying23 ce23 Try.underlying5 ce5 lr) (TypF.cons (k := 32) rfl rfl (by decide) (len_map lr) (Typ.u8s Try.underlying23 ce23 Try.underlying5 ce5 lr) TypF.nil))) rfl (((SsOk.cons (SOk.v rfl) (SsOk.cons (SOk.u8 lr) (SsOk.cons (SOk.u8 lr) SsOk.nil)))).len.trans ce30.symm)) (neT rfl)) (qV rfl (R.pickF (v := (.bool false)) rfl rfl) ?_)
   refine WL.nil (thn_n ?_)
   refine WP.condF rfl ?_
   refine WP.skip (thn_n (WP.seq (WP.seq (WP.reg ?_))))
   refine qM (.bool false) rfl rfl (qV rfl (R.not (b := false) rfl) ?_)
   refine WL.nil (thn_n ?_)
   refine WP.condT rfl ?_
   refine WP.seq (WP.reg ?_)
   refine qM (.bool false) rfl rfl (qV rfl (R.not (b := false) rfl) (qM (.bool true) rfl rfl ?_))
   refine WL.want rfl rfl ?_
   refine qM (vi 4) rfl rfl ?_
   refine WL.want rfl rfl ?_
   refine WL.call Try.call14 rfl rfl (c_num19 4 (by omega) _ ) rfl ?_
   rintro _ w_61 ⟨rfl, hc_60⟩
   have h_62 := h_59.same hc_60
   refine WL.want rfl rfl ?_
   refine qV rfl (R.bin rfl rfl (bi_eql (r := true) (by decide))) (qV rfl (R.pickT (v := (.bool true)) rfl rfl) (qM (.bool true) rfl rfl ?_))
   refine WL.want rfl rfl ?_
   refine qM (vi 4) rfl rfl ?_
   refine WL.want rfl rfl ?_
   refine WL.call Try.call14 rfl rfl (c_num19 4 (by omega) _ ) rfl ?_
   rintro _ w_64 ⟨rfl, hc_63⟩
   have h_65 := h_62.same hc_63
   refine WL.want rfl rfl ?_
   refine qV rfl (R.bin rfl rfl (bi_eql (r := true) (by decide))) (qV rfl (R.pickT (v := (.bool true)) rfl rfl) (qM (.bool true) rfl rfl ?_))
   refine WL.want rfl rfl ?_
   refine qM (pO b_17 0) rfl rfl ?_
   refine WL.want rfl rfl ?_
   have h_70 := ((((h_65.up J11).up J6).up J10).up J8).up J9
   refine WL.call Try.call25 rfl rfl (c_oLog id b_17 b_18 ms df hms a_19 n c_20 0 hl none 0 [] ([] : Lg) (by first | decide | exact Nat.le_trans (tgU_le ..) (by decide) | exact Nat.le_trans (anU_le ..) (Nat.le_trans (Nat.succ_le_succ (tgU_le ..)) (by decide))) (by first | decide | exact Nat.le_trans (tgL_le ..) (by decide) | exact Nat.le_trans (anL_le ..) (Nat.le_trans (Nat.succ_le_succ (tgL_le ..)) (by decide))) _ h_70) rfl ?_
   rintro _ w_74 ⟨a_71, c_72, ys_73, rfl, h_75⟩
   refine WL.want rfl rfl ?_
   refine qV rfl (R.lenS (a := a_71) (m := 0) rfl rfl Try.underlying48) ?_
   refine WL.want rfl rfl ?_
   refine qV rfl (R.bin rfl rfl (bi_eql (r := true) (by decide))) (qV rfl (R.pickT (v := (.bool true)) rfl rfl) (qM (.bool true) rfl rfl ?_))
   refine WL.want rfl rfl ?_
   refine WL.call Try.call11 rfl rfl (c_known19  _ ) rfl ?_
   rintro _ w_77 ⟨rfl, hc_76⟩
   have h_78 := h_75.same hc_76
   refine qV rfl (R.pickT (v := (.bool true)) rfl rfl) (qA (.bool true) rfl rfl ?_)
   refine WL.nil (thn_n (WP.ret (thn_r ?_)))
   refine ret_of Try.results7 (RV.tmp (v := (.bool true)) rfl RV.nil) ?_
   exact ⟨rfl, h_78.chgS⟩

theorem w_AttestVerifies_no (id : Bool) (ms df : List UInt8) (hms : ms.length = 32) (da0 : Option Addr) (n cap0 : Nat) (hl : df.length = 32 * n) (ab : Option Addr) (cb : Nat) (bs : List UInt8) (hbl : bs.length = 112) (hcb : 112 ≤ cb) (hm : ((bs.drop 0).take 80).take 8 ≠ markB) (w : World) (hv : View w da0 (df.map vu8)) (hvb : View w ab (bs.map vu8)) :
  Cs Try.prog 7 [(.agg ⟨flat [(1, [(.bool id)]), (32, ms.map vu8), (1, [(.slice da0 n cap0)])]⟩), (.slice ab 112 cb)].toArray w (fun v w1 => v = (.bool true) ∧ Chg w w1 []) := by
 refine Cs.of (n := 111) (args := [(.agg ⟨flat [(1, [(.bool id)]), (32, ms.map vu8), (1, [(.slice da0 n cap0)])]⟩), (.slice ab 112 cb)]) Try.func7 rfl rfl rfl ?_
 have h_0 := HP.init w
 have h_01 := h_0.oldV (View.arg hv) rfl (by simp [Ent.mut])
 have h_00 := h_01.oldV (View.arg hvb) rfl (by simp [Ent.mut])
 refine WP.seq (WP.reg ?_)
 refine WL.box (v := (.agg ⟨flat [(1, [(.bool id)]), (32, ms.map vu8), (1, [(.slice da0 n cap0)])]⟩)) (segs := [(1, [(.bool id)]), (32, ms.map vu8), (1, [(.slice da0 n cap0)])]) h_00 rfl rfl (SsOk.cons (SOk.v rfl) (SsOk.cons (SOk.u8 hms) (SsOk.cons (SOk.v rfl) SsOk.nil))) rfl (fun b_1 w_2 h_3 => ?_)
 refine qA (.bool false) rfl rfl ?_
 refine WL.nil (thn_n (WP.seq (WP.seq (WP.reg ?_))))
 refine qV rfl (R.fieldAddr (b := b_1) (off := 0) (off' := 33) rfl Try.underlying26 rfl Try.sizeOf24 rfl rfl) (qV rfl (R.load1 (b := b_1) (off := 33) (v := (.slice da0 n cap0)) rfl Try.isAgg24 (h_3.ok _ M0) (Sg.t rfl (Sg.t rfl Sg.h))) (qV rfl (R.lenS (a := da0) (m := n) rfl rfl Try.underlying24) (qV rfl (R.bin rfl rfl (bi_gtr (r := decide ((((n : Nat) : Int) : Int) > 60)) rfl)) (qM (.bool (decide ((((n : Nat) : Int) : Int) > 60))) rfl rfl ?_))))
 rcases Bool.eq_false_or_eq_true (decide ((((n : Nat) : Int) : Int) > 60)) with c_4 | c_4
 ·have p_5 := of_decide_eq_true c_4
  refine WL.skip rfl (congrArg Value.bool c_4) rfl ?_
  refine WL.skip rfl (congrArg Value.bool c_4) rfl ?_
  refine WL.skip rfl (congrArg Value.bool c_4) rfl ?_
  refine qV rfl (R.pickT (v := (.bool true)) (congrArg Value.bool c_4) rfl) ?_
  refine WL.nil (thn_n ?_)
  refine WP.condT rfl ?_
  refine WP.seq (WP.reg ?_)
  refine WL.call Try.call11 rfl rfl (c_known19  _ ) rfl ?_
  rintro _ w_7 ⟨rfl, hc_6⟩
  have h_8 := h_3.same hc_6
  refine qA (.bool true) rfl rfl ?_
  refine WL.nil (thn_n (WP.ret (thn_r ?_)))
  refine ret_of Try.results7 (RV.tmp (v := (.bool true)) rfl RV.nil) ?_
  exact ⟨rfl, h_8.chgS⟩
 ·have p_9 := of_decide_eq_false c_4
  refine WL.want rfl (congrArg Value.bool c_4) ?_
  refine qM (.slice ab 112 cb) rfl rfl ?_
  refine WL.want rfl (congrArg Value.bool c_4) ?_
  refine qV rfl (R.lenS (a := ab) (m := 112) rfl rfl Try.underlying37) ?_
  refine WL.want rfl (congrArg Value.bool c_4) ?_
  refine qV rfl (R.bin rfl rfl (bi_gtr (r := false) (by decide))) (qV rfl (R.pickF (v := (.bool false)) (congrArg Value.bool c_4) rfl) ?_)
  refine WL.nil (thn_n ?_)
  refine WP.condF rfl ?_
  refine WP.skip (thn_n (WP.seq (WP.reg ?_)))
  refine qV rfl (R.loadA (b := b_1) (off := 0) [] [(1, [(.bool id)]), (32, ms.map vu8), (1, [(.slice da0 n cap0)])] [] (cs := flat [(1, [(.bool id)]), (32, ms.map vu8), (1, [(.slice da0 n cap0)])]) rfl Try.isAgg26 Try.sizeOf26 (h_3.ok _ M0) rfl rfl rfl rfl) ?_
  have h_10 := h_3.up J2
  refine WL.call Try.call12 rfl rfl (c_both19 id ms df hms da0 n cap0 hl (by omega) _ h_10) rfl ?_
  rintro _ w_16 ⟨b_11, b_12, a_13, c_14, b_15, rfl, h_17⟩
  have h_18 := h_17.rowNil 111 67
  have h_19 := HP_logNil h_18
  refine qM (.tuple [(pO b_11 0), (pO b_15 0)].toArray) rfl rfl (qV rfl (R.extract rfl rfl) (qV rfl (R.extract rfl rfl) (qA (pO b_11 0) rfl rfl (qA (pO b_15 0) rfl rfl ?_))))
  refine WL.nil (thn_n (WP.seq (WP.reg ?_)))
  refine qM (.slice ab 112 cb) rfl rfl ?_
  refine WL.call Try.call18 rfl rfl (c_Spl_no ab cb bs hbl (by omega) hm _ (viewV (h_19.ok _ M10))) rfl ?_
  rintro _ w_21 ⟨rfl, hc_20⟩
  have h_22 := h_19.same hc_20
  refine qM (.tuple [(.agg ⟨flat [(1, [(vu64 0)]), (32, (List.replicate 32 (0 : UInt8)).map vu8), (32, (List.replicate 32 (0 : UInt8)).map vu8)]⟩), (.agg ⟨(List.replicate 32 (0 : UInt8)).map vu8⟩), (vi 4)].toArray) rfl rfl (qV rfl (R.extract rfl rfl) (qV rfl (R.extract rfl rfl) (qV rfl (R.extract rfl rfl) ?_)))
  refine WL.alloc (segs := [(1, [(vu64 0)]), (32, (List.replicate 32 (0 : UInt8)).map vu8), (32, (List.replicate 32 (0 : UInt8)).map vu8)]) h_22 (zv Try.typeInfo30 rfl) rfl (SsOk.cons (SOk.v rfl) (SsOk.cons (SOk.u8 lr) (SsOk.cons (SOk.u8 lr) SsOk.nil))) rfl (fun b_23 w_24 h_25 => ?_)
  refine WL.alloc (segs := [(32, (List.replicate 32 (0 : UInt8)).map vu8)]) h_25 (zv Try.typeInfo23 rfl) rfl (SsOk.cons (SOk.u8 lr) SsOk.nil) rfl (fun b_26 w_27 h_28 => ?_)
  refine WL.storeA (b := b_23) (off := 0) [] [(1, [(vu64 0)]), (32, (List.replicate 32 (0 : UInt8)).map vu8), (32, (List.replicate 32 (0 : UInt8)).map vu8)] [(1, [(vu64 0)]), (32, (List.replicate 32 (0 : UInt8)).map vu8), (32, (List.replicate 32 (0 : UInt8)).map vu8)] [] (ys := flat [(1, [(vu64 0)]), (32, (List.replicate 32 (0 : UInt8)).map vu8), (32, (List.replicate 32 (0 : UInt8)).map vu8)]) h_28 rfl rfl Try.sizeOf30 Y1 (by decide) rfl rfl rfl rfl rfl rfl (SsOk.cons (SOk.v rfl) (SsOk.cons (SOk.u8 lr) (SsOk.cons (SOk.u8 lr) SsOk.nil))) (fun w_29 h_30 => ?_)
  refine WL.storeA (b := b_26) (off := 0) [] [(32, (List.replicate 32 (0 : UInt8)).map vu8)] [(32, (List.replicate 32 (0 : UInt8)).map vu8)] [] (ys := (List.replicate 32 (0 : UInt8)).map vu8) h_30 rfl rfl Try.sizeOf23 At.h (by decide) rfl rfl rfl rfl rfl rfl (SsOk.cons (SOk.u8 lr) SsOk.nil) (fun w_31 h_32 => ?_)
  refine qA (vi 4) rfl rfl ?_
  refine WL.nil (thn_n (WP.seq (WP.reg ?_)))
  refine qM (pO b_11 0) rfl rfl (qM (.slice ab 112 cb) rfl rfl ?_)
  refine WL.call Try.call15 rfl rfl (c_Ver_no id b_11 b_12 ms hms a_13 n c_14 0 none 0 0 ab cb bs hbl (by omega) hm _ (h_32.argR M4) (viewV (h_32.ok _ M12))) rfl ?_
  rintro _ w_34 ⟨rfl, hc_33⟩
  have h_35 := h_32.same hc_33
  refine qM (.tuple [(.agg ⟨flat [(1, [(vu64 0)]), (32, (List.replicate 32 (0 : UInt8)).map vu8), (32, (List.replicate 32 (0 : UInt8)).map vu8)]⟩), (.bool false), (vi 4)].toArray) rfl rfl (qV rfl (R.extract rfl rfl) (qV rfl (R.extract rfl rfl) (qV rfl (R.extract rfl rfl) ?_)))
  refine WL.alloc (segs := [(1, [(vu64 0)]), (32, (List.replicate 32 (0 : UInt8)).map vu8), (32, (List.replicate 32 (0 : UInt8)).map vu8)]) h_35 (zv Try.typeInfo30 rfl) rfl (SsOk.cons (SOk.v rfl) (SsOk.cons (SOk.u8 lr) (SsOk.cons (SOk.u8 lr) SsOk.nil))) rfl (fun b_36 w_37 h_38 => ?_)
  refine WL.storeA (b := b_36) (off := 0) [] [(1, [(vu64 0)]), (32, (List.replicate 32 (0 : UInt8)).map vu8), (32, (List.replicate 32 (0 : UInt8)).map vu8)] [(1, [(vu64 0)]), (32, (List.replicate 32 (0 : UInt8)).map vu8), (32, (List.replicate 32 (0 : UInt8)).map vu8)] [] (ys := flat [(1, [(vu64 0)]), (32, (List.replicate 32 (0 : UInt8)).map vu8), (32, (List.replicate 32 (0 : UInt8)).map vu8)]) h_38 rfl rfl Try.sizeOf30 At.h (by decide) rfl rfl rfl rfl rfl rfl (SsOk.cons (SOk.v rfl) (SsOk.cons (SOk.u8 lr) (SsOk.cons (SOk.u8 lr) SsOk.nil))) (fun w_39 h_40 => ?_)
  refine qA (.bool false) rfl rfl (qA (vi 4) rfl rfl ?_)
  refine WL.nil (thn_n (WP.seq (WP.reg ?_)))
  refine qM (.slice ab 112 cb) rfl rfl ?_
  refine WL.call Try.call26 rfl rfl (c_rSpl_no ab cb bs hbl (by omega) hm _ (viewV (h_40.ok _ M13))) rfl ?_
  rintro _ w_42 ⟨rfl, hc_41⟩
  have h_43 := h_40.same hc_41
  refine qM (.tuple [(.agg ⟨flat [(1, [(vu64 0)]), (32, (List.replicate 32 (0 : UInt8)).map vu8), (32, (List.replicate 32 (0 : UInt8)).map vu8)]⟩), (.agg ⟨(List.replicate 32 (0 : UInt8)).map vu8⟩), (.bool false)].toArray) rfl rfl (qV rfl (R.extract rfl rfl) (qV rfl (R.extract rfl rfl) (qV rfl (R.extract rfl rfl) ?_)))
  refine WL.alloc (segs := [(1, [(vu64 0)]), (32, (List.replicate 32 (0 : UInt8)).map vu8), (32, (List.replicate 32 (0 : UInt8)).map vu8)]) h_43 (zv Try.typeInfo30 rfl) rfl (SsOk.cons (SOk.v rfl) (SsOk.cons (SOk.u8 lr) (SsOk.cons (SOk.u8 lr) SsOk.nil))) rfl (fun b_44 w_45 h_46 => ?_)
  refine WL.alloc (segs := [(32, (List.replicate 32 (0 : UInt8)).map vu8)]) h_46 (zv Try.typeInfo23 rfl) rfl (SsOk.cons (SOk.u8 lr) SsOk.nil) rfl (fun b_47 w_48 h_49 => ?_)
  refine WL.storeA (b := b_44) (off := 0) [] [(1, [(vu64 0)]), (32, (List.replicate 32 (0 : UInt8)).map vu8), (32, (List.replicate 32 (0 : UInt8)).map vu8)] [(1, [(vu64 0)]), (32, (List.replicate 32 (0 : UInt8)).map vu8), (32, (List.replicate 32 (0 : UInt8)).map vu8)] [] (ys := flat [(1, [(vu64 0)]), (32, (List.replicate 32 (0 : UInt8)).map vu8), (32, (List.replicate 32 (0 : UInt8)).map vu8)]) h_49 rfl rfl Try.sizeOf30 Y1 (by decide) rfl rfl rfl rfl rfl rfl (SsOk.cons (SOk.v rfl) (SsOk.cons (SOk.u8 lr) (SsOk.cons (SOk.u8 lr) SsOk.nil))) (fun w_50 h_51 => ?_)
  refine WL.storeA (b := b_47) (off := 0) [] [(32, (List.replicate 32 (0 : UInt8)).map vu8)] [(32, (List.replicate 32 (0 : UInt8)).map vu8)] [] (ys := (List.replicate 32 (0 : UInt8)).map vu8) h_51 rfl rfl Try.sizeOf23 At.h (by decide) rfl rfl rfl rfl rfl rfl (SsOk.cons (SOk.u8 lr) SsOk.nil) (fun w_52 h_53 => ?_)
  refine qA (.bool false) rfl rfl ?_
  refine WL.nil (thn_n (WP.seq (WP.seq (WP.reg ?_))))
  refine qV rfl (R.loadA (b := b_23) (off := 0) [] [(1, [(vu64 0)]), (32, (List.replicate 32 (0 : UInt8)).map vu8), (32, (List.replicate 32 (0 : UInt8)).map vu8)] [] (cs := flat [(1, [(vu64 0)]), (32, (List.replicate 32 (0 : UInt8)).map vu8), (32, (List.replicate 32 (0 : UInt8)).map vu8)]) rfl Try.isAgg30 Try.sizeOf30 (h_53.ok _ M4) rfl rfl rfl rfl) (qV rfl (R.loadA (b := b_44) (off := 0) [] [(1, [(vu64 0)]), (32, (List.replicate 32 (0 : UInt8)).map vu8), (32, (List.replicate 32 (0 : UInt8)).map vu8)] [] (cs := flat [(1, [(vu64 0)]), (32, (List.replicate 32 (0 : UInt8)).map vu8), (32, (List.replicate 32 (0 : UInt8)).map vu8)]) rfl Try.isAgg30 Try.sizeOf30 (h_53.ok _ M1) rfl rfl rfl rfl) (qV rfl (R.neA (xs := flat [(1, [(vu64 0)]), (32, (List.replicate 32 (0 : UInt8)).map vu8), (32, (List.replicate 32 (0 : UInt8)).map vu8)]) (ys := flat [(1, [(vu64 0)]), (32, (List.replicate 32 (0 : UInt8)).map vu8), (32, (List.replicate 32 (0 : UInt8)).map vu8)]) (r := false) rfl rfl Try.eqGuardType30 kt30 (by decide) ag30 (Typ.struct (h := 2) (r := [(1, [(vu64 0)]), (32, (List.replicate 32 (0 : UInt8)).map vu8), (32, (List.replicate 32 (0 : UInt8)).map vu8)]) (cs := flat [(1, [(vu64 0)]), (32, (List.replicate 32 (0 : UInt8)).map vu8), (32, (List.replicate 32 (0 : UInt8)).map vu8)]) Try.underlying30 (TypF.cons (k := 1) rfl rfl (by decide) rfl (Typ.int Try.underlying28 ce28 (wfu64 0)) (TypF.cons (k := 32) rfl rfl (by decide) (len_map lr) (Typ.u8s Try.underlying23 ce23 Try.underlying5 ce5 lr) (TypF.cons (k := 32) rfl rfl (by decide) (len_map lr) (Typ.u8s Try.underlying23 ce23 Try.underlying5 ce5 lr) TypF.nil))) rfl (((SsOk.cons (SOk.v rfl) (SsOk.cons (SOk.u8 lr) (SsOk.cons (SOk.u8 lr) SsOk.nil)))).len.trans ce30.symm)) (Typ.struct (h := 2) (r := [(1, [(vu64 0)]), (32, (List.replicate 32 (0 : UInt8)).map vu8), (32, (List.replicate 32 (0 : UInt8)).map vu8)]) (cs := flat [(1, [(vu64 0)]), (32, (List.replicate 32 (0 : UInt8)).map vu8), (32, (List.replicate 32 (0 : UInt8)).map vu8)]) Try.underlying30 (TypF.cons (k := 1) rfl rfl (by decide) rfl (Typ.int Try.underlying28 ce28 (wfu64 0)) (TypF.cons (k := 32) rfl rfl (by decide) (len_map lr) (Typ.u8s Try.underlying23 ce23 Try.underlying5 ce5 lr) (TypF.cons (k := 32) rfl rfl (by decide) (len_map lr) (Typ.u8s Try.underlying23 ce23 Try.underlying5 ce5 lr) TypF.nil))) rfl (((SsOk.cons (SOk.v rfl) (SsOk.cons (SOk.u8 lr) (SsOk.cons (SOk.u8 lr) SsOk.nil)))).len.trans ce30.symm)) (neT rfl)) (qM (.bool false) rfl rfl ?_)))
  refine WL.want rfl rfl ?_
  refine qV rfl (R.loadA (b := b_26) (off := 0) [] [(32, (List.replicate 32 (0 : UInt8)).map vu8)] [] (cs := (List.replicate 32 (0 : UInt8)).map vu8) rfl Try.isAgg23 Try.sizeOf23 (h_53.ok _ M3) rfl rfl rfl rfl) ?_
  refine WL.want rfl rfl ?_
  refine qV rfl (R.loadA (b := b_47) (off := 0) [] [(32, (List.replicate 32 (0 : UInt8)).map vu8)] [] (cs := (List.replicate 32 (0 : UInt8)).map vu8) rfl Try.isAgg23 Try.sizeOf23 (h_53.ok _ M0) rfl rfl rfl rfl) ?_
  refine WL.want rfl rfl ?_
  refine qV rfl (R.neA (xs := (List.replicate 32 (0 : UInt8)).map vu8) (ys := (List.replicate 32 (0 : UInt8)).map vu8) (r := false) rfl rfl Try.eqGuardType23 kt23 (by decide) ag23 (Typ.u8s Try.underlying23 ce23 Try.underlying5 ce5 lr) (Typ.u8s Try.underlying23 ce23 Try.underlying5 ce5 lr) (neT rfl)) (qV rfl (R.pickF (v := (.bool false)) rfl rfl) (qM (.bool false) rfl rfl ?_))
  refine WL.want rfl rfl ?_
  refine qV rfl (R.loadA (b := b_36) (off := 0) [] [(1, [(vu64 0)]), (32, (List.replicate 32 (0 : UInt8)).map vu8), (32, (List.replicate 32 (0 : UInt8)).map vu8)] [] (cs := flat [(1, [(vu64 0)]), (32, (List.replicate 32 (0 : UInt8)).map vu8), (32, (List.replicate 32 (0 : UInt8)).map vu8)]) rfl Try.isAgg30 Try.sizeOf30 (h_53.ok _ M2) rfl rfl rfl rfl) ?_
  refine WL.want rfl rfl ?_
  refine qV rfl (R.loadA (b := b_44) (off := 0) [] [(1, [(vu64 0)]), (32, (List.replicate 32 (0 : UInt8)).map vu8), (32, (List.replicate 32 (0 : UInt8)).map vu8)] [] (cs := flat [(1, [(vu64 0)]), (32, (List.replicate 32 (0 : UInt8)).map vu8), (32, (List.replicate 32 (0 : UInt8)).map vu8)]) rfl Try.isAgg30 Try.sizeOf30 (h_53.ok _ M1) rfl rfl rfl rfl) ?_
  refine WL.want rfl rfl ?_
  refine qV rfl (R.neA (xs := flat [(1, [(vu64 0)]), (32, (List.replicate 32 (0 : UInt8)).map vu8), (32, (List.replicate 32 (0 : UInt8)).map vu8)]) (ys := flat [(1, [(vu64 0)]), (32, (List.replicate 32 (0 : UInt8)).map vu8), (32, (List.replicate 32 (0 : UInt8)).map vu8)]) (r := false) rfl rfl Try.eqGuardType30 kt30 (by decide) ag30 (Typ.struct (h := 2) (r := [(1, [(vu64 0)]), (32, (List.replicate 32 (0 : UInt8)).map vu8), (32, (List.replicate 32 (0 : UInt8)).map vu8)]) (cs := flat [(1, [(vu64 0)]), (32, (List.replicate 32 (0 : UInt8)).map vu8), (32, (List.replicate 32 (0 : UInt8)).map vu8)]) Try.underlying30 (TypF.cons (k := 1) rfl rfl (by decide) rfl (Typ.int Try.underlying28 ce28 (wfu64 0)) (TypF.cons (k := 32) rfl rfl (by decide) (len_map lr) (Typ.u8s Try.underlying23 ce23 Try.underlying5 ce5 lr) (TypF.cons (k := 32) rfl rfl (by decide) (len_map lr) (Typ.u8s Try.underlying23 ce23 Try.underlying5 ce5 lr) TypF.nil))) rfl (((SsOk.cons (SOk.v rfl) (SsOk.cons (SOk.u8 lr) (SsOk.cons (SOk.u8 lr) SsOk.nil)))).len.trans ce30.symm)) (Typ.struct (h := 2) (r := [(1, [(vu64 0)]), (32, (List.replicate 32 (0 : UInt8)).map vu8), (32, (List.replicate 32 (0 : UInt8)).map vu8)]) (cs := flat [(1, [(vu64 0)]), (32, (List.replicate 32 (0 : UInt8)).map vu8), (32, (List.replicate 32 (0 : UInt8)).map vu8)]) Try.underlying30 (TypF.cons (k := 1) rfl rfl (by decide) rfl (Typ.int Try.underlying28 ce28 (wfu64 0)) (TypF.cons (k := 32) rfl rfl (by decide) (len_map lr) (Typ.u8s Try.underlying23 ce23 Try.underlying5 ce5 lr) (TypF.cons (k := 32) rfl rfl (by decide) (len_map lr) (Typ.u8s Try.underlying23 ce23 Try.underlying5 ce5 lr) TypF.nil))) rfl (((SsOk.cons (SOk.v rfl) (SsOk.cons (SOk.u8 lr) (SsOk.cons (SOk.u8 lr) SsOk.nil)))).len.trans ce30.symm)) (neT rfl)) (qV rfl (R.pickF (v := (.bool false)) rfl rfl) ?_)
  refine WL.nil (thn_n ?_)
  refine WP.condF rfl ?_
  refine WP.skip (thn_n (WP.seq (WP.seq (WP.reg ?_))))
  refine qM (.bool false) rfl rfl (qV rfl (R.not (b := false) rfl) ?_)
  refine WL.nil (thn_n ?_)
  refine WP.condT rfl ?_
  refine WP.seq (WP.reg ?_)
  refine qM (.bool false) rfl rfl (qV rfl (R.not (b := false) rfl) (qM (.bool true) rfl rfl ?_))
  refine WL.want rfl rfl ?_
  refine qM (vi 4) rfl rfl ?_
  refine WL.want rfl rfl ?_
  refine WL.call Try.call14 rfl rfl (c_num19 4 (by omega) _ ) rfl ?_
  rintro _ w_55 ⟨rfl, hc_54⟩
  have h_56 := h_53.same hc_54
  refine WL.want rfl rfl ?_
  refine qV rfl (R.bin rfl rfl (bi_eql (r := true) (by decide))) (qV rfl (R.pickT (v := (.bool true)) rfl rfl) (qM (.bool true) rfl rfl ?_))
  refine WL.want rfl rfl ?_
  refine qM (vi 4) rfl rfl ?_
  refine WL.want rfl rfl ?_
  refine WL.call Try.call14 rfl rfl (c_num19 4 (by omega) _ ) rfl ?_
  rintro _ w_58 ⟨rfl, hc_57⟩
  have h_59 := h_56.same hc_57
  refine WL.want rfl rfl ?_
  refine qV rfl (R.bin rfl rfl (bi_eql (r := true) (by decide))) (qV rfl (R.pickT (v := (.bool true)) rfl rfl) (qM (.bool true) rfl rfl ?_))
  refine WL.want rfl rfl ?_
  refine qM (pO b_11 0) rfl rfl ?_
  refine WL.want rfl rfl ?_
  have h_64 := ((((h_59.up J11).up J6).up J10).up J8).up J9
  refine WL.call Try.call25 rfl rfl (c_oLog id b_11 b_12 ms df hms a_13 n c_14 0 hl none 0 [] ([] : Lg) (by first | decide | exact Nat.le_trans (tgU_le ..) (by decide) | exact Nat.le_trans (anU_le ..) (Nat.le_trans (Nat.succ_le_succ (tgU_le ..)) (by decide))) (by first | decide | exact Nat.le_trans (tgL_le ..) (by decide) | exact Nat.le_trans (anL_le ..) (Nat.le_trans (Nat.succ_le_succ (tgL_le ..)) (by decide))) _ h_64) rfl ?_
  rintro _ w_68 ⟨a_65, c_66, ys_67, rfl, h_69⟩
  refine WL.want rfl rfl ?_
  refine qV rfl (R.lenS (a := a_65) (m := 0) rfl rfl Try.underlying48) ?_
  refine WL.want rfl rfl ?_
  refine qV rfl (R.bin rfl rfl (bi_eql (r := true) (by decide))) (qV rfl (R.pickT (v := (.bool true)) rfl rfl) (qM (.bool true) rfl rfl ?_))
  refine WL.want rfl rfl ?_
  refine WL.call Try.call11 rfl rfl (c_known19  _ ) rfl ?_
  rintro _ w_71 ⟨rfl, hc_70⟩
  have h_72 := h_69.same hc_70
  refine qV rfl (R.pickT (v := (.bool true)) rfl rfl) (qA (.bool true) rfl rfl ?_)
  refine WL.nil (thn_n (WP.ret (thn_r ?_)))
  refine ret_of Try.results7 (RV.tmp (v := (.bool true)) rfl RV.nil) ?_
  exact ⟨rfl, h_72.chgS⟩

theorem w_AttestVerifies_ok (id : Bool) (ms df : List UInt8) (hms : ms.length = 32) (da0 : Option Addr) (n cap0 : Nat) (hl : df.length = 32 * n) (ab : Option Addr) (cb : Nat) (bs : List UInt8) (hbl : bs.length = 112) (hcb : 112 ≤ cb) (hm : ((bs.drop 0).take 80).take 8 = markB) (w : World) (hv : View w da0 (df.map vu8)) (hvb : View w ab (bs.map vu8)) :
  Cs Try.prog 7 [(.agg ⟨flat [(1, [(.bool id)]), (32, ms.map vu8), (1, [(.slice da0 n cap0)])]⟩), (.slice ab 112 cb)].toArray w (fun v w1 => v = (.bool true) ∧ Chg w w1 []) := by
 refine Cs.of (n := 111) (args := [(.agg ⟨flat [(1, [(.bool id)]), (32, ms.map vu8), (1, [(.slice da0 n cap0)])]⟩), (.slice ab 112 cb)]) Try.func7 rfl rfl rfl ?_
 have h_0 := HP.init w
 have h_01 := h_0.oldV (View.arg hv) rfl (by simp [Ent.mut])
 have h_00 := h_01.oldV (View.arg hvb) rfl (by simp [Ent.mut])
 refine WP.seq (WP.reg ?_)
 refine WL.box (v := (.agg ⟨flat [(1, [(.bool id)]), (32, ms.map vu8), (1, [(.slice da0 n cap0)])]⟩)) (segs := [(1, [(.bool id)]), (32, ms.map vu8), (1, [(.slice da0 n cap0)])]) h_00 rfl rfl (SsOk.cons (SOk.v rfl) (SsOk.cons (SOk.u8 hms) (SsOk.cons (SOk.v rfl) SsOk.nil))) rfl (fun b_1 w_2 h_3 => ?_)
 refine qA (.bool false) rfl rfl ?_
 refine WL.nil (thn_n (WP.seq (WP.seq (WP.reg ?_))))
 refine qV rfl (R.fieldAddr (b := b_1) (off := 0) (off' := 33) rfl Try.underlying26 rfl Try.sizeOf24 rfl rfl) (qV rfl (R.load1 (b := b_1) (off := 33) (v := (.slice da0 n cap0)) rfl Try.isAgg24 (h_3.ok _ M0) (Sg.t rfl (Sg.t rfl Sg.h))) (qV rfl (R.lenS (a := da0) (m := n) rfl rfl Try.underlying24) (qV rfl (R.bin rfl rfl (bi_gtr (r := decide ((((n : Nat) : Int) : Int) > 60)) rfl)) (qM (.bool (decide ((((n : Nat) : Int) : Int) > 60))) rfl rfl ?_))))
 rcases Bool.eq_false_or_eq_true (decide ((((n : Nat) : Int) : Int) > 60)) with c_4 | c_4
 ·have p_5 := of_decide_eq_true c_4
  refine WL.skip rfl (congrArg Value.bool c_4) rfl ?_
  refine WL.skip rfl (congrArg Value.bool c_4) rfl ?_
  refine WL.skip rfl (congrArg Value.bool c_4) rfl ?_
  refine qV rfl (R.pickT (v := (.bool true)) (congrArg Value.bool c_4) rfl) ?_
  refine WL.nil (thn_n ?_)
  refine WP.condT rfl ?_
  refine WP.seq (WP.reg ?_)
  refine WL.call Try.call11 rfl rfl (c_known19  _ ) rfl ?_
  rintro _ w_7 ⟨rfl, hc_6⟩
  have h_8 := h_3.same hc_6
  refine qA (.bool true) rfl rfl ?_
  refine WL.nil (thn_n (WP.ret (thn_r ?_)))
  refine ret_of Try.results7 (RV.tmp (v := (.bool true)) rfl RV.nil) ?_
  exact ⟨rfl, h_8.chgS⟩
 ·have p_9 := of_decide_eq_false c_4
  refine WL.want rfl (congrArg Value.bool c_4) ?_
  refine qM (.slice ab 112 cb) rfl rfl ?_
  refine WL.want rfl (congrArg Value.bool c_4) ?_
  refine qV rfl (R.lenS (a := ab) (m := 112) rfl rfl Try.underlying37) ?_
  refine WL.want rfl (congrArg Value.bool c_4) ?_
  refine qV rfl (R.bin rfl rfl (bi_gtr (r := false) (by decide))) (qV rfl (R.pickF (v := (.bool false)) (congrArg Value.bool c_4) rfl) ?_)
  refine WL.nil (thn_n ?_)
  refine WP.condF rfl ?_
  refine WP.skip (thn_n (WP.seq (WP.reg ?_)))
  refine qV rfl (R.loadA (b := b_1) (off := 0) [] [(1, [(.bool id)]), (32, ms.map vu8), (1, [(.slice da0 n cap0)])] [] (cs := flat [(1, [(.bool id)]), (32, ms.map vu8), (1, [(.slice da0 n cap0)])]) rfl Try.isAgg26 Try.sizeOf26 (h_3.ok _ M0) rfl rfl rfl rfl) ?_
  have h_10 := h_3.up J2
  refine WL.call Try.call12 rfl rfl (c_both19 id ms df hms da0 n cap0 hl (by omega) _ h_10) rfl ?_
  rintro _ w_16 ⟨b_11, b_12, a_13, c_14, b_15, rfl, h_17⟩
  have h_18 := h_17.rowNil 111 67
  have h_19 := HP_logNil h_18
  refine qM (.tuple [(pO b_11 0), (pO b_15 0)].toArray) rfl rfl (qV rfl (R.extract rfl rfl) (qV rfl (R.extract rfl rfl) (qA (pO b_11 0) rfl rfl (qA (pO b_15 0) rfl rfl ?_))))
  refine WL.nil (thn_n (WP.seq (WP.reg ?_)))
  refine qM (.slice ab 112 cb) rfl rfl ?_
  refine WL.call Try.call18 rfl rfl (c_Spl_ok ab cb bs hbl (by omega) hm _ (viewV (h_19.ok _ M10))) rfl ?_
  rintro _ w_21 ⟨rfl, hc_20⟩
  have h_22 := h_19.same hc_20
  refine qM (.tuple [(.agg ⟨flat [(1, [(vu64 (ins_of ((bs.drop 0).take 80)))]), (32, (me_of ((bs.drop 0).take 80)).map vu8), (32, (ch_of ((bs.drop 0).take 80)).map vu8)]⟩), (.agg ⟨((bs.drop 80).take 32).map vu8⟩), (vi 0)].toArray) rfl rfl (qV rfl (R.extract rfl rfl) (qV rfl (R.extract rfl rfl) (qV rfl (R.extract rfl rfl) ?_)))
  refine WL.alloc (segs := [(1, [(vu64 0)]), (32, (List.replicate 32 (0 : UInt8)).map vu8), (32, (List.replicate 32 (0 : UInt8)).map vu8)]) h_22 (zv Try.typeInfo30 rfl) rfl (SsOk.cons (SOk.v rfl) (SsOk.cons (SOk.u8 lr) (SsOk.cons (SOk.u8 lr) SsOk.nil))) rfl (fun b_23 w_24 h_25 => ?_)
  refine WL.alloc (segs := [(32, (List.replicate 32 (0 : UInt8)).map vu8)]) h_25 (zv Try.typeInfo23 rfl) rfl (SsOk.cons (SOk.u8 lr) SsOk.nil) rfl (fun b_26 w_27 h_28 => ?_)
  refine WL.storeA (b := b_23) (off := 0) [] [(1, [(vu64 0)]), (32, (List.replicate 32 (0 : UInt8)).map vu8), (32, (List.replicate 32 (0 : UInt8)).map vu8)] [(1, [(vu64 (ins_of ((bs.drop 0).take 80)))]), (32, (me_of ((bs.drop 0).take 80)).map vu8), (32, (ch_of ((bs.drop 0).take 80)).map vu8)] [] (ys := flat [(1, [(vu64 (ins_of ((bs.drop 0).take 80)))]), (32, (me_of ((bs.drop 0).take 80)).map vu8), (32, (ch_of ((bs.drop 0).take 80)).map vu8)]) h_28 rfl rfl Try.sizeOf30 Y1 (by decide) rfl rfl rfl rfl rfl rfl (SsOk.cons (SOk.v rfl) (SsOk.cons (SOk.u8 (me_len (by simp only [List.length_take, List.length_drop, hbl]; decide))) (SsOk.cons (SOk.u8 (ch_len (by simp only [List.length_take, List.length_drop, hbl]; decide))) SsOk.nil))) (fun w_29 h_30 => ?_)
  refine WL.storeA (b := b_26) (off := 0) [] [(32, (List.replicate 32 (0 : UInt8)).map vu8)] [(32, ((bs.drop 80).take 32).map vu8)] [] (ys := ((bs.drop 80).take 32).map vu8) h_30 rfl rfl Try.sizeOf23 At.h (by decide) rfl rfl rfl rfl rfl rfl (SsOk.cons (SOk.u8 (by simp only [List.length_take, List.length_drop, hbl]; decide)) SsOk.nil) (fun w_31 h_32 => ?_)
  refine qA (vi 0) rfl rfl ?_
  refine WL.nil (thn_n (WP.seq (WP.reg ?_)))
  refine qM (pO b_11 0) rfl rfl (qM (.slice ab 112 cb) rfl rfl ?_)
  have h_39 := (((((h_32.up J12).up J9).up J4).up J8).up J6).up J7
  refine WL.call Try.call15 rfl rfl (c_Ver id b_11 b_12 ms df hms a_13 n c_14 0 hl none 0 [] ([] : Lg) (by first | decide | exact Nat.le_trans (tgU_le ..) (by decide) | exact Nat.le_trans (anU_le ..) (Nat.le_trans (Nat.succ_le_succ (tgU_le ..)) (by decide))) (by first | decide | exact Nat.le_trans (tgL_le ..) (by decide) | exact Nat.le_trans (anL_le ..) (Nat.le_trans (Nat.succ_le_succ (tgL_le ..)) (by decide))) ab cb bs hbl (by omega) hm _ h_39) rfl ?_
  rintro _ w_43 ⟨la_40, lc_41, lx_42, rfl, h_44⟩
  refine qM (.tuple [(.agg ⟨flat [(1, [(vu64 (ins_of ((bs.drop 0).take 80)))]), (32, (me_of ((bs.drop 0).take 80)).map vu8), (32, (ch_of ((bs.drop 0).take 80)).map vu8)]⟩), (.bool (decide (tgD id df n 0 ([] : Lg) ms ((bs.drop 0).take 80) = (bs.drop 80).take 32))), (vi 0)].toArray) rfl rfl (qV rfl (R.extract rfl rfl) (qV rfl (R.extract rfl rfl) (qV rfl (R.extract rfl rfl) ?_)))
  refine WL.alloc (segs := [(1, [(vu64 0)]), (32, (List.replicate 32 (0 : UInt8)).map vu8), (32, (List.replicate 32 (0 : UInt8)).map vu8)]) h_44 (zv Try.typeInfo30 rfl) rfl (SsOk.cons (SOk.v rfl) (SsOk.cons (SOk.u8 lr) (SsOk.cons (SOk.u8 lr) SsOk.nil))) rfl (fun b_45 w_46 h_47 => ?_)
  refine WL.storeA (b := b_45) (off := 0) [] [(1, [(vu64 0)]), (32, (List.replicate 32 (0 : UInt8)).map vu8), (32, (List.replicate 32 (0 : UInt8)).map vu8)] [(1, [(vu64 (ins_of ((bs.drop 0).take 80)))]), (32, (me_of ((bs.drop 0).take 80)).map vu8), (32, (ch_of ((bs.drop 0).take 80)).map vu8)] [] (ys := flat [(1, [(vu64 (ins_of ((bs.drop 0).take 80)))]), (32, (me_of ((bs.drop 0).take 80)).map vu8), (32, (ch_of ((bs.drop 0).take 80)).map vu8)]) h_47 rfl rfl Try.sizeOf30 At.h (by decide) rfl rfl rfl rfl rfl rfl (SsOk.cons (SOk.v rfl) (SsOk.cons (SOk.u8 (me_len (by simp only [List.length_take, List.length_drop, hbl]; decide))) (SsOk.cons (SOk.u8 (ch_len (by simp only [List.length_take, List.length_drop, hbl]; decide))) SsOk.nil))) (fun w_48 h_49 => ?_)
  refine qA (.bool (decide (tgD id df n 0 ([] : Lg) ms ((bs.drop 0).take 80) = (bs.drop 80).take 32))) rfl rfl (qA (vi 0) rfl rfl ?_)
  refine WL.nil (thn_n (WP.seq (WP.reg ?_)))
  refine qM (.slice ab 112 cb) rfl rfl ?_
  refine WL.call Try.call26 rfl rfl (c_rSpl_ok ab cb bs hbl (by omega) hm _ (viewV (h_49.ok _ M6))) rfl ?_
  rintro _ w_51 ⟨rfl, hc_50⟩
  have h_52 := h_49.same hc_50
  refine qM (.tuple [(.agg ⟨flat [(1, [(vu64 (ins_of ((bs.drop 0).take 80)))]), (32, (me_of ((bs.drop 0).take 80)).map vu8), (32, (ch_of ((bs.drop 0).take 80)).map vu8)]⟩), (.agg ⟨((bs.drop 80).take 32).map vu8⟩), (.bool true)].toArray) rfl rfl (qV rfl (R.extract rfl rfl) (qV rfl (R.extract rfl rfl) (qV rfl (R.extract rfl rfl) ?_)))
  refine WL.alloc (segs := [(1, [(vu64 0)]), (32, (List.replicate 32 (0 : UInt8)).map vu8), (32, (List.replicate 32 (0 : UInt8)).map vu8)]) h_52 (zv Try.typeInfo30 rfl) rfl (SsOk.cons (SOk.v rfl) (SsOk.cons (SOk.u8 lr) (SsOk.cons (SOk.u8 lr) SsOk.nil))) rfl (fun b_53 w_54 h_55 => ?_)
  refine WL.alloc (segs := [(32, (List.replicate 32 (0 : UInt8)).map vu8)]) h_55 (zv Try.typeInfo23 rfl) rfl (SsOk.cons (SOk.u8 lr) SsOk.nil) rfl (fun b_56 w_57 h_58 => ?_)
  refine WL.storeA (b := b_53) (off := 0) [] [(1, [(vu64 0)]), (32, (List.replicate 32 (0 : UInt8)).map vu8), (32, (List.replicate 32 (0 : UInt8)).map vu8)] [(1, [(vu64 (ins_of ((bs.drop 0).take 80)))]), (32, (me_of ((bs.drop 0).take 80)).map vu8), (32, (ch_of ((bs.drop 0).take 80)).map vu8)] [] (ys := flat [(1, [(vu64 (ins_of ((bs.drop 0).take 80)))]), (32, (me_of ((bs.drop 0).take 80)).map vu8), (32, (ch_of ((bs.drop 0).take 80)).map vu8)]) h_58 rfl rfl Try.sizeOf30 Y1 (by decide) rfl rfl rfl rfl rfl rfl (SsOk.cons (SOk.v rfl) (SsOk.cons (SOk.u8 (me_len (by simp only [List.length_take, List.length_drop, hbl]; decide))) (SsOk.cons (SOk.u8 (ch_len (by simp only [List.length_take, List.length_drop, hbl]; decide))) SsOk.nil))) (fun w_59 h_60 => ?_)
  refine WL.storeA (b := b_56) (off := 0) [] [(32, (List.replicate 32 (0 : UInt8)).map vu8)] [(32, ((bs.drop 80).take 32).map vu8)] [] (ys := ((bs.drop 80).take 32).map vu8) h_60 rfl rfl Try.sizeOf23 At.h (by decide) rfl rfl rfl rfl rfl rfl (SsOk.cons (SOk.u8 (by simp only [List.length_take, List.length_drop, hbl]; decide)) SsOk.nil) (fun w_61 h_62 => ?_)
  refine qA (.bool true) rfl rfl ?_
  refine WL.nil (thn_n (WP.seq (WP.seq (WP.reg ?_))))
  refine qV rfl (R.loadA (b := b_23) (off := 0) [] [(1, [(vu64 (ins_of ((bs.drop 0).take 80)))]), (32, (me_of ((bs.drop 0).take 80)).map vu8), (32, (ch_of ((bs.drop 0).take 80)).map vu8)] [] (cs := flat [(1, [(vu64 (ins_of ((bs.drop 0).take 80)))]), (32, (me_of ((bs.drop 0).take 80)).map vu8), (32, (ch_of ((bs.drop 0).take 80)).map vu8)]) rfl Try.isAgg30 Try.sizeOf30 (h_62.ok _ M10) rfl rfl rfl rfl) (qV rfl (R.loadA (b := b_53) (off := 0) [] [(1, [(vu64 (ins_of ((bs.drop 0).take 80)))]), (32, (me_of ((bs.drop 0).take 80)).map vu8), (32, (ch_of ((bs.drop 0).take 80)).map vu8)] [] (cs := flat [(1, [(vu64 (ins_of ((bs.drop 0).take 80)))]), (32, (me_of ((bs.drop 0).take 80)).map vu8), (32, (ch_of ((bs.drop 0).take 80)).map vu8)]) rfl Try.isAgg30 Try.sizeOf30 (h_62.ok _ M1) rfl rfl rfl rfl) (qV rfl (R.neA (xs := flat [(1, [(vu64 (ins_of ((bs.drop 0).take 80)))]), (32, (me_of ((bs.drop 0).take 80)).map vu8), (32, (ch_of ((bs.drop 0).take 80)).map vu8)]) (ys := flat [(1, [(vu64 (ins_of ((bs.drop 0).take 80)))]), (32, (me_of ((bs.drop 0).take 80)).map vu8), (32, (ch_of ((bs.drop 0).take 80)).map vu8)]) (r := false) rfl rfl Try.eqGuardType30 kt30 (by decide) ag30 (Typ.struct (h := 2) (r := [(1, [(vu64 (ins_of ((bs.drop 0).take 80)))]), (32, (me_of ((bs.drop 0).take 80)).map vu8), (32, (ch_of ((bs.drop 0).take 80)).map vu8)]) (cs := flat [(1, [(vu64 (ins_of ((bs.drop 0).take 80)))]), (32, (me_of ((bs.drop 0).take 80)).map vu8), (32, (ch_of ((bs.drop 0).take 80)).map vu8)]) Try.underlying30 (TypF.cons (k := 1) rfl rfl (by decide) rfl (Typ.int Try.underlying28 ce28 (wfu64 (ins_of ((bs.drop 0).take 80)))) (TypF.cons (k := 32) rfl rfl (by decide) (len_map (me_len (by simp only [List.length_take, List.length_drop, hbl]; decide))) (Typ.u8s Try.underlying23 ce23 Try.underlying5 ce5 (me_len (by simp only [List.length_take, List.length_drop, hbl]; decide))) (TypF.cons (k := 32) rfl rfl (by decide) (len_map (ch_len (by simp only [List.length_take, List.length_drop, hbl]; decide))) (Typ.u8s Try.underlying23 ce23 Try.underlying5 ce5 (ch_len (by simp only [List.length_take, List.length_drop, hbl]; decide))) TypF.nil))) rfl (((SsOk.cons (SOk.v rfl) (SsOk.cons (SOk.u8 (me_len (by simp only [List.length_take, List.length_drop, hbl]; decide))) (SsOk.cons (SOk.u8 (ch_len (by simp only [List.length_take, List.length_drop, hbl]; decide))) SsOk.nil)))).len.trans ce30.symm)) (Typ.struct (h := 2) (r := [(1, [(vu64 (ins_of ((bs.drop 0).take 80)))]), (32, (me_of ((bs.drop 0).take 80)).map vu8), (32, (ch_of ((bs.drop 0).take 80)).map vu8)]) (cs := flat [(1, [(vu64 (ins_of ((bs.drop 0).take 80)))]), (32, (me_of ((bs.drop 0).take 80)).map vu8), (32, (ch_of ((bs.drop 0).take 80)).map vu8)]) Try.underlying30 (TypF.cons (k := 1) rfl rfl (by decide) rfl (Typ.int Try.underlying28 ce28 (wfu64 (ins_of ((bs.drop 0).take 80)))) (TypF.cons (k := 32) rfl rfl (by decide) (len_map (me_len (by simp only [List.length_take, List.length_drop, hbl]; decide))) (Typ.u8s Try.underlying23 ce23 Try.underlying5 ce5 (me_len (by simp only [List.length_take, List.length_drop, hbl]; decide))) (TypF.cons (k := 32) rfl rfl (by decide) (len_map (ch_len (by simp only [List.length_take, List.length_drop, hbl]; decide))) (Typ.u8s Try.underlying23 ce23 Try.underlying5 ce5 (ch_len (by simp only [List.length_take, List.length_drop, hbl]; decide))) TypF.nil))) rfl (((SsOk.cons (SOk.v rfl) (SsOk.cons (SOk.u8 (me_len (by simp only [List.length_take, List.length_drop, hbl]; decide))) (SsOk.cons (SOk.u8 (ch_len (by simp only [List.length_take, List.length_drop, hbl]; decide))) SsOk.nil)))).len.trans ce30.symm)) (neT rfl)) (qM (.bool false) rfl rfl ?_)))
  refine WL.want rfl rfl ?_
  refine qV rfl (R.loadA (b := b_26) (off := 0) [] [(32, ((bs.drop 80).take 32).map vu8)] [] (cs := ((bs.drop 80).take 32).map vu8) rfl Try.isAgg23 Try.sizeOf23 (h_62.ok _ M9) rfl rfl rfl rfl) ?_
  refine WL.want rfl rfl ?_
  refine qV rfl (R.loadA (b := b_56) (off := 0) [] [(32, ((bs.drop 80).take 32).map vu8)] [] (cs := ((bs.drop 80).take 32).map vu8) rfl Try.isAgg23 Try.sizeOf23 (h_62.ok _ M0) rfl rfl rfl rfl) ?_
  refine WL.want rfl rfl ?_
  refine qV rfl (R.neA (xs := ((bs.drop 80).take 32).map vu8) (ys := ((bs.drop 80).take 32).map vu8) (r := false) rfl rfl Try.eqGuardType23 kt23 (by decide) ag23 (Typ.u8s Try.underlying23 ce23 Try.underlying5 ce5 (by simp only [List.length_take, List.length_drop, hbl]; decide)) (Typ.u8s Try.underlying23 ce23 Try.underlying5 ce5 (by simp only [List.length_take, List.length_drop, hbl]; decide)) (neT rfl)) (qV rfl (R.pickF (v := (.bool false)) rfl rfl) (qM (.bool false) rfl rfl ?_))
  refine WL.want rfl rfl ?_
  refine qV rfl (R.loadA (b := b_45) (off := 0) [] [(1, [(vu64 (ins_of ((bs.drop 0).take 80)))]), (32, (me_of ((bs.drop 0).take 80)).map vu8), (32, (ch_of ((bs.drop 0).take 80)).map vu8)] [] (cs := flat [(1, [(vu64 (ins_of ((bs.drop 0).take 80)))]), (32, (me_of ((bs.drop 0).take 80)).map vu8), (32, (ch_of ((bs.drop 0).take 80)).map vu8)]) rfl Try.isAgg30 Try.sizeOf30 (h_62.ok _ M2) rfl rfl rfl rfl) ?_
  refine WL.want rfl rfl ?_
  refine qV rfl (R.loadA (b := b_53) (off := 0) [] [(1, [(vu64 (ins_of ((bs.drop 0).take 80)))]), (32, (me_of ((bs.drop 0).take 80)).map vu8), (32, (ch_of ((bs.drop 0).take 80)).map vu8)] [] (cs := flat [(1, [(vu64 (ins_of ((bs.drop 0).take 80)))]), (32, (me_of ((bs.drop 0).take 80)).map vu8), (32, (ch_of ((bs.drop 0).take 80)).map vu8)]) rfl Try.isAgg30 Try.sizeOf30 (h_62.ok _ M1) rfl rfl rfl rfl) ?_
  refine WL.want rfl rfl ?_
  refine qV rfl (R.neA (xs := flat [(1, [(vu64 (ins_of ((bs.drop 0).take 80)))]), (32, (me_of ((bs.drop 0).take 80)).map vu8), (32, (ch_of ((bs.drop 0).take 80)).map vu8)]) (ys := flat [(1, [(vu64 (ins_of ((bs.drop 0).take 80)))]), (32, (me_of ((bs.drop 0).take 80)).map vu8), (32, (ch_of ((bs.drop 0).take 80)).map vu8)]) (r := false) rfl rfl Try.eqGuardType30 kt30 (by decide) ag30 (Typ.struct (h := 2) (r := [(1, [(vu64 (ins_of ((bs.drop 0).take 80)))]), (32, (me_of ((bs.drop 0).take 80)).map vu8), (32, (ch_of ((bs.drop 0).take 80)).map vu8)]) (cs := flat [(1, [(vu64 (ins_of ((bs.drop 0).take 80)))]), (32, (me_of ((bs.drop 0).take 80)).map vu8), (32, (ch_of ((bs.drop 0).take 80)).map vu8)]) Try.underlying30 (TypF.cons (k := 1) rfl rfl (by decide) rfl (Typ.int Try.underlying28 ce28 (wfu64 (ins_of ((bs.drop 0).take 80)))) (TypF.cons (k := 32) rfl rfl (by decide) (len_map (me_len (by simp only [List.length_take, List.length_drop, hbl]; decide))) (Typ.u8s Try.underlying23 ce23 Try.underlying5 ce5 (me_len (by simp only [List.length_take, List.length_drop, hbl]; decide))) (TypF.cons (k := 32) rfl rfl (by decide) (len_map (ch_len (by simp only [List.length_take, List.length_drop, hbl]; decide))) (Typ.u8s Try.underlying23 ce23 Try.underlying5 ce5 (ch_len (by simp only [List.length_take, List.length_drop, hbl]; decide))) TypF.nil))) rfl (((SsOk.cons (SOk.v rfl) (SsOk.cons (SOk.u8 (me_len (by simp only [List.length_take, List.length_drop, hbl]; decide))) (SsOk.cons (SOk.u8 (ch_len (by simp only [List.length_take, List.length_drop, hbl]; decide))) SsOk.nil)))).len.trans ce30.symm)) (Typ.struct (h := 2) (r := [(1, [(vu64 (ins_of ((bs.drop 0).take 80)))]), (32, (me_of ((bs.drop 0).take 80)).map vu8), (32, (ch_of ((bs.drop 0).take 80)).map vu8)]) (cs := flat [(1, [(vu64 (ins_of ((bs.drop 0).take 80)))]), (32, (me_of ((bs.drop 0).take 80)).map vu8), (32, (ch_of ((bs.drop 0).take 80)).map vu8)]) Try.underlying30 (TypF.cons (k := 1) rfl rfl (by decide) rfl (Typ.int Try.underlying28 ce28 (wfu64 (ins_of ((bs.drop 0).take 80)))) (TypF.cons (k := 32) rfl rfl (by decide) (len_map (me_len (by simp only [List.length_take, List.length_drop, hbl]; decide))) (Typ.u8s Try.underlying23 ce23 Try.underlying5 ce5 (me_len (by simp only [List.length_take, List.length_drop, hbl]; decide))) (TypF.cons (k := 32) rfl rfl (by decide) (len_map (ch_len (by simp only [List.length_take, List.length_drop, hbl]; decide))) (Typ.u8s Try.underlying23 ce23 Try.underlying5 ce5 (ch_len (by simp only [List.length_take, List.length_drop, hbl]; decide))) TypF.nil))) rfl (((SsOk.cons (SOk.v rfl) (SsOk.cons (SOk.u8 (me_len (by simp only [List.length_take, List.length_drop, hbl]; decide))) (SsOk.cons (SOk.u8 (ch_len (by simp only [List.length_take, List.length_drop, hbl]; decide))) SsOk.nil)))).len.trans ce30.symm)) (neT rfl)) (qV rfl (R.pickF (v := (.bool false)) rfl rfl) ?_)
  refine WL.nil (thn_n ?_)
  refine WP.condF rfl ?_
  refine WP.skip (thn_n (WP.seq (WP.seq (WP.reg ?_))))
  refine qM (.bool true) rfl rfl (qV rfl (R.not (b := true) rfl) ?_)
  refine WL.nil (thn_n ?_)
  refine WP.condF rfl ?_
  refine WP.skip (thn_n (WP.seq ?_))
  refine WP.cutG (G := Option Addr × Nat × Option Addr × Nat × List Value × List Value) [4, 86, 87, 88, 89, 90, 91, 92, 93, 94, 95, 96, 97, 98, 99, 100, 101, 102, 103, 104, 105, 106, 107, 108, 109, 110] (fun (aY11Y15Y0Y0, cY11Y15Y0Y0, laY11Y3Y0Y0, lcY11Y3Y0Y0, ysY11Y15Y0Y0, lxY11Y3Y0Y0) => [(4, (.bool true)), (86, (.bool (decide (tgD id df n 0 ([] : Lg) ms ((bs.drop 0).take 80) = (bs.drop 80).take 32)))), (87, (pO b_15 0)), (88, (.slice ab 112 cb)), (89, (.bool (decide (tgD id df n 0 ([] : Lg) ms ((bs.drop 0).take 80) = (bs.drop 80).take 32)))), (90, (.bool true)), (91, (.bool true)), (92, (vi 0)), (94, (vi 0)), (93, (vi 0)), (95, (vi 0)), (96, (vi 0)), (97, (.bool true)), (98, (.bool true)), (99, (.bool true)), (100, (pO b_11 0)), (102, (pO b_15 0)), (103, (pO b_15 0)), (104, (pO b_15 35)), (101, (.slice aY11Y15Y0Y0 ((tgL id df n 0 ([] : Lg) ms ((bs.drop 0).take 80)).length) cY11Y15Y0Y0)), (105, (.slice laY11Y3Y0Y0 ((tgL id df n 0 ([] : Lg) ms ((bs.drop 0).take 80)).length) lcY11Y3Y0Y0)), (106, (.bool true)), (107, (.bool true)), (108, (.bool true)), (109, (.bool true)), (110, (.bool true))]) (fun (aY11Y15Y0Y0, cY11Y15Y0Y0, laY11Y3Y0Y0, lcY11Y3Y0Y0, ysY11Y15Y0Y0, lxY11Y3Y0Y0) w1 => HP w w1 [.row aY11Y15Y0Y0 ((tgL id df n 0 ([] : Lg) ms ((bs.drop 0).take 80)).length) cY11Y15Y0Y0 111 67 ysY11Y15Y0Y0, .pin (sblks ysY11Y15Y0Y0) (fun w => Lgs w ysY11Y15Y0Y0 (tgL id df n 0 ([] : Lg) ms ((bs.drop 0).take 80))), .blk b_11 .nw 50 [(1, [(.bool id)]), (32, ms.map vu8), (1, [(.slice a_13 n c_14)]), (1, [(vn ((tgU id df n 0 ([] : Lg) ms ((bs.drop 0).take 80))))]), (1, [(.map (some b_12))]), (1, [(.slice la_40 ((tgL id df n 0 ([] : Lg) ms ((bs.drop 0).take 80)).length) lc_41)])], .row la_40 ((tgL id df n 0 ([] : Lg) ms ((bs.drop 0).take 80)).length) lc_41 111 67 lx_42, .obj b_12 .nw (.map (mArr (tgL id df n 0 ([] : Lg) ms ((bs.drop 0).take 80))) ((tgL id df n 0 ([] : Lg) ms ((bs.drop 0).take 80)).length)), .pin (sblks lx_42) (fun w => Lgs w lx_42 (tgL id df n 0 ([] : Lg) ms ((bs.drop 0).take 80))), .view a_13 (df.map vu8), .blk b_15 .nw 64 [(1, [(.bool id)]), (32, ms.map vu8), (1, [(.slice da0 n cap0)]), (1, [(vn ((tgU id df n 0 ([] : Lg) ms ((bs.drop 0).take 80))))]), (1, [(.slice laY11Y3Y0Y0 ((tgL id df n 0 ([] : Lg) ms ((bs.drop 0).take 80)).length) lcY11Y3Y0Y0)])], .row laY11Y3Y0Y0 ((tgL id df n 0 ([] : Lg) ms ((bs.drop 0).take 80)).length) lcY11Y3Y0Y0 111 67 lxY11Y3Y0Y0, .pin (sblks lxY11Y3Y0Y0) (fun w => Lgs w lxY11Y3Y0Y0 (tgL id df n 0 ([] : Lg) ms ((bs.drop 0).take 80))), .view da0 (df.map vu8), .view ab (bs.map vu8), .blk b_56 .nw 23 [(32, ((bs.drop 80).take 32).map vu8)], .blk b_53 .nw 30 [(1, [(vu64 (ins_of ((bs.drop 0).take 80)))]), (32, (me_of ((bs.drop 0).take 80)).map vu8), (32, (ch_of ((bs.drop 0).take 80)).map vu8)], .blk b_45 .nw 30 [(1, [(vu64 (ins_of ((bs.drop 0).take 80)))]), (32, (me_of ((bs.drop 0).take 80)).map vu8), (32, (ch_of ((bs.drop 0).take 80)).map vu8)], .blk b_26 .nw 23 [(32, ((bs.drop 80).take 32).map vu8)], .blk b_23 .nw 30 [(1, [(vu64 (ins_of ((bs.drop 0).take 80)))]), (32, (me_of ((bs.drop 0).take 80)).map vu8), (32, (ch_of ((bs.drop 0).take 80)).map vu8)], .blk b_1 .nw 26 [(1, [(.bool id)]), (32, ms.map vu8), (1, [(.slice da0 n cap0)])]]) ?_ ?_
  ·refine WP.drawT (SL w.heap.size [.blk b_56 .nw 23 [(32, ((bs.drop 80).take 32).map vu8)], .blk b_53 .nw 30 [(1, [(vu64 (ins_of ((bs.drop 0).take 80)))]), (32, (me_of ((bs.drop 0).take 80)).map vu8), (32, (ch_of ((bs.drop 0).take 80)).map vu8)], .blk b_45 .nw 30 [(1, [(vu64 (ins_of ((bs.drop 0).take 80)))]), (32, (me_of ((bs.drop 0).take 80)).map vu8), (32, (ch_of ((bs.drop 0).take 80)).map vu8)], .blk b_11 .nw 50 [(1, [(.bool id)]), (32, ms.map vu8), (1, [(.slice a_13 n c_14)]), (1, [(vn ((tgU id df n 0 ([] : Lg) ms ((bs.drop 0).take 80))))]), (1, [(.map (some b_12))]), (1, [(.slice la_40 ((tgL id df n 0 ([] : Lg) ms ((bs.drop 0).take 80)).length) lc_41)])], .row la_40 ((tgL id df n 0 ([] : Lg) ms ((bs.drop 0).take 80)).length) lc_41 111 67 lx_42, .obj b_12 .nw (.map (mArr (tgL id df n 0 ([] : Lg) ms ((bs.drop 0).take 80))) ((tgL id df n 0 ([] : Lg) ms ((bs.drop 0).take 80)).length)), .pin (sblks lx_42) (fun w => Lgs w lx_42 (tgL id df n 0 ([] : Lg) ms ((bs.drop 0).take 80))), .view a_13 (df.map vu8), .view ab (bs.map vu8), .blk b_26 .nw 23 [(32, ((bs.drop 80).take 32).map vu8)], .blk b_23 .nw 30 [(1, [(vu64 (ins_of ((bs.drop 0).take 80)))]), (32, (me_of ((bs.drop 0).take 80)).map vu8), (32, (ch_of ((bs.drop 0).take 80)).map vu8)], .blk b_1 .nw 26 [(1, [(.bool id)]), (32, ms.map vu8), (1, [(.slice da0 n cap0)])]]) (.q 0 (.q 1 (.q 2 (.s 3 (.q 4 (.q 5 (.q 6 (.q 8 (.s 7 (.s 9 (.q 10 (.q 11 (.q 12 (.q 13 (.q 14 (.q 16 (.q 17 (.q 18 (.s2 15 19 (.s 19 (.s 20 (.q 21 (.q 22 (.s 23 (.q 24 (.q 25 .nil))))))) (.s 15 (.s 20 (.q 21 (.q 22 (.s 23 (.q 24 (.q 25 .nil)))))))))))))))))))))))))) (by kernel_rfl) (by kernel_rfl) rfl (by kernel_rfl) (fun w_63 hc_65 => (SL.cons ((h_62.same hc_65).ok _ M0) (SL.cons ((h_62.same hc_65).ok _ M1) (SL.cons ((h_62.same hc_65).ok _ M2) (SL.cons ((h_62.same hc_65).ok _ M3) (SL.cons ((h_62.same hc_65).ok _ M4) (SL.cons ((h_62.same hc_65).ok _ M5) (SL.cons ((h_62.same hc_65).ok _ M6) (SL.cons ((h_62.same hc_65).ok _ M7) (SL.cons ((h_62.same hc_65).ok _ M8) (SL.cons ((h_62.same hc_65).ok _ M9) (SL.cons ((h_62.same hc_65).ok _ M10) (SL.cons ((h_62.same hc_65).ok _ M15) (SL.nil _ _)))))))))))))) (fun w_63 hc_65 => ?_)
   have h_64 := h_62.same hc_65
   refine qT rfl rfl (fun wq hS => R.move (v := (.bool (decide (tgD id df n 0 ([] : Lg) ms ((bs.drop 0).take 80) = (bs.drop 80).take 32)))) rfl) ?_
   refine qT rfl rfl (fun wq hS => R.move (v := (pO b_15 0)) rfl) ?_
   refine qT rfl rfl (fun wq hS => R.move (v := (.slice ab 112 cb)) rfl) ?_
   refine WT.s (Op1.one rfl (Wn.no rfl) ?_)
   have h_70 := ((((h_64.up J8).up J14).up J13).up J13).up J14
   refine WL.call Try.call27 rfl rfl (c_rVer id b_15 ms df hms da0 n cap0 0 hl none 0 [] ([] : Lg) (by first | decide | exact Nat.le_trans (tgU_le ..) (by decide) | exact Nat.le_trans (anU_le ..) (Nat.le_trans (Nat.succ_le_succ (tgU_le ..)) (by decide))) (by first | decide | exact Nat.le_trans (tgL_le ..) (by decide) | exact Nat.le_trans (anL_le ..) (Nat.le_trans (Nat.succ_le_succ (tgL_le ..)) (by decide))) ab cb bs hbl (by omega) hm _ h_70) rfl ?_
   rintro _ w_74 ⟨la_71, lc_72, lx_73, rfl, h_75⟩
   refine WL.nil ?_
   refine ⟨(SL.cons (h_75.ok _ M5) (SL.cons (h_75.ok _ M6) (SL.cons (h_75.ok _ M7) (SL.cons (h_75.ok _ M8) (SL.cons (h_75.ok _ M9) (SL.cons (h_75.ok _ M10) (SL.cons (h_75.ok _ M11) (SL.cons (h_75.ok _ M12) (SL.cons (h_75.ok _ M4) (SL.cons (h_75.ok _ M13) (SL.cons (h_75.ok _ M14) (SL.cons (h_75.ok _ M15) (SL.nil _ _))))))))))))), ?_⟩
   refine qT rfl rfl (fun wq hS => R.eqB (a := decide (tgD id df n 0 ([] : Lg) ms ((bs.drop 0).take 80) = (bs.drop 80).take 32)) (b := decide (tgD id df n 0 ([] : Lg) ms ((bs.drop 0).take 80) = (bs.drop 80).take 32)) (c := true) rfl rfl Try.underlying4 (by simp)) ?_
   refine qT rfl rfl (fun wq hS => R.move (v := (.bool true)) rfl) ?_
   refine WT.q rfl (Wn.yes rfl rfl rfl) rfl rfl (fun wq hS => R.move (v := (vi 0)) rfl) ?_
   refine WT.q rfl (Wn.yes rfl rfl rfl) rfl rfl (fun wq hS => R.move (v := (vi 0)) rfl) ?_
   refine WT.s ?_
   refine Op1.one rfl (Wn.yes rfl rfl rfl) ?_
   refine WL.call Try.call14 rfl rfl (c_num19 0 (by omega) _ ) rfl ?_
   rintro _ w_77 ⟨rfl, hc_76⟩
   have h_78 := h_75.same hc_76
   refine WL.nil ?_
   refine ⟨(SL.cons (h_78.ok _ M5) (SL.cons (h_78.ok _ M6) (SL.cons (h_78.ok _ M7) (SL.cons (h_78.ok _ M8) (SL.cons (h_78.ok _ M9) (SL.cons (h_78.ok _ M10) (SL.cons (h_78.ok _ M11) (SL.cons (h_78.ok _ M12) (SL.cons (h_78.ok _ M4) (SL.cons (h_78.ok _ M13) (SL.cons (h_78.ok _ M14) (SL.cons (h_78.ok _ M15) (SL.nil _ _))))))))))))), ?_⟩
   refine WT.s ?_
   refine Op1.one rfl (Wn.yes rfl rfl rfl) ?_
   refine WL.call Try.call14 rfl rfl (c_num19 0 (by omega) _ ) rfl ?_
   rintro _ w_80 ⟨rfl, hc_79⟩
   have h_81 := h_78.same hc_79
   refine WL.nil ?_
   refine ⟨(SL.cons (h_81.ok _ M5) (SL.cons (h_81.ok _ M6) (SL.cons (h_81.ok _ M7) (SL.cons (h_81.ok _ M8) (SL.cons (h_81.ok _ M9) (SL.cons (h_81.ok _ M10) (SL.cons (h_81.ok _ M11) (SL.cons (h_81.ok _ M12) (SL.cons (h_81.ok _ M4) (SL.cons (h_81.ok _ M13) (SL.cons (h_81.ok _ M14) (SL.cons (h_81.ok _ M15) (SL.nil _ _))))))))))))), ?_⟩
   refine WT.q rfl (Wn.yes rfl rfl rfl) rfl rfl (fun wq hS => R.bin rfl rfl (bi_add (c := 0) (by omega) (by omega))) ?_
   refine WT.q rfl (Wn.yes rfl rfl rfl) rfl rfl (fun wq hS => R.bin rfl rfl (bi_eql (r := true) (by decide))) ?_
   refine qT rfl rfl (fun wq hS => R.pickT (v := (.bool true)) rfl rfl) ?_
   refine qT rfl rfl (fun wq hS => R.move (v := (.bool true)) rfl) ?_
   refine WT.q rfl (Wn.yes rfl rfl rfl) rfl rfl (fun wq hS => R.move (v := (pO b_11 0)) rfl) ?_
   refine WT.q rfl (Wn.yes rfl rfl rfl) rfl rfl (fun wq hS => R.move (v := (pO b_15 0)) rfl) ?_
   refine WT.q rfl (Wn.yes rfl rfl rfl) rfl rfl (fun wq hS => R.nilCheck rfl) ?_
   refine WT.q rfl (Wn.yes rfl rfl rfl) rfl rfl (fun wq hS => R.fieldAddr (b := b_15) (off := 0) (off' := 35) rfl Try.underlying64 rfl Try.sizeOf48 rfl rfl) ?_
   refine WT.s2 ?_ ?_
   ·refine Op1.one rfl (Wn.yes rfl rfl rfl) ?_
    have h_86 := ((((h_81.up J12).up J12).up J12).up J12).up J12
    refine WL.call Try.call25 rfl rfl (c_oLog id b_11 b_12 ms df hms a_13 n c_14 (tgU id df n 0 ([] : Lg) ms ((bs.drop 0).take 80)) hl la_40 lc_41 lx_42 (tgL id df n 0 ([] : Lg) ms ((bs.drop 0).take 80)) (by first | decide | exact Nat.le_trans (tgU_le ..) (by decide) | exact Nat.le_trans (anU_le ..) (Nat.le_trans (Nat.succ_le_succ (tgU_le ..)) (by decide))) (by first | decide | exact Nat.le_trans (tgL_le ..) (by decide) | exact Nat.le_trans (anL_le ..) (Nat.le_trans (Nat.succ_le_succ (tgL_le ..)) (by decide))) _ h_86) rfl ?_
    rintro _ w_90 ⟨a_87, c_88, ys_89, rfl, h_91⟩
    refine WL.nil ?_
    refine ⟨(SL.cons (h_91.ok _ M12) (SL.cons (h_91.ok _ M13) (SL.cons (h_91.ok _ M14) (SL.cons (h_91.ok _ M2) (SL.cons (h_91.ok _ M3) (SL.cons (h_91.ok _ M4) (SL.cons (h_91.ok _ M5) (SL.cons (h_91.ok _ M6) (SL.cons (h_91.ok _ M11) (SL.cons (h_91.ok _ M15) (SL.cons (h_91.ok _ M16) (SL.cons (h_91.ok _ M17) (SL.nil _ _))))))))))))), ?_⟩
    refine WT.s ?_
    refine Op1.one rfl (Wn.yes rfl rfl rfl) ?_
    refine qV rfl (R.load1 (b := b_15) (off := 35) (v := (.slice la_71 ((tgL id df n 0 ([] : Lg) ms ((bs.drop 0).take 80)).length) lc_72)) rfl Try.isAgg48 (h_91.ok _ M7) (Sg.t rfl (Sg.t rfl (Sg.t rfl (Sg.t rfl Sg.h))))) ?_
    refine WL.nil ?_
    refine ⟨(SL.cons (h_91.ok _ M12) (SL.cons (h_91.ok _ M13) (SL.cons (h_91.ok _ M14) (SL.cons (h_91.ok _ M2) (SL.cons (h_91.ok _ M3) (SL.cons (h_91.ok _ M4) (SL.cons (h_91.ok _ M5) (SL.cons (h_91.ok _ M6) (SL.cons (h_91.ok _ M11) (SL.cons (h_91.ok _ M15) (SL.cons (h_91.ok _ M16) (SL.cons (h_91.ok _ M17) (SL.nil _ _))))))))))))), ?_⟩
    refine WT.s ?_
    refine Op1.one rfl (Wn.yes rfl rfl rfl) ?_
    refine WL.call Try.call24 rfl rfl (c_rSameLog a_87 ((tgL id df n 0 ([] : Lg) ms ((bs.drop 0).take 80)).length) c_88 ys_89 (tgL id df n 0 ([] : Lg) ms ((bs.drop 0).take 80)) rfl (Nat.le_trans (tgL_le ..) (by decide)) la_71 lc_72 lx_73 _ (ownView (h_91.ok _ M0)) (h_91.ok _ M1).1 (ownView (h_91.ok _ M8)) (h_91.ok _ M9).1) rfl ?_
    rintro _ w_93 ⟨rfl, hc_92⟩
    have h_94 := h_91.same hc_92
    refine WL.nil ?_
    refine ⟨(SL.cons (h_94.ok _ M12) (SL.cons (h_94.ok _ M13) (SL.cons (h_94.ok _ M14) (SL.cons (h_94.ok _ M2) (SL.cons (h_94.ok _ M3) (SL.cons (h_94.ok _ M4) (SL.cons (h_94.ok _ M5) (SL.cons (h_94.ok _ M6) (SL.cons (h_94.ok _ M11) (SL.cons (h_94.ok _ M15) (SL.cons (h_94.ok _ M16) (SL.cons (h_94.ok _ M17) (SL.nil _ _))))))))))))), ?_⟩
    refine qT rfl rfl (fun wq hS => R.pickT (v := (.bool true)) rfl (rfl)) ?_
    refine qT rfl rfl (fun wq hS => R.move (v := (.bool true)) rfl) ?_
    refine WT.s ?_
    refine Op1.one rfl (Wn.yes rfl rfl rfl) ?_
    refine WL.call Try.call11 rfl rfl (c_known19  _ ) rfl ?_
    rintro _ w_96 ⟨rfl, hc_95⟩
    have h_97 := h_94.same hc_95
    refine WL.nil ?_
    refine ⟨(SL.cons (h_97.ok _ M12) (SL.cons (h_97.ok _ M13) (SL.cons (h_97.ok _ M14) (SL.cons (h_97.ok _ M2) (SL.cons (h_97.ok _ M3) (SL.cons (h_97.ok _ M4) (SL.cons (h_97.ok _ M5) (SL.cons (h_97.ok _ M6) (SL.cons (h_97.ok _ M11) (SL.cons (h_97.ok _ M15) (SL.cons (h_97.ok _ M16) (SL.cons (h_97.ok _ M17) (SL.nil _ _))))))))))))), ?_⟩
    refine qT rfl rfl (fun wq hS => R.pickT (v := (.bool true)) rfl rfl) ?_
    refine qT rfl rfl (fun wq hS => R.assign (v := (.bool true)) rfl) ?_
    refine WT.nil (thn_n ?_)
    exact ⟨(a_87, c_88, la_71, lc_72, ys_89, lx_73), (U2 rfl rfl (U4 rfl rfl rfl rfl (U4 rfl rfl rfl rfl (U4 rfl rfl rfl rfl (U4 rfl rfl rfl rfl (U4 rfl rfl rfl rfl (U4 rfl rfl rfl rfl (Ag.refl _ _)))))))), ⟨rfl, rfl, rfl, rfl, rfl, rfl, rfl, rfl, rfl, rfl, rfl, rfl, rfl, rfl, rfl, rfl, rfl, rfl, rfl, rfl, rfl, (rfl), rfl, rfl, rfl, rfl, trivial⟩, h_97⟩
   ·refine Op1.one rfl (Wn.yes rfl rfl rfl) ?_
    refine qV rfl (R.load1 (b := b_15) (off := 35) (v := (.slice la_71 ((tgL id df n 0 ([] : Lg) ms ((bs.drop 0).take 80)).length) lc_72)) rfl Try.isAgg48 (h_81.ok _ M0) (Sg.t rfl (Sg.t rfl (Sg.t rfl (Sg.t rfl Sg.h))))) ?_
    refine WL.nil ?_
    refine ⟨(SL.cons (h_81.ok _ M5) (SL.cons (h_81.ok _ M6) (SL.cons (h_81.ok _ M7) (SL.cons (h_81.ok _ M8) (SL.cons (h_81.ok _ M9) (SL.cons (h_81.ok _ M10) (SL.cons (h_81.ok _ M11) (SL.cons (h_81.ok _ M12) (SL.cons (h_81.ok _ M4) (SL.cons (h_81.ok _ M13) (SL.cons (h_81.ok _ M14) (SL.cons (h_81.ok _ M15) (SL.nil _ _))))))))))))), ?_⟩
    refine WT.s ?_
    refine Op1.one rfl (Wn.yes rfl rfl rfl) ?_
    have h_102 := ((((h_81.up J12).up J12).up J12).up J12).up J12
    refine WL.call Try.call25 rfl rfl (c_oLog id b_11 b_12 ms df hms a_13 n c_14 (tgU id df n 0 ([] : Lg) ms ((bs.drop 0).take 80)) hl la_40 lc_41 lx_42 (tgL id df n 0 ([] : Lg) ms ((bs.drop 0).take 80)) (by first | decide | exact Nat.le_trans (tgU_le ..) (by decide) | exact Nat.le_trans (anU_le ..) (Nat.le_trans (Nat.succ_le_succ (tgU_le ..)) (by decide))) (by first | decide | exact Nat.le_trans (tgL_le ..) (by decide) | exact Nat.le_trans (anL_le ..) (Nat.le_trans (Nat.succ_le_succ (tgL_le ..)) (by decide))) _ h_102) rfl ?_
    rintro _ w_106 ⟨a_103, c_104, ys_105, rfl, h_107⟩
    refine WL.nil ?_
    refine ⟨(SL.cons (h_107.ok _ M12) (SL.cons (h_107.ok _ M13) (SL.cons (h_107.ok _ M14) (SL.cons (h_107.ok _ M2) (SL.cons (h_107.ok _ M3) (SL.cons (h_107.ok _ M4) (SL.cons (h_107.ok _ M5) (SL.cons (h_107.ok _ M6) (SL.cons (h_107.ok _ M11) (SL.cons (h_107.ok _ M15) (SL.cons (h_107.ok _ M16) (SL.cons (h_107.ok _ M17) (SL.nil _ _))))))))))))), ?_⟩
    refine WT.s ?_
    refine Op1.one rfl (Wn.yes rfl rfl rfl) ?_
    refine WL.call Try.call24 rfl rfl (c_rSameLog a_103 ((tgL id df n 0 ([] : Lg) ms ((bs.drop 0).take 80)).length) c_104 ys_105 (tgL id df n 0 ([] : Lg) ms ((bs.drop 0).take 80)) rfl (Nat.le_trans (tgL_le ..) (by decide)) la_71 lc_72 lx_73 _ (ownView (h_107.ok _ M0)) (h_107.ok _ M1).1 (ownView (h_107.ok _ M8)) (h_107.ok _ M9).1) rfl ?_
    rintro _ w_109 ⟨rfl, hc_108⟩
    have h_110 := h_107.same hc_108
    refine WL.nil ?_
    refine ⟨(SL.cons (h_110.ok _ M12) (SL.cons (h_110.ok _ M13) (SL.cons (h_110.ok _ M14) (SL.cons (h_110.ok _ M2) (SL.cons (h_110.ok _ M3) (SL.cons (h_110.ok _ M4) (SL.cons (h_110.ok _ M5) (SL.cons (h_110.ok _ M6) (SL.cons (h_110.ok _ M11) (SL.cons (h_110.ok _ M15) (SL.cons (h_110.ok _ M16) (SL.cons (h_110.ok _ M17) (SL.nil _ _))))))))))))), ?_⟩
    refine qT rfl rfl (fun wq hS => R.pickT (v := (.bool true)) rfl (rfl)) ?_
    refine qT rfl rfl (fun wq hS => R.move (v := (.bool true)) rfl) ?_
    refine WT.s ?_
    refine Op1.one rfl (Wn.yes rfl rfl rfl) ?_
    refine WL.call Try.call11 rfl rfl (c_known19  _ ) rfl ?_
    rintro _ w_112 ⟨rfl, hc_111⟩
    have h_113 := h_110.same hc_111
    refine WL.nil ?_
    refine ⟨(SL.cons (h_113.ok _ M12) (SL.cons (h_113.ok _ M13) (SL.cons (h_113.ok _ M14) (SL.cons (h_113.ok _ M2) (SL.cons (h_113.ok _ M3) (SL.cons (h_113.ok _ M4) (SL.cons (h_113.ok _ M5) (SL.cons (h_113.ok _ M6) (SL.cons (h_113.ok _ M11) (SL.cons (h_113.ok _ M15) (SL.cons (h_113.ok _ M16) (SL.cons (h_113.ok _ M17) (SL.nil _ _))))))))))))), ?_⟩
    refine qT rfl rfl (fun wq hS => R.pickT (v := (.bool true)) rfl rfl) ?_
    refine qT rfl rfl (fun wq hS => R.assign (v := (.bool true)) rfl) ?_
    refine WT.nil (thn_n ?_)
    exact ⟨(a_103, c_104, la_71, lc_72, ys_105, lx_73), (U2 rfl rfl (U4 rfl rfl rfl rfl (U4 rfl rfl rfl rfl (U4 rfl rfl rfl rfl (U4 rfl rfl rfl rfl (U4 rfl rfl rfl rfl (U4 rfl rfl rfl rfl (Ag.refl _ _)))))))), ⟨rfl, rfl, rfl, rfl, rfl, rfl, rfl, rfl, rfl, rfl, rfl, rfl, rfl, rfl, rfl, rfl, rfl, rfl, rfl, rfl, rfl, (rfl), rfl, rfl, rfl, rfl, trivial⟩, h_113⟩
  ·rintro ⟨a_117, c_118, la_119, lc_120, ys_121, lx_122⟩ J_114 w_115 h_116
   refine thn_n (WP.ret ?_)
   refine ret_of Try.results7 (RV.tmp (v := (.bool true)) rfl RV.nil) ?_
   exact ⟨rfl, h_116.chgS⟩

theorem w_AttestVerifies (id : Bool) (ms df : List UInt8) (hms : ms.length = 32) (da0 : Option Addr) (n cap0 : Nat) (hl : df.length = 32 * n) (ab : Option Addr) (nb cb : Nat) (bs : List UInt8) (hbl : bs.length = nb) (hcb : nb ≤ cb) (w : World) (hv : View w da0 (df.map vu8)) (hvb : View w ab (bs.map vu8)) :
  Cs Try.prog 7 [(.agg ⟨flat [(1, [(.bool id)]), (32, ms.map vu8), (1, [(.slice da0 n cap0)])]⟩), (.slice ab nb cb)].toArray w (fun v w1 => v = (.bool true) ∧ Chg w w1 []) := by
 by_cases hn : nb = 112
 ·subst hn
  by_cases hm : ((bs.drop 0).take 80).take 8 = markB
  ·exact w_AttestVerifies_ok id ms df hms da0 n cap0 hl ab cb bs hbl hcb hm w hv hvb
  ·exact w_AttestVerifies_no id ms df hms da0 n cap0 hl ab cb bs hbl hcb hm w hv hvb
 ·exact w_AttestVerifies_len id ms df hms da0 n cap0 hl ab nb cb bs hbl hcb hn w hv hvb
namespace attestVerifiesDone
open Go.ChangeShapes Go.WideShapes Go.ChangeAt
theorem own : ownKnob Try.prog.godebug = none := by kernel_rfl
theorem laidOut : laidOutB Try.prog = true := by kernel_rfl
set_option maxRecDepth 100000 in
theorem lifted (os : Os) (started : os.Started) (H : Type) (enc : TypeId × Value → H) :
  ReturnsInHanded {} Try.checked os 7 .any (Rows.attestVerifiesSpec.pre6 enc Try.prog Try.f7 Rows.attestVerifiesRow.domain false) (Rows.attestVerifiesSpec.post enc Try.prog Try.f7 false true false false) := by
 refine returnsInHanded_of_change (C := Try.checked) own started (by kernel_rfl) Try.func7
  (ChangeSpec.witness6 (enc := enc) (C := Try.checked) false ⟨#[], #[.agg #[.bool false, .int .u8 0, .int .u8 0, .int .u8 0, .int .u8 0, .int .u8 0, .int .u8 0, .int .u8 0, .int .u8 0, .int .u8 0, .int .u8 0, .int .u8 0, .int .u8 0, .int .u8 0, .int .u8 0, .int .u8 0, .int .u8 0, .int .u8 0, .int .u8 0, .int .u8 0, .int .u8 0, .int .u8 0, .int .u8 0, .int .u8 0, .int .u8 0, .int .u8 0, .int .u8 0, .int .u8 0, .int .u8 0, .int .u8 0, .int .u8 0, .int .u8 0, .int .u8 0, .slice none 0 0], .slice none 0 0], []⟩ 8 (by kernel_rfl) (by kernel_rfl) (by kernel_rfl) (by kernel_rfl)) ?_
 intro W base args ds gs before hval0 hW hcnd _
 have hval : ∀ (j : Nat) t v, Try.f7.params[j]? = some t → args[j]? = some v → Value.okWide Try.prog W .any base t v := hval0
 have hW' := hW
 obtain ⟨p, q, hA0, hV, rfl, hfz, hnd⟩ := hW
 have hA : DataW.TrodAll enc Try.prog W 0 (fun _ => true) true Try.f7.params.toList args.toList ds p := hA0
 rw [Try.params7] at hA hval
 obtain ⟨v0, vs0, d0, ds0, p0, q0, hargs, rfl, rfl, h0, r0⟩ := trodAll_cons hA
 obtain ⟨v1, vs1, d1, ds1, p1, q1, rfl, rfl, rfl, h1, r1⟩ := trodAll_cons r0
 obtain ⟨rfl, rfl, rfl⟩ := trodAll_nil r1
 obtain rfl : args = #[v0, v1] := by cases args; simp_all
 obtain ⟨rfl, rfl⟩ := trodVars_none hV
 have lt0 : ∀ x ∈ p0, x.block < W.heap.size := by obtain ⟨m, hm⟩ := h0; exact DataW.trod_lt m _ _ _ hm
 obtain ⟨cs0, rfl⟩ := okWide_agg aggT26 (hval 0 26 v0 rfl rfl)
 have tr0 : Tr Try.prog W 26 cs0 := Tr.of h0 rfl
 have tl_x0 := Tr.struct (l := [(1, 4), (32, 23), (1, 24)]) Try.underlying26 ce26 (by kernel_rfl) tr0
 obtain ⟨a_x00, r_x00, rfl, n_x00, t_x00, tl_x00⟩ := tl_x0
 obtain ⟨x00, rfl⟩ := Tr.bool Try.underlying4 t_x00
 obtain ⟨a_x01, r_x01, rfl, n_x01, t_x01, tl_x01⟩ := tl_x00
 obtain ⟨x01, rfl, l_x01⟩ := Tr.arr8 Try.underlying23 ce23 ce5 Try.underlying5 t_x01
 obtain ⟨a_x02, r_x02, rfl, n_x02, t_x02, tl_x02⟩ := tl_x01
 obtain ⟨sa_x02, sn_x02, sc_x02, x02, rfl, l_x02, hc_x02, hm_x02, hv_x02⟩ := Tr.slA8 Try.underlying24 ce23 Try.underlying23 ce5 Try.underlying5 t_x02
 obtain rfl := tl_x02
 have lt1 : ∀ x ∈ p1, x.block < W.heap.size := by obtain ⟨m, hm⟩ := h1; exact DataW.trod_lt m _ _ _ hm
 obtain ⟨a1, n1, c1, rfl⟩ := okWide_slice Try.underlying37 (hval 1 37 v1 rfl rfl)
 obtain ⟨a1, n1, c1, x1, e1, l_x1, hc1, hm1, hv1, hn1⟩ := Tr.sl8 Try.underlying37 ce5 Try.underlying5 (Tr.of h1 rfl)
 cases e1
 clear hA0 hval0
 have hw : Cs Try.prog 7 [(.agg ⟨flat [(1, [(.bool x00)]), (32, x01.map vu8), (1, [(.slice sa_x02 sn_x02 sc_x02)])]⟩), (.slice a1 n1 c1)].toArray W (fun v w1 => v = .bool true ∧ Chg W w1 []) := w_AttestVerifies x00 x01 x02 l_x01 sa_x02 sn_x02 sc_x02 l_x02 a1 n1 c1 x1 l_x1 hc1 W hv_x02.1 hv1.1
 have ea : ([(.agg ⟨flat [(1, [(.bool x00)]), (32, x01.map vu8), (1, [(.slice sa_x02 sn_x02 sc_x02)])]⟩), (.slice a1 n1 c1)] : List Value).toArray = (#[.agg ⟨([.bool x00] ++ (x01.map vu8 ++ ([.slice sa_x02 sn_x02 sc_x02] ++ [])))⟩, (.slice a1 n1 c1)] : Array Value) := by simp [flat]
 rw [ea] at hw
 refine Calls.mono (Cs.below hw) fun e W' ⟨he, bel⟩ => ?_
 subst he
 exact ⟨_, rfl, _, _, _, [], _, [], hW', trodAll_mk1 (shut_bool Try.underlying4 _), (trodAll_cons_mk (Below.trod laidOut (by kernel_rfl) (of_decide_eq_true (by kernel_rfl)) h0 bel lt0) (trodAll_cons_mk (Below.trod laidOut (by kernel_rfl) (of_decide_eq_true (by kernel_rfl)) h1 bel lt1) trodAll_mk0)), rfl, bel.frame _, fun h => by cases h⟩
theorem over : Rows.attestVerifiesRow.holds Try.pinned (OpenSpec.ofChange Rows.attestVerifiesSpec) :=
 OpenClaim.holds_of_wide 7 Try.f7 rfl rfl rfl rfl rfl rfl rfl ⟨rfl, rfl, rfl, rfl, rfl⟩ rfl rfl rfl rfl rfl (by kernel_rfl) Try.func7 (by kernel_rfl)
  (of_decide_eq_true (by kernel_rfl)) (by unfold Func.isWrapper; first | (rw [if_pos (by decide +kernel)]; kernel_rfl) | (rw [if_neg (by decide +kernel)]; exact ⟨rfl, rfl⟩))
  (fun os started H enc _ => lifted os started H enc)
theorem proved : Rows.AttestVerifiesSaid := over
end attestVerifiesDone
end Go.Proofs.Ytnhppjimimhlkaa
