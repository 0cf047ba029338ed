/- Ways of a tree: contracts. Conditions: those that each theorem states. -/
import Derived.Test.YtnhppjimimhlkaaQ4
import Derived.Test.YtnhppjimimhlkaaO6
namespace Go.Proofs.Ytnhppjimimhlkaa
open Go.Vc Go.Orc Go.RowKit
set_option linter.unusedVariables false
set_option linter.unusedSimpArgs false
set_option maxRecDepth 20000
theorem el70 : ElT Try.prog 70 3 1 8 := ElT.mk' Try.underlying70 (i := Try.t3) rfl rfl rfl rfl rfl rfl
def wayN (pg : Nat) : List Nat := [(128 + pg) / 2 ^ 0, (128 + pg) / 2 ^ 1, (128 + pg) / 2 ^ 2, (128 + pg) / 2 ^ 3, (128 + pg) / 2 ^ 4, (128 + pg) / 2 ^ 5, (128 + pg) / 2 ^ 6, (128 + pg) / 2 ^ 7]
def wayL (pg : Nat) : List Int := (wayN pg).map Int.ofNat
theorem same_ints {xs ys : List Int} (h : xs.length = ys.length) (hg : ∀ j, j < xs.length → xs.getD j 0 = ys.getD j 0) : xs = ys :=
  List.ext_getElem h fun j h1 h2 => by have := hg j h1; simpa [h1, h2] using this
def bsL (pg : Nat) : List Int := ((wayN pg).take 7).map fun x => Int.ofNat (x ^^^ 1)
theorem c_prot_t (pg : Nat) (h : pg < 128) (w : World) :
    Cs Try.prog 60 [(vi ((pg : Nat) : Int))].toArray w (fun v w1 => v = (.bool true) ∧ Chg w w1 []) := by
  refine Cs.of (n := 9) (args := [(vi ((pg : Nat) : Int))]) Try.func60 rfl rfl rfl ?_
  have h_0 := HP.init w
  refine WP.seq ?_
  refine WP.reg ?_
  refine WL.q (Wn.no rfl) rfl rfl (R.assign (v := (.bool false)) rfl) ?_
  refine WL.nil ?_
  refine thn_n ?_
  refine WP.seq ?_
  refine WP.reg ?_
  refine WL.q (Wn.no rfl) rfl rfl (R.move (v := (vi ((pg : Nat) : Int))) rfl) ?_
  refine WL.q (Wn.no rfl) rfl rfl (R.bin (v := (.bool (decide ((((pg : Nat) : Int) : Int) ≥ 0)))) rfl rfl (bi_geq (r := decide ((((pg : Nat) : Int) : Int) ≥ 0)) rfl)) ?_
  refine WL.q (Wn.no rfl) rfl rfl (R.move (v := (.bool (decide ((((pg : Nat) : Int) : Int) ≥ 0)))) rfl) ?_
  refine WL.want rfl (congrArg Value.bool (decide_eq_true (by omega))) ?_
  refine WL.q (Wn.no rfl) rfl rfl (R.move (v := (vi ((pg : Nat) : Int))) rfl) ?_
  refine WL.want rfl (congrArg Value.bool (decide_eq_true (by omega))) ?_
  refine WL.q (Wn.no rfl) rfl rfl (R.bin (v := (.bool (decide ((((pg : Nat) : Int) : Int) < 128)))) rfl rfl (bi_lss (r := decide ((((pg : Nat) : Int) : Int) < 128)) rfl)) ?_
  refine WL.q (Wn.no rfl) rfl rfl (R.pickT (v := (.bool (decide ((((pg : Nat) : Int) : Int) < 128)))) (congrArg Value.bool (decide_eq_true (by omega))) rfl) ?_
  refine WL.q (Wn.no rfl) rfl rfl (R.assign (v := (.bool (decide ((((pg : Nat) : Int) : Int) < 128)))) rfl) ?_
  refine WL.nil ?_
  refine thn_n ?_
  refine WP.ret ?_
  refine ret_of Try.results60 (RV.tmp (v := (.bool (decide ((((pg : Nat) : Int) : Int) < 128)))) rfl RV.nil) ?_
  exact ⟨congrArg Value.bool (decide_eq_true (by omega)), h_0.chgS⟩

theorem c_prot_f (pg : Int) (h : ¬ (0 ≤ pg ∧ pg < 128)) (w : World) :
    Cs Try.prog 60 [(vi pg)].toArray w (fun v w1 => v = (.bool false) ∧ Chg w w1 []) := by
  refine Cs.of (n := 9) (args := [(vi pg)]) Try.func60 rfl rfl rfl ?_
  have h_0 := HP.init w
  refine WP.seq ?_
  refine WP.reg ?_
  refine WL.q (Wn.no rfl) rfl rfl (R.assign (v := (.bool false)) rfl) ?_
  refine WL.nil ?_
  refine thn_n ?_
  refine WP.seq ?_
  refine WP.reg ?_
  refine WL.q (Wn.no rfl) rfl rfl (R.move (v := (vi pg)) rfl) ?_
  refine WL.q (Wn.no rfl) rfl rfl (R.bin (v := (.bool (decide ((pg : Int) ≥ 0)))) rfl rfl (bi_geq (r := decide ((pg : Int) ≥ 0)) rfl)) ?_
  refine WL.q (Wn.no rfl) rfl rfl (R.move (v := (.bool (decide ((pg : Int) ≥ 0)))) rfl) ?_
  rcases Bool.eq_false_or_eq_true (decide ((pg : Int) ≥ 0)) with c_1 | c_1
  · have p_2 := of_decide_eq_true c_1
    refine WL.want rfl (congrArg Value.bool c_1) ?_
    refine WL.q (Wn.no rfl) rfl rfl (R.move (v := (vi pg)) rfl) ?_
    refine WL.want rfl (congrArg Value.bool c_1) ?_
    refine WL.q (Wn.no rfl) rfl rfl (R.bin (v := (.bool (decide ((pg : Int) < 128)))) rfl rfl (bi_lss (r := decide ((pg : Int) < 128)) rfl)) ?_
    refine WL.q (Wn.no rfl) rfl rfl (R.pickT (v := (.bool (decide ((pg : Int) < 128)))) (congrArg Value.bool c_1) rfl) ?_
    refine WL.q (Wn.no rfl) rfl rfl (R.assign (v := (.bool (decide ((pg : Int) < 128)))) rfl) ?_
    refine WL.nil ?_
    refine thn_n ?_
    refine WP.ret ?_
    refine ret_of Try.results60 (RV.tmp (v := (.bool (decide ((pg : Int) < 128)))) rfl RV.nil) ?_
    exact ⟨congrArg Value.bool (decide_eq_false (by omega)), h_0.chgS⟩
  · have p_3 := of_decide_eq_false c_1
    refine WL.skip rfl (congrArg Value.bool c_1) rfl ?_
    refine WL.skip rfl (congrArg Value.bool c_1) rfl ?_
    refine WL.q (Wn.no rfl) rfl rfl (R.pickF (v := (.bool false)) (congrArg Value.bool c_1) rfl) ?_
    refine WL.q (Wn.no rfl) rfl rfl (R.assign (v := (.bool false)) rfl) ?_
    refine WL.nil ?_
    refine thn_n ?_
    refine WP.ret ?_
    refine ret_of Try.results60 (RV.tmp (v := (.bool false)) rfl RV.nil) ?_
    exact ⟨rfl, h_0.chgS⟩

theorem c_mayP_t (pg : Nat) (h : pg < 128) (w : World) :
    Cs Try.prog 30 [(vi ((pg : Nat) : Int))].toArray w (fun v w1 => v = (.bool true) ∧ Chg w w1 []) := by
  refine Cs.of (n := 9) (args := [(vi ((pg : Nat) : Int))]) Try.func30 rfl rfl rfl ?_
  have h_0 := HP.init w
  refine WP.seq ?_
  refine WP.reg ?_
  refine WL.q (Wn.no rfl) rfl rfl (R.assign (v := (.bool false)) rfl) ?_
  refine WL.nil ?_
  refine thn_n ?_
  refine WP.seq ?_
  refine WP.reg ?_
  refine WL.q (Wn.no rfl) rfl rfl (R.move (v := (vi ((pg : Nat) : Int))) rfl) ?_
  refine WL.q (Wn.no rfl) rfl rfl (R.bin (v := (.bool (decide ((((pg : Nat) : Int) : Int) ≥ 0)))) rfl rfl (bi_geq (r := decide ((((pg : Nat) : Int) : Int) ≥ 0)) rfl)) ?_
  refine WL.q (Wn.no rfl) rfl rfl (R.move (v := (.bool (decide ((((pg : Nat) : Int) : Int) ≥ 0)))) rfl) ?_
  refine WL.want rfl (congrArg Value.bool (decide_eq_true (by omega))) ?_
  refine WL.q (Wn.no rfl) rfl rfl (R.move (v := (vi ((pg : Nat) : Int))) rfl) ?_
  refine WL.want rfl (congrArg Value.bool (decide_eq_true (by omega))) ?_
  refine WL.q (Wn.no rfl) rfl rfl (R.bin (v := (.bool (decide ((((pg : Nat) : Int) : Int) < 128)))) rfl rfl (bi_lss (r := decide ((((pg : Nat) : Int) : Int) < 128)) rfl)) ?_
  refine WL.q (Wn.no rfl) rfl rfl (R.pickT (v := (.bool (decide ((((pg : Nat) : Int) : Int) < 128)))) (congrArg Value.bool (decide_eq_true (by omega))) rfl) ?_
  refine WL.q (Wn.no rfl) rfl rfl (R.assign (v := (.bool (decide ((((pg : Nat) : Int) : Int) < 128)))) rfl) ?_
  refine WL.nil ?_
  refine thn_n ?_
  refine WP.ret ?_
  refine ret_of Try.results30 (RV.tmp (v := (.bool (decide ((((pg : Nat) : Int) : Int) < 128)))) rfl RV.nil) ?_
  exact ⟨congrArg Value.bool (decide_eq_true (by omega)), h_0.chgS⟩

theorem c_mayP_f (pg : Int) (h : ¬ (0 ≤ pg ∧ pg < 128)) (w : World) :
    Cs Try.prog 30 [(vi pg)].toArray w (fun v w1 => v = (.bool false) ∧ Chg w w1 []) := by
  refine Cs.of (n := 9) (args := [(vi pg)]) Try.func30 rfl rfl rfl ?_
  have h_0 := HP.init w
  refine WP.seq ?_
  refine WP.reg ?_
  refine WL.q (Wn.no rfl) rfl rfl (R.assign (v := (.bool false)) rfl) ?_
  refine WL.nil ?_
  refine thn_n ?_
  refine WP.seq ?_
  refine WP.reg ?_
  refine WL.q (Wn.no rfl) rfl rfl (R.move (v := (vi pg)) rfl) ?_
  refine WL.q (Wn.no rfl) rfl rfl (R.bin (v := (.bool (decide ((pg : Int) ≥ 0)))) rfl rfl (bi_geq (r := decide ((pg : Int) ≥ 0)) rfl)) ?_
  refine WL.q (Wn.no rfl) rfl rfl (R.move (v := (.bool (decide ((pg : Int) ≥ 0)))) rfl) ?_
  rcases Bool.eq_false_or_eq_true (decide ((pg : Int) ≥ 0)) with c_1 | c_1
  · have p_2 := of_decide_eq_true c_1
    refine WL.want rfl (congrArg Value.bool c_1) ?_
    refine WL.q (Wn.no rfl) rfl rfl (R.move (v := (vi pg)) rfl) ?_
    refine WL.want rfl (congrArg Value.bool c_1) ?_
    refine WL.q (Wn.no rfl) rfl rfl (R.bin (v := (.bool (decide ((pg : Int) < 128)))) rfl rfl (bi_lss (r := decide ((pg : Int) < 128)) rfl)) ?_
    refine WL.q (Wn.no rfl) rfl rfl (R.pickT (v := (.bool (decide ((pg : Int) < 128)))) (congrArg Value.bool c_1) rfl) ?_
    refine WL.q (Wn.no rfl) rfl rfl (R.assign (v := (.bool (decide ((pg : Int) < 128)))) rfl) ?_
    refine WL.nil ?_
    refine thn_n ?_
    refine WP.ret ?_
    refine ret_of Try.results30 (RV.tmp (v := (.bool (decide ((pg : Int) < 128)))) rfl RV.nil) ?_
    exact ⟨congrArg Value.bool (decide_eq_false (by omega)), h_0.chgS⟩
  · have p_3 := of_decide_eq_false c_1
    refine WL.skip rfl (congrArg Value.bool c_1) rfl ?_
    refine WL.skip rfl (congrArg Value.bool c_1) rfl ?_
    refine WL.q (Wn.no rfl) rfl rfl (R.pickF (v := (.bool false)) (congrArg Value.bool c_1) rfl) ?_
    refine WL.q (Wn.no rfl) rfl rfl (R.assign (v := (.bool false)) rfl) ?_
    refine WL.nil ?_
    refine thn_n ?_
    refine WP.ret ?_
    refine ret_of Try.results30 (RV.tmp (v := (.bool false)) rfl RV.nil) ?_
    exact ⟨rfl, h_0.chgS⟩

theorem c_Way_t (pg : Nat) (h : pg < 128) (w : World) :
    Cs Try.prog 28 [(vi ((pg : Nat) : Int))].toArray w (fun v w1 => ∃ a cap, v = .tuple [.slice a 8 cap, vi 0].toArray ∧ Chg w w1 [] ∧ Own w.heap.size w1 3 1 a 8 cap ((wayL pg).map vi64)) := by
  refine Cs.of (n := 21) (args := [(vi ((pg : Nat) : Int))]) Try.func28 rfl rfl rfl ?_
  have h_0 := HP.init w
  refine WP.seq ?_
  refine WP.reg ?_
  refine WL.q (Wn.no rfl) rfl rfl (R.assign (v := (.slice none 0 0)) rfl) ?_
  refine WL.q (Wn.no rfl) rfl rfl (R.assign (v := (vi 0)) rfl) ?_
  refine WL.nil ?_
  refine thn_n ?_
  refine WP.seq ?_
  refine WP.seq ?_
  refine WP.reg ?_
  refine WL.q (Wn.no rfl) rfl rfl (R.move (v := (vi ((pg : Nat) : Int))) rfl) ?_
  refine WL.call (al := [(vi ((pg : Nat) : Int))]) Try.call60 rfl rfl (c_prot_t pg (by omega) _ ) rfl ?_
  rintro _ w_2 ⟨rfl, hc_1⟩
  have h_3 := h_0.same hc_1
  refine WL.q (Wn.no rfl) rfl rfl (R.not (b := true) rfl) ?_
  refine WL.nil ?_
  refine thn_n ?_
  refine WP.condF rfl ?_
  refine WP.skip ?_
  refine thn_n ?_
  refine WP.seq ?_
  refine WP.reg ?_
  refine WL.q (Wn.no rfl) rfl rfl (R.assign (v := (.slice none 0 0)) rfl) ?_
  refine WL.nil ?_
  refine thn_n ?_
  refine WP.seq ?_
  refine WP.seq ?_
  refine WP.reg ?_
  refine WL.q (Wn.no rfl) rfl rfl (R.move (v := (vi 0)) rfl) ?_
  refine WL.nil ?_
  refine thn_n ?_
  refine WP.block ?_
  refine WP.loopU (WI.round ?_)
  refine WP.seq ?_
  refine WP.reg ?_
  refine WL.q (Wn.no rfl) rfl rfl (R.bin (v := (.bool true)) rfl rfl (bi_lss (r := true) (by decide))) ?_
  refine WL.nil ?_
  refine thn_n ?_
  refine WP.seq ?_
  refine WP.condT rfl ?_
  refine WP.skip ?_
  refine thn_n ?_
  refine WP.seq ?_
  refine WP.block ?_
  refine WP.seq ?_
  refine WP.reg ?_
  refine WL.q (Wn.no rfl) rfl rfl (R.move (v := (vi 0)) rfl) ?_
  refine WL.q (Wn.no rfl) rfl rfl (R.assign (v := (vi 0)) rfl) ?_
  refine WL.nil ?_
  refine thn_n ?_
  refine WP.reg ?_
  refine WL.q (Wn.no rfl) rfl rfl (R.move (v := (.slice none 0 0)) rfl) ?_
  refine WL.q (Wn.no rfl) rfl rfl (R.move (v := (vi ((pg : Nat) : Int))) rfl) ?_
  refine WL.q (Wn.no rfl) rfl rfl (R.bin (v := (vi ((128 + pg : Nat) : Int))) rfl rfl (bi_add (c := ((128 + pg : Nat) : Int)) (by omega) (by omega))) ?_
  refine WL.q (Wn.no rfl) rfl rfl (R.move (v := (vi 0)) rfl) ?_
  refine WL.q (Wn.no rfl) rfl rfl (R.binR (v := (vi (((128 + pg) / 2 ^ 0 : Nat) : Int))) rfl rfl (run_shrN _ _ _ (128 + pg) _ 0 (by omega))) ?_
  refine WL.buildSl (vs := [(0, (vi (((128 + pg) / 2 ^ 0 : Nat) : Int)))]) (cs := ([(((128 + pg) / 2 ^ 0 : Nat) : Int)] : List Int).map vi64) h_3 Try.underlying70 Try.sizeOf3 (zv Try.typeInfo3 rfl) rfl rfl (by kernel_rfl) rfl (one_i64 _) rfl rfl (fun b_4 w_5 h_6 => ?_)
  have h_7 := h_6.rowNil 3 1
  refine WL.append (km := 1) (xs := []) (ys := ([(((128 + pg) / 2 ^ 0 : Nat) : Int)] : List Int).map vi64) (zs := ([(((128 + pg) / 2 ^ 0 : Nat) : Int)] : List Int).map vi64) h_7 rfl rfl el70 (viewB (h_7.ok _ (.tail _ (.head _))) Sg.h) ((len_map (rfl : List.length ([(((128 + pg) / 2 ^ 0 : Nat) : Int)] : List Int) = 1)).trans (Nat.mul_one _).symm) (one_i64 _) rfl rfl (by omega) (by omega) (fun _ _ => At.h) rfl (fun a_8 c_9 w_10 h_11 => ?_)
  refine WL.q (Wn.no rfl) rfl rfl (R.assign (v := (.slice a_8 1 c_9)) rfl) ?_
  refine WL.nil ?_
  refine inb_n ?_
  refine thn_n ?_
  refine WP.reg ?_
  refine WL.q (Wn.no rfl) rfl rfl (R.bin (v := (vi 1)) rfl rfl (bi_add (c := 1) (by omega) (by omega))) ?_
  refine WL.q (Wn.no rfl) rfl rfl (R.move (v := (vi 1)) rfl) ?_
  refine WL.nil ?_
  refine thn_n ?_
  refine WI.round ?_
  refine WP.seq ?_
  refine WP.reg ?_
  refine WL.q (Wn.no rfl) rfl rfl (R.bin (v := (.bool true)) rfl rfl (bi_lss (r := true) (by decide))) ?_
  refine WL.nil ?_
  refine thn_n ?_
  refine WP.seq ?_
  refine WP.condT rfl ?_
  refine WP.skip ?_
  refine thn_n ?_
  refine WP.seq ?_
  refine WP.block ?_
  refine WP.seq ?_
  refine WP.reg ?_
  refine WL.q (Wn.no rfl) rfl rfl (R.move (v := (vi 1)) rfl) ?_
  refine WL.q (Wn.no rfl) rfl rfl (R.assign (v := (vi 1)) rfl) ?_
  refine WL.nil ?_
  refine thn_n ?_
  refine WP.reg ?_
  refine WL.q (Wn.no rfl) rfl rfl (R.move (v := (.slice a_8 1 c_9)) rfl) ?_
  refine WL.q (Wn.no rfl) rfl rfl (R.move (v := (vi ((pg : Nat) : Int))) rfl) ?_
  refine WL.q (Wn.no rfl) rfl rfl (R.bin (v := (vi ((128 + pg : Nat) : Int))) rfl rfl (bi_add (c := ((128 + pg : Nat) : Int)) (by omega) (by omega))) ?_
  refine WL.q (Wn.no rfl) rfl rfl (R.move (v := (vi 1)) rfl) ?_
  refine WL.q (Wn.no rfl) rfl rfl (R.binR (v := (vi (((128 + pg) / 2 ^ 1 : Nat) : Int))) rfl rfl (run_shrN _ _ _ (128 + pg) _ 1 (by omega))) ?_
  refine WL.buildSl (vs := [(0, (vi (((128 + pg) / 2 ^ 1 : Nat) : Int)))]) (cs := ([(((128 + pg) / 2 ^ 1 : Nat) : Int)] : List Int).map vi64) h_11 Try.underlying70 Try.sizeOf3 (zv Try.typeInfo3 rfl) rfl rfl (by kernel_rfl) rfl (one_i64 _) rfl rfl (fun b_12 w_13 h_14 => ?_)
  refine WL.append (km := 2) (xs := ([(((128 + pg) / 2 ^ 0 : Nat) : Int)] : List Int).map vi64) (ys := ([(((128 + pg) / 2 ^ 1 : Nat) : Int)] : List Int).map vi64) (zs := (([(((128 + pg) / 2 ^ 0 : Nat) : Int)] : List Int) ++ ([(((128 + pg) / 2 ^ 1 : Nat) : Int)] : List Int)).map vi64) h_14 rfl rfl el70 (viewB (h_14.ok _ (.head _)) Sg.h) ((len_map (rfl : List.length ([(((128 + pg) / 2 ^ 1 : Nat) : Int)] : List Int) = 1)).trans (Nat.mul_one _).symm) (one_i64 _) (by simp only [List.map_append, List.map_nil]) rfl (by omega) (by omega) (fun _ _ => (At.t At.h)) rfl (fun a_15 c_16 w_17 h_18 => ?_)
  refine WL.q (Wn.no rfl) rfl rfl (R.assign (v := (.slice a_15 2 c_16)) rfl) ?_
  refine WL.nil ?_
  refine inb_n ?_
  refine thn_n ?_
  refine WP.reg ?_
  refine WL.q (Wn.no rfl) rfl rfl (R.bin (v := (vi 2)) rfl rfl (bi_add (c := 2) (by omega) (by omega))) ?_
  refine WL.q (Wn.no rfl) rfl rfl (R.move (v := (vi 2)) rfl) ?_
  refine WL.nil ?_
  refine thn_n ?_
  refine WI.round ?_
  refine WP.seq ?_
  refine WP.reg ?_
  refine WL.q (Wn.no rfl) rfl rfl (R.bin (v := (.bool true)) rfl rfl (bi_lss (r := true) (by decide))) ?_
  refine WL.nil ?_
  refine thn_n ?_
  refine WP.seq ?_
  refine WP.condT rfl ?_
  refine WP.skip ?_
  refine thn_n ?_
  refine WP.seq ?_
  refine WP.block ?_
  refine WP.seq ?_
  refine WP.reg ?_
  refine WL.q (Wn.no rfl) rfl rfl (R.move (v := (vi 2)) rfl) ?_
  refine WL.q (Wn.no rfl) rfl rfl (R.assign (v := (vi 2)) rfl) ?_
  refine WL.nil ?_
  refine thn_n ?_
  refine WP.reg ?_
  refine WL.q (Wn.no rfl) rfl rfl (R.move (v := (.slice a_15 2 c_16)) rfl) ?_
  refine WL.q (Wn.no rfl) rfl rfl (R.move (v := (vi ((pg : Nat) : Int))) rfl) ?_
  refine WL.q (Wn.no rfl) rfl rfl (R.bin (v := (vi ((128 + pg : Nat) : Int))) rfl rfl (bi_add (c := ((128 + pg : Nat) : Int)) (by omega) (by omega))) ?_
  refine WL.q (Wn.no rfl) rfl rfl (R.move (v := (vi 2)) rfl) ?_
  refine WL.q (Wn.no rfl) rfl rfl (R.binR (v := (vi (((128 + pg) / 2 ^ 2 : Nat) : Int))) rfl rfl (run_shrN _ _ _ (128 + pg) _ 2 (by omega))) ?_
  refine WL.buildSl (vs := [(0, (vi (((128 + pg) / 2 ^ 2 : Nat) : Int)))]) (cs := ([(((128 + pg) / 2 ^ 2 : Nat) : Int)] : List Int).map vi64) h_18 Try.underlying70 Try.sizeOf3 (zv Try.typeInfo3 rfl) rfl rfl (by kernel_rfl) rfl (one_i64 _) rfl rfl (fun b_19 w_20 h_21 => ?_)
  refine WL.append (km := 3) (xs := (([(((128 + pg) / 2 ^ 0 : Nat) : Int)] : List Int) ++ ([(((128 + pg) / 2 ^ 1 : Nat) : Int)] : List Int)).map vi64) (ys := ([(((128 + pg) / 2 ^ 2 : Nat) : Int)] : List Int).map vi64) (zs := ((([(((128 + pg) / 2 ^ 0 : Nat) : Int)] : List Int) ++ ([(((128 + pg) / 2 ^ 1 : Nat) : Int)] : List Int)) ++ ([(((128 + pg) / 2 ^ 2 : Nat) : Int)] : List Int)).map vi64) h_21 rfl rfl el70 (viewB (h_21.ok _ (.head _)) Sg.h) ((len_map (rfl : List.length ([(((128 + pg) / 2 ^ 2 : Nat) : Int)] : List Int) = 1)).trans (Nat.mul_one _).symm) (one_i64 _) (by simp only [List.map_append, List.map_nil]) rfl (by omega) (by omega) (fun _ _ => (At.t (At.t At.h))) rfl (fun a_22 c_23 w_24 h_25 => ?_)
  refine WL.q (Wn.no rfl) rfl rfl (R.assign (v := (.slice a_22 3 c_23)) rfl) ?_
  refine WL.nil ?_
  refine inb_n ?_
  refine thn_n ?_
  refine WP.reg ?_
  refine WL.q (Wn.no rfl) rfl rfl (R.bin (v := (vi 3)) rfl rfl (bi_add (c := 3) (by omega) (by omega))) ?_
  refine WL.q (Wn.no rfl) rfl rfl (R.move (v := (vi 3)) rfl) ?_
  refine WL.nil ?_
  refine thn_n ?_
  refine WI.round ?_
  refine WP.seq ?_
  refine WP.reg ?_
  refine WL.q (Wn.no rfl) rfl rfl (R.bin (v := (.bool true)) rfl rfl (bi_lss (r := true) (by decide))) ?_
  refine WL.nil ?_
  refine thn_n ?_
  refine WP.seq ?_
  refine WP.condT rfl ?_
  refine WP.skip ?_
  refine thn_n ?_
  refine WP.seq ?_
  refine WP.block ?_
  refine WP.seq ?_
  refine WP.reg ?_
  refine WL.q (Wn.no rfl) rfl rfl (R.move (v := (vi 3)) rfl) ?_
  refine WL.q (Wn.no rfl) rfl rfl (R.assign (v := (vi 3)) rfl) ?_
  refine WL.nil ?_
  refine thn_n ?_
  refine WP.reg ?_
  refine WL.q (Wn.no rfl) rfl rfl (R.move (v := (.slice a_22 3 c_23)) rfl) ?_
  refine WL.q (Wn.no rfl) rfl rfl (R.move (v := (vi ((pg : Nat) : Int))) rfl) ?_
  refine WL.q (Wn.no rfl) rfl rfl (R.bin (v := (vi ((128 + pg : Nat) : Int))) rfl rfl (bi_add (c := ((128 + pg : Nat) : Int)) (by omega) (by omega))) ?_
  refine WL.q (Wn.no rfl) rfl rfl (R.move (v := (vi 3)) rfl) ?_
  refine WL.q (Wn.no rfl) rfl rfl (R.binR (v := (vi (((128 + pg) / 2 ^ 3 : Nat) : Int))) rfl rfl (run_shrN _ _ _ (128 + pg) _ 3 (by omega))) ?_
  refine WL.buildSl (vs := [(0, (vi (((128 + pg) / 2 ^ 3 : Nat) : Int)))]) (cs := ([(((128 + pg) / 2 ^ 3 : Nat) : Int)] : List Int).map vi64) h_25 Try.underlying70 Try.sizeOf3 (zv Try.typeInfo3 rfl) rfl rfl (by kernel_rfl) rfl (one_i64 _) rfl rfl (fun b_26 w_27 h_28 => ?_)
  refine WL.append (km := 4) (xs := ((([(((128 + pg) / 2 ^ 0 : Nat) : Int)] : List Int) ++ ([(((128 + pg) / 2 ^ 1 : Nat) : Int)] : List Int)) ++ ([(((128 + pg) / 2 ^ 2 : Nat) : Int)] : List Int)).map vi64) (ys := ([(((128 + pg) / 2 ^ 3 : Nat) : Int)] : List Int).map vi64) (zs := (((([(((128 + pg) / 2 ^ 0 : Nat) : Int)] : List Int) ++ ([(((128 + pg) / 2 ^ 1 : Nat) : Int)] : List Int)) ++ ([(((128 + pg) / 2 ^ 2 : Nat) : Int)] : List Int)) ++ ([(((128 + pg) / 2 ^ 3 : Nat) : Int)] : List Int)).map vi64) h_28 rfl rfl el70 (viewB (h_28.ok _ (.head _)) Sg.h) ((len_map (rfl : List.length ([(((128 + pg) / 2 ^ 3 : Nat) : Int)] : List Int) = 1)).trans (Nat.mul_one _).symm) (one_i64 _) (by simp only [List.map_append, List.map_nil]) rfl (by omega) (by omega) (fun _ _ => (At.t (At.t (At.t At.h)))) rfl (fun a_29 c_30 w_31 h_32 => ?_)
  refine WL.q (Wn.no rfl) rfl rfl (R.assign (v := (.slice a_29 4 c_30)) rfl) ?_
  refine WL.nil ?_
  refine inb_n ?_
  refine thn_n ?_
  refine WP.reg ?_
  refine WL.q (Wn.no rfl) rfl rfl (R.bin (v := (vi 4)) rfl rfl (bi_add (c := 4) (by omega) (by omega))) ?_
  refine WL.q (Wn.no rfl) rfl rfl (R.move (v := (vi 4)) rfl) ?_
  refine WL.nil ?_
  refine thn_n ?_
  refine WI.round ?_
  refine WP.seq ?_
  refine WP.reg ?_
  refine WL.q (Wn.no rfl) rfl rfl (R.bin (v := (.bool true)) rfl rfl (bi_lss (r := true) (by decide))) ?_
  refine WL.nil ?_
  refine thn_n ?_
  refine WP.seq ?_
  refine WP.condT rfl ?_
  refine WP.skip ?_
  refine thn_n ?_
  refine WP.seq ?_
  refine WP.block ?_
  refine WP.seq ?_
  refine WP.reg ?_
  refine WL.q (Wn.no rfl) rfl rfl (R.move (v := (vi 4)) rfl) ?_
  refine WL.q (Wn.no rfl) rfl rfl (R.assign (v := (vi 4)) rfl) ?_
  refine WL.nil ?_
  refine thn_n ?_
  refine WP.reg ?_
  refine WL.q (Wn.no rfl) rfl rfl (R.move (v := (.slice a_29 4 c_30)) rfl) ?_
  refine WL.q (Wn.no rfl) rfl rfl (R.move (v := (vi ((pg : Nat) : Int))) rfl) ?_
  refine WL.q (Wn.no rfl) rfl rfl (R.bin (v := (vi ((128 + pg : Nat) : Int))) rfl rfl (bi_add (c := ((128 + pg : Nat) : Int)) (by omega) (by omega))) ?_
  refine WL.q (Wn.no rfl) rfl rfl (R.move (v := (vi 4)) rfl) ?_
  refine WL.q (Wn.no rfl) rfl rfl (R.binR (v := (vi (((128 + pg) / 2 ^ 4 : Nat) : Int))) rfl rfl (run_shrN _ _ _ (128 + pg) _ 4 (by omega))) ?_
  refine WL.buildSl (vs := [(0, (vi (((128 + pg) / 2 ^ 4 : Nat) : Int)))]) (cs := ([(((128 + pg) / 2 ^ 4 : Nat) : Int)] : List Int).map vi64) h_32 Try.underlying70 Try.sizeOf3 (zv Try.typeInfo3 rfl) rfl rfl (by kernel_rfl) rfl (one_i64 _) rfl rfl (fun b_33 w_34 h_35 => ?_)
  refine WL.append (km := 5) (xs := (((([(((128 + pg) / 2 ^ 0 : Nat) : Int)] : List Int) ++ ([(((128 + pg) / 2 ^ 1 : Nat) : Int)] : List Int)) ++ ([(((128 + pg) / 2 ^ 2 : Nat) : Int)] : List Int)) ++ ([(((128 + pg) / 2 ^ 3 : Nat) : Int)] : List Int)).map vi64) (ys := ([(((128 + pg) / 2 ^ 4 : Nat) : Int)] : List Int).map vi64) (zs := ((((([(((128 + pg) / 2 ^ 0 : Nat) : Int)] : List Int) ++ ([(((128 + pg) / 2 ^ 1 : Nat) : Int)] : List Int)) ++ ([(((128 + pg) / 2 ^ 2 : Nat) : Int)] : List Int)) ++ ([(((128 + pg) / 2 ^ 3 : Nat) : Int)] : List Int)) ++ ([(((128 + pg) / 2 ^ 4 : Nat) : Int)] : List Int)).map vi64) h_35 rfl rfl el70 (viewB (h_35.ok _ (.head _)) Sg.h) ((len_map (rfl : List.length ([(((128 + pg) / 2 ^ 4 : Nat) : Int)] : List Int) = 1)).trans (Nat.mul_one _).symm) (one_i64 _) (by simp only [List.map_append, List.map_nil]) rfl (by omega) (by omega) (fun _ _ => (At.t (At.t (At.t (At.t At.h))))) rfl (fun a_36 c_37 w_38 h_39 => ?_)
  refine WL.q (Wn.no rfl) rfl rfl (R.assign (v := (.slice a_36 5 c_37)) rfl) ?_
  refine WL.nil ?_
  refine inb_n ?_
  refine thn_n ?_
  refine WP.reg ?_
  refine WL.q (Wn.no rfl) rfl rfl (R.bin (v := (vi 5)) rfl rfl (bi_add (c := 5) (by omega) (by omega))) ?_
  refine WL.q (Wn.no rfl) rfl rfl (R.move (v := (vi 5)) rfl) ?_
  refine WL.nil ?_
  refine thn_n ?_
  refine WI.round ?_
  refine WP.seq ?_
  refine WP.reg ?_
  refine WL.q (Wn.no rfl) rfl rfl (R.bin (v := (.bool true)) rfl rfl (bi_lss (r := true) (by decide))) ?_
  refine WL.nil ?_
  refine thn_n ?_
  refine WP.seq ?_
  refine WP.condT rfl ?_
  refine WP.skip ?_
  refine thn_n ?_
  refine WP.seq ?_
  refine WP.block ?_
  refine WP.seq ?_
  refine WP.reg ?_
  refine WL.q (Wn.no rfl) rfl rfl (R.move (v := (vi 5)) rfl) ?_
  refine WL.q (Wn.no rfl) rfl rfl (R.assign (v := (vi 5)) rfl) ?_
  refine WL.nil ?_
  refine thn_n ?_
  refine WP.reg ?_
  refine WL.q (Wn.no rfl) rfl rfl (R.move (v := (.slice a_36 5 c_37)) rfl) ?_
  refine WL.q (Wn.no rfl) rfl rfl (R.move (v := (vi ((pg : Nat) : Int))) rfl) ?_
  refine WL.q (Wn.no rfl) rfl rfl (R.bin (v := (vi ((128 + pg : Nat) : Int))) rfl rfl (bi_add (c := ((128 + pg : Nat) : Int)) (by omega) (by omega))) ?_
  refine WL.q (Wn.no rfl) rfl rfl (R.move (v := (vi 5)) rfl) ?_
  refine WL.q (Wn.no rfl) rfl rfl (R.binR (v := (vi (((128 + pg) / 2 ^ 5 : Nat) : Int))) rfl rfl (run_shrN _ _ _ (128 + pg) _ 5 (by omega))) ?_
  refine WL.buildSl (vs := [(0, (vi (((128 + pg) / 2 ^ 5 : Nat) : Int)))]) (cs := ([(((128 + pg) / 2 ^ 5 : Nat) : Int)] : List Int).map vi64) h_39 Try.underlying70 Try.sizeOf3 (zv Try.typeInfo3 rfl) rfl rfl (by kernel_rfl) rfl (one_i64 _) rfl rfl (fun b_40 w_41 h_42 => ?_)
  refine WL.append (km := 6) (xs := ((((([(((128 + pg) / 2 ^ 0 : Nat) : Int)] : List Int) ++ ([(((128 + pg) / 2 ^ 1 : Nat) : Int)] : List Int)) ++ ([(((128 + pg) / 2 ^ 2 : Nat) : Int)] : List Int)) ++ ([(((128 + pg) / 2 ^ 3 : Nat) : Int)] : List Int)) ++ ([(((128 + pg) / 2 ^ 4 : Nat) : Int)] : List Int)).map vi64) (ys := ([(((128 + pg) / 2 ^ 5 : Nat) : Int)] : List Int).map vi64) (zs := (((((([(((128 + pg) / 2 ^ 0 : Nat) : Int)] : List Int) ++ ([(((128 + pg) / 2 ^ 1 : Nat) : Int)] : List Int)) ++ ([(((128 + pg) / 2 ^ 2 : Nat) : Int)] : List Int)) ++ ([(((128 + pg) / 2 ^ 3 : Nat) : Int)] : List Int)) ++ ([(((128 + pg) / 2 ^ 4 : Nat) : Int)] : List Int)) ++ ([(((128 + pg) / 2 ^ 5 : Nat) : Int)] : List Int)).map vi64) h_42 rfl rfl el70 (viewB (h_42.ok _ (.head _)) Sg.h) ((len_map (rfl : List.length ([(((128 + pg) / 2 ^ 5 : Nat) : Int)] : List Int) = 1)).trans (Nat.mul_one _).symm) (one_i64 _) (by simp only [List.map_append, List.map_nil]) rfl (by omega) (by omega) (fun _ _ => (At.t (At.t (At.t (At.t (At.t At.h)))))) rfl (fun a_43 c_44 w_45 h_46 => ?_)
  refine WL.q (Wn.no rfl) rfl rfl (R.assign (v := (.slice a_43 6 c_44)) rfl) ?_
  refine WL.nil ?_
  refine inb_n ?_
  refine thn_n ?_
  refine WP.reg ?_
  refine WL.q (Wn.no rfl) rfl rfl (R.bin (v := (vi 6)) rfl rfl (bi_add (c := 6) (by omega) (by omega))) ?_
  refine WL.q (Wn.no rfl) rfl rfl (R.move (v := (vi 6)) rfl) ?_
  refine WL.nil ?_
  refine thn_n ?_
  refine WI.round ?_
  refine WP.seq ?_
  refine WP.reg ?_
  refine WL.q (Wn.no rfl) rfl rfl (R.bin (v := (.bool true)) rfl rfl (bi_lss (r := true) (by decide))) ?_
  refine WL.nil ?_
  refine thn_n ?_
  refine WP.seq ?_
  refine WP.condT rfl ?_
  refine WP.skip ?_
  refine thn_n ?_
  refine WP.seq ?_
  refine WP.block ?_
  refine WP.seq ?_
  refine WP.reg ?_
  refine WL.q (Wn.no rfl) rfl rfl (R.move (v := (vi 6)) rfl) ?_
  refine WL.q (Wn.no rfl) rfl rfl (R.assign (v := (vi 6)) rfl) ?_
  refine WL.nil ?_
  refine thn_n ?_
  refine WP.reg ?_
  refine WL.q (Wn.no rfl) rfl rfl (R.move (v := (.slice a_43 6 c_44)) rfl) ?_
  refine WL.q (Wn.no rfl) rfl rfl (R.move (v := (vi ((pg : Nat) : Int))) rfl) ?_
  refine WL.q (Wn.no rfl) rfl rfl (R.bin (v := (vi ((128 + pg : Nat) : Int))) rfl rfl (bi_add (c := ((128 + pg : Nat) : Int)) (by omega) (by omega))) ?_
  refine WL.q (Wn.no rfl) rfl rfl (R.move (v := (vi 6)) rfl) ?_
  refine WL.q (Wn.no rfl) rfl rfl (R.binR (v := (vi (((128 + pg) / 2 ^ 6 : Nat) : Int))) rfl rfl (run_shrN _ _ _ (128 + pg) _ 6 (by omega))) ?_
  refine WL.buildSl (vs := [(0, (vi (((128 + pg) / 2 ^ 6 : Nat) : Int)))]) (cs := ([(((128 + pg) / 2 ^ 6 : Nat) : Int)] : List Int).map vi64) h_46 Try.underlying70 Try.sizeOf3 (zv Try.typeInfo3 rfl) rfl rfl (by kernel_rfl) rfl (one_i64 _) rfl rfl (fun b_47 w_48 h_49 => ?_)
  refine WL.append (km := 7) (xs := (((((([(((128 + pg) / 2 ^ 0 : Nat) : Int)] : List Int) ++ ([(((128 + pg) / 2 ^ 1 : Nat) : Int)] : List Int)) ++ ([(((128 + pg) / 2 ^ 2 : Nat) : Int)] : List Int)) ++ ([(((128 + pg) / 2 ^ 3 : Nat) : Int)] : List Int)) ++ ([(((128 + pg) / 2 ^ 4 : Nat) : Int)] : List Int)) ++ ([(((128 + pg) / 2 ^ 5 : Nat) : Int)] : List Int)).map vi64) (ys := ([(((128 + pg) / 2 ^ 6 : Nat) : Int)] : List Int).map vi64) (zs := ((((((([(((128 + pg) / 2 ^ 0 : Nat) : Int)] : List Int) ++ ([(((128 + pg) / 2 ^ 1 : Nat) : Int)] : List Int)) ++ ([(((128 + pg) / 2 ^ 2 : Nat) : Int)] : List Int)) ++ ([(((128 + pg) / 2 ^ 3 : Nat) : Int)] : List Int)) ++ ([(((128 + pg) / 2 ^ 4 : Nat) : Int)] : List Int)) ++ ([(((128 + pg) / 2 ^ 5 : Nat) : Int)] : List Int)) ++ ([(((128 + pg) / 2 ^ 6 : Nat) : Int)] : List Int)).map vi64) h_49 rfl rfl el70 (viewB (h_49.ok _ (.head _)) Sg.h) ((len_map (rfl : List.length ([(((128 + pg) / 2 ^ 6 : Nat) : Int)] : List Int) = 1)).trans (Nat.mul_one _).symm) (one_i64 _) (by simp only [List.map_append, List.map_nil]) rfl (by omega) (by omega) (fun _ _ => (At.t (At.t (At.t (At.t (At.t (At.t At.h))))))) rfl (fun a_50 c_51 w_52 h_53 => ?_)
  refine WL.q (Wn.no rfl) rfl rfl (R.assign (v := (.slice a_50 7 c_51)) rfl) ?_
  refine WL.nil ?_
  refine inb_n ?_
  refine thn_n ?_
  refine WP.reg ?_
  refine WL.q (Wn.no rfl) rfl rfl (R.bin (v := (vi 7)) rfl rfl (bi_add (c := 7) (by omega) (by omega))) ?_
  refine WL.q (Wn.no rfl) rfl rfl (R.move (v := (vi 7)) rfl) ?_
  refine WL.nil ?_
  refine thn_n ?_
  refine WI.round ?_
  refine WP.seq ?_
  refine WP.reg ?_
  refine WL.q (Wn.no rfl) rfl rfl (R.bin (v := (.bool true)) rfl rfl (bi_lss (r := true) (by decide))) ?_
  refine WL.nil ?_
  refine thn_n ?_
  refine WP.seq ?_
  refine WP.condT rfl ?_
  refine WP.skip ?_
  refine thn_n ?_
  refine WP.seq ?_
  refine WP.block ?_
  refine WP.seq ?_
  refine WP.reg ?_
  refine WL.q (Wn.no rfl) rfl rfl (R.move (v := (vi 7)) rfl) ?_
  refine WL.q (Wn.no rfl) rfl rfl (R.assign (v := (vi 7)) rfl) ?_
  refine WL.nil ?_
  refine thn_n ?_
  refine WP.reg ?_
  refine WL.q (Wn.no rfl) rfl rfl (R.move (v := (.slice a_50 7 c_51)) rfl) ?_
  refine WL.q (Wn.no rfl) rfl rfl (R.move (v := (vi ((pg : Nat) : Int))) rfl) ?_
  refine WL.q (Wn.no rfl) rfl rfl (R.bin (v := (vi ((128 + pg : Nat) : Int))) rfl rfl (bi_add (c := ((128 + pg : Nat) : Int)) (by omega) (by omega))) ?_
  refine WL.q (Wn.no rfl) rfl rfl (R.move (v := (vi 7)) rfl) ?_
  refine WL.q (Wn.no rfl) rfl rfl (R.binR (v := (vi (((128 + pg) / 2 ^ 7 : Nat) : Int))) rfl rfl (run_shrN _ _ _ (128 + pg) _ 7 (by omega))) ?_
  refine WL.buildSl (vs := [(0, (vi (((128 + pg) / 2 ^ 7 : Nat) : Int)))]) (cs := ([(((128 + pg) / 2 ^ 7 : Nat) : Int)] : List Int).map vi64) h_53 Try.underlying70 Try.sizeOf3 (zv Try.typeInfo3 rfl) rfl rfl (by kernel_rfl) rfl (one_i64 _) rfl rfl (fun b_54 w_55 h_56 => ?_)
  refine WL.append (km := 8) (xs := ((((((([(((128 + pg) / 2 ^ 0 : Nat) : Int)] : List Int) ++ ([(((128 + pg) / 2 ^ 1 : Nat) : Int)] : List Int)) ++ ([(((128 + pg) / 2 ^ 2 : Nat) : Int)] : List Int)) ++ ([(((128 + pg) / 2 ^ 3 : Nat) : Int)] : List Int)) ++ ([(((128 + pg) / 2 ^ 4 : Nat) : Int)] : List Int)) ++ ([(((128 + pg) / 2 ^ 5 : Nat) : Int)] : List Int)) ++ ([(((128 + pg) / 2 ^ 6 : Nat) : Int)] : List Int)).map vi64) (ys := ([(((128 + pg) / 2 ^ 7 : Nat) : Int)] : List Int).map vi64) (zs := (((((((([(((128 + pg) / 2 ^ 0 : Nat) : Int)] : List Int) ++ ([(((128 + pg) / 2 ^ 1 : Nat) : Int)] : List Int)) ++ ([(((128 + pg) / 2 ^ 2 : Nat) : Int)] : List Int)) ++ ([(((128 + pg) / 2 ^ 3 : Nat) : Int)] : List Int)) ++ ([(((128 + pg) / 2 ^ 4 : Nat) : Int)] : List Int)) ++ ([(((128 + pg) / 2 ^ 5 : Nat) : Int)] : List Int)) ++ ([(((128 + pg) / 2 ^ 6 : Nat) : Int)] : List Int)) ++ ([(((128 + pg) / 2 ^ 7 : Nat) : Int)] : List Int)).map vi64) h_56 rfl rfl el70 (viewB (h_56.ok _ (.head _)) Sg.h) ((len_map (rfl : List.length ([(((128 + pg) / 2 ^ 7 : Nat) : Int)] : List Int) = 1)).trans (Nat.mul_one _).symm) (one_i64 _) (by simp only [List.map_append, List.map_nil]) rfl (by omega) (by omega) (fun _ _ => (At.t (At.t (At.t (At.t (At.t (At.t (At.t At.h)))))))) rfl (fun a_57 c_58 w_59 h_60 => ?_)
  refine WL.q (Wn.no rfl) rfl rfl (R.assign (v := (.slice a_57 8 c_58)) rfl) ?_
  refine WL.nil ?_
  refine inb_n ?_
  refine thn_n ?_
  refine WP.reg ?_
  refine WL.q (Wn.no rfl) rfl rfl (R.bin (v := (vi 8)) rfl rfl (bi_add (c := 8) (by omega) (by omega))) ?_
  refine WL.q (Wn.no rfl) rfl rfl (R.move (v := (vi 8)) rfl) ?_
  refine WL.nil ?_
  refine thn_n ?_
  refine WI.round ?_
  refine WP.seq ?_
  refine WP.reg ?_
  refine WL.q (Wn.no rfl) rfl rfl (R.bin (v := (.bool false)) rfl rfl (bi_lss (r := false) (by decide))) ?_
  refine WL.nil ?_
  refine thn_n ?_
  refine WP.seq ?_
  refine WP.condF rfl ?_
  refine WP.exit ?_
  refine thn_x ?_
  refine thn_x ?_
  refine inb_hit ?_
  refine thn_n ?_
  refine WP.seq ?_
  refine WP.reg ?_
  refine WL.q (Wn.no rfl) rfl rfl (R.move (v := (.slice a_57 8 c_58)) rfl) ?_
  refine WL.q (Wn.no rfl) rfl rfl (R.assign (v := (.slice a_57 8 c_58)) rfl) ?_
  refine WL.q (Wn.no rfl) rfl rfl (R.assign (v := (vi 0)) rfl) ?_
  refine WL.nil ?_
  refine thn_n ?_
  refine WP.ret ?_
  refine ret_of Try.results28 (RV.tmp (v := (.slice a_57 8 c_58)) rfl (RV.tmp (v := (vi 0)) rfl RV.nil)) ?_
  exact ⟨_, _, rfl, h_60.chgS, h_60.ok _ (.tail _ (.tail _ (.tail _ (.tail _ (.tail _ (.tail _ (.tail _ (.head _))))))))⟩

theorem c_Way_f (pg : Int) (h : ¬ (0 ≤ pg ∧ pg < 128)) (w : World) :
    Cs Try.prog 28 [(vi pg)].toArray w (fun v w1 => v = (.tuple [(.slice none 0 0), (vi 2)].toArray) ∧ Chg w w1 []) := by
  refine Cs.of (n := 21) (args := [(vi pg)]) Try.func28 rfl rfl rfl ?_
  have h_0 := HP.init w
  refine WP.seq ?_
  refine WP.reg ?_
  refine WL.q (Wn.no rfl) rfl rfl (R.assign (v := (.slice none 0 0)) rfl) ?_
  refine WL.q (Wn.no rfl) rfl rfl (R.assign (v := (vi 0)) rfl) ?_
  refine WL.nil ?_
  refine thn_n ?_
  refine WP.seq ?_
  refine WP.seq ?_
  refine WP.reg ?_
  refine WL.q (Wn.no rfl) rfl rfl (R.move (v := (vi pg)) rfl) ?_
  refine WL.call (al := [(vi pg)]) Try.call60 rfl rfl (c_prot_f pg (by omega) _ ) rfl ?_
  rintro _ w_2 ⟨rfl, hc_1⟩
  have h_3 := h_0.same hc_1
  refine WL.q (Wn.no rfl) rfl rfl (R.not (b := false) rfl) ?_
  refine WL.nil ?_
  refine thn_n ?_
  refine WP.condT rfl ?_
  refine WP.seq ?_
  refine WP.reg ?_
  refine WL.q (Wn.no rfl) rfl rfl (R.assign (v := (.slice none 0 0)) rfl) ?_
  refine WL.q (Wn.no rfl) rfl rfl (R.assign (v := (vi 2)) rfl) ?_
  refine WL.nil ?_
  refine thn_n ?_
  refine WP.ret ?_
  refine thn_r ?_
  refine ret_of Try.results28 (RV.tmp (v := (.slice none 0 0)) rfl (RV.tmp (v := (vi 2)) rfl RV.nil)) ?_
  exact ⟨rfl, h_3.chgS⟩

theorem c_Bes_t (pg : Nat) (h : pg < 128) (w : World) :
    Cs Try.prog 29 [(vi ((pg : Nat) : Int))].toArray w (fun v w1 => ∃ a cap, v = .tuple [.slice a 7 cap, vi 0].toArray ∧ Chg w w1 [] ∧ Own w.heap.size w1 3 1 a 7 cap ((bsL pg).map vi64)) := by
  refine Cs.of (n := 29) (args := [(vi ((pg : Nat) : Int))]) Try.func29 rfl rfl rfl ?_
  have h_0 := HP.init w
  refine WP.seq ?_
  refine WP.reg ?_
  refine WL.q (Wn.no rfl) rfl rfl (R.assign (v := (.slice none 0 0)) rfl) ?_
  refine WL.q (Wn.no rfl) rfl rfl (R.assign (v := (vi 0)) rfl) ?_
  refine WL.nil ?_
  refine thn_n ?_
  refine WP.seq ?_
  refine WP.reg ?_
  refine WL.q (Wn.no rfl) rfl rfl (R.move (v := (vi ((pg : Nat) : Int))) rfl) ?_
  refine WL.call (al := [(vi ((pg : Nat) : Int))]) Try.call28 rfl rfl (c_Way_t pg (by omega) _) rfl ?_
  rintro _ w_3 ⟨a_1, cap_2, rfl, hc_4, ho_5⟩
  have h_6 := h_0.gotRow hc_4 ho_5
  refine WL.q (Wn.no rfl) rfl rfl (R.move (v := (.tuple [(.slice a_1 8 cap_2), (vi 0)].toArray)) rfl) ?_
  refine WL.q (Wn.no rfl) rfl rfl (R.extract (l := [(.slice a_1 8 cap_2), (vi 0)]) (v := (.slice a_1 8 cap_2)) rfl rfl) ?_
  refine WL.q (Wn.no rfl) rfl rfl (R.extract (l := [(.slice a_1 8 cap_2), (vi 0)]) (v := (vi 0)) rfl rfl) ?_
  refine WL.q (Wn.no rfl) rfl rfl (R.assign (v := (.slice a_1 8 cap_2)) rfl) ?_
  refine WL.q (Wn.no rfl) rfl rfl (R.assign (v := (vi 0)) rfl) ?_
  refine WL.nil ?_
  refine thn_n ?_
  refine WP.seq ?_
  refine WP.seq ?_
  refine WP.reg ?_
  refine WL.q (Wn.no rfl) rfl rfl (R.move (v := (vi 0)) rfl) ?_
  refine WL.q (Wn.no rfl) rfl rfl (R.bin (v := (.bool false)) rfl rfl (bi_neq (r := false) (by decide))) ?_
  refine WL.nil ?_
  refine thn_n ?_
  refine WP.condF rfl ?_
  refine WP.skip ?_
  refine thn_n ?_
  refine WP.seq ?_
  refine WP.seq ?_
  refine WP.reg ?_
  refine WL.q (Wn.no rfl) rfl rfl (R.move (v := (.slice a_1 8 cap_2)) rfl) ?_
  refine WL.q (Wn.no rfl) rfl rfl (R.lenS (a := a_1) (m := 8) rfl rfl Try.underlying70) ?_
  refine WL.q (Wn.no rfl) rfl rfl (R.move (v := (vi 0)) rfl) ?_
  refine WL.nil ?_
  refine thn_n ?_
  refine WP.block ?_
  refine WP.loopU (WI.round ?_)
  refine WP.seq ?_
  refine WP.reg ?_
  refine WL.q (Wn.no rfl) rfl rfl (R.bin (v := (.bool true)) rfl rfl (bi_lss (r := true) (by decide))) ?_
  refine WL.nil ?_
  refine thn_n ?_
  refine WP.seq ?_
  refine WP.condT rfl ?_
  refine WP.skip ?_
  refine thn_n ?_
  refine WP.seq ?_
  refine WP.block ?_
  refine WP.seq ?_
  refine WP.reg ?_
  refine WL.q (Wn.no rfl) rfl rfl (R.move (v := (vi 0)) rfl) ?_
  refine WL.q (Wn.no rfl) rfl rfl (R.assign (v := (vi 0)) rfl) ?_
  refine WL.nil ?_
  refine thn_n ?_
  refine WP.reg ?_
  refine WL.q (Wn.no rfl) rfl rfl (R.move (v := (.slice a_1 8 cap_2)) rfl) ?_
  refine WL.q (Wn.no rfl) rfl rfl (R.move (v := (vi 0)) rfl) ?_
  refine WL.q (Wn.no rfl) rfl rfl (R.indexS (a := a_1) (i := 0) (off := 0) (xs := (wayL pg).map vi64) rfl rfl rfl (by decide) (ownView (h_6.ok _ (.head _))) (lt_len (K := 8) (len_map (rfl : List.length (wayL pg) = 8)) (by omega)) Try.underlying70 Try.sizeOf3 (Nat.mul_one _).symm) ?_
  refine WL.q (Wn.no rfl) rfl rfl (R.loadG (a := a_1) (i := 0) (xs := (wayL pg).map vi64) (v := (vi (((128 + pg) / 2 ^ 0 : Nat) : Int))) rfl (ownView (h_6.ok _ (.head _))) Try.isAgg3 rfl) ?_
  refine WL.q (Wn.no rfl) rfl rfl (R.bin (v := (vi ((((128 + pg) / 2 ^ 0) ^^^ 1 : Nat) : Int))) rfl rfl (bi_xorN (m := (128 + pg) / 2 ^ 0) (n := 1) (by omega) (by omega))) ?_
  refine WL.q (Wn.no rfl) rfl rfl (R.indexS (a := a_1) (i := 0) (off := 0) (xs := (wayL pg).map vi64) rfl rfl rfl (by decide) (ownView (h_6.ok _ (.head _))) (lt_len (K := 8) (len_map (rfl : List.length (wayL pg) = 8)) (by omega)) Try.underlying70 Try.sizeOf3 (Nat.mul_one _).symm) ?_
  refine WL.storeR (a := a_1) (i := 0) (v := (vi ((((128 + pg) / 2 ^ 0) ^^^ 1 : Nat) : Int))) (xs' := ([((((128 + pg) / 2 ^ 0) ^^^ 1 : Nat) : Int), (((128 + pg) / 2 ^ 1 : Nat) : Int), (((128 + pg) / 2 ^ 2 : Nat) : Int), (((128 + pg) / 2 ^ 3 : Nat) : Int), (((128 + pg) / 2 ^ 4 : Nat) : Int), (((128 + pg) / 2 ^ 5 : Nat) : Int), (((128 + pg) / 2 ^ 6 : Nat) : Int), (((128 + pg) / 2 ^ 7 : Nat) : Int)] : List Int).map vi64) h_6 rfl rfl Try.sizeOf3 rfl At.h (lt_len (K := 8) (len_map (rfl : List.length (wayL pg) = 8)) (by omega)) ((set_i64 _ _ _).trans rfl) (fun w_7 h_8 => ?_)
  refine WL.nil ?_
  refine inb_n ?_
  refine thn_n ?_
  refine WP.reg ?_
  refine WL.q (Wn.no rfl) rfl rfl (R.bin (v := (vi 1)) rfl rfl (bi_add (c := 1) (by omega) (by omega))) ?_
  refine WL.q (Wn.no rfl) rfl rfl (R.move (v := (vi 1)) rfl) ?_
  refine WL.nil ?_
  refine thn_n ?_
  refine WI.round ?_
  refine WP.seq ?_
  refine WP.reg ?_
  refine WL.q (Wn.no rfl) rfl rfl (R.bin (v := (.bool true)) rfl rfl (bi_lss (r := true) (by decide))) ?_
  refine WL.nil ?_
  refine thn_n ?_
  refine WP.seq ?_
  refine WP.condT rfl ?_
  refine WP.skip ?_
  refine thn_n ?_
  refine WP.seq ?_
  refine WP.block ?_
  refine WP.seq ?_
  refine WP.reg ?_
  refine WL.q (Wn.no rfl) rfl rfl (R.move (v := (vi 1)) rfl) ?_
  refine WL.q (Wn.no rfl) rfl rfl (R.assign (v := (vi 1)) rfl) ?_
  refine WL.nil ?_
  refine thn_n ?_
  refine WP.reg ?_
  refine WL.q (Wn.no rfl) rfl rfl (R.move (v := (.slice a_1 8 cap_2)) rfl) ?_
  refine WL.q (Wn.no rfl) rfl rfl (R.move (v := (vi 1)) rfl) ?_
  refine WL.q (Wn.no rfl) rfl rfl (R.indexS (a := a_1) (i := 1) (off := 1) (xs := ([((((128 + pg) / 2 ^ 0) ^^^ 1 : Nat) : Int), (((128 + pg) / 2 ^ 1 : Nat) : Int), (((128 + pg) / 2 ^ 2 : Nat) : Int), (((128 + pg) / 2 ^ 3 : Nat) : Int), (((128 + pg) / 2 ^ 4 : Nat) : Int), (((128 + pg) / 2 ^ 5 : Nat) : Int), (((128 + pg) / 2 ^ 6 : Nat) : Int), (((128 + pg) / 2 ^ 7 : Nat) : Int)] : List Int).map vi64) rfl rfl rfl (by decide) (ownView (h_8.ok _ (.head _))) (lt_len (K := 8) (len_map (rfl : List.length ([((((128 + pg) / 2 ^ 0) ^^^ 1 : Nat) : Int), (((128 + pg) / 2 ^ 1 : Nat) : Int), (((128 + pg) / 2 ^ 2 : Nat) : Int), (((128 + pg) / 2 ^ 3 : Nat) : Int), (((128 + pg) / 2 ^ 4 : Nat) : Int), (((128 + pg) / 2 ^ 5 : Nat) : Int), (((128 + pg) / 2 ^ 6 : Nat) : Int), (((128 + pg) / 2 ^ 7 : Nat) : Int)] : List Int) = 8)) (by omega)) Try.underlying70 Try.sizeOf3 (Nat.mul_one _).symm) ?_
  refine WL.q (Wn.no rfl) rfl rfl (R.loadG (a := a_1) (i := 1) (xs := ([((((128 + pg) / 2 ^ 0) ^^^ 1 : Nat) : Int), (((128 + pg) / 2 ^ 1 : Nat) : Int), (((128 + pg) / 2 ^ 2 : Nat) : Int), (((128 + pg) / 2 ^ 3 : Nat) : Int), (((128 + pg) / 2 ^ 4 : Nat) : Int), (((128 + pg) / 2 ^ 5 : Nat) : Int), (((128 + pg) / 2 ^ 6 : Nat) : Int), (((128 + pg) / 2 ^ 7 : Nat) : Int)] : List Int).map vi64) (v := (vi (((128 + pg) / 2 ^ 1 : Nat) : Int))) rfl (ownView (h_8.ok _ (.head _))) Try.isAgg3 rfl) ?_
  refine WL.q (Wn.no rfl) rfl rfl (R.bin (v := (vi ((((128 + pg) / 2 ^ 1) ^^^ 1 : Nat) : Int))) rfl rfl (bi_xorN (m := (128 + pg) / 2 ^ 1) (n := 1) (by omega) (by omega))) ?_
  refine WL.q (Wn.no rfl) rfl rfl (R.indexS (a := a_1) (i := 1) (off := 1) (xs := ([((((128 + pg) / 2 ^ 0) ^^^ 1 : Nat) : Int), (((128 + pg) / 2 ^ 1 : Nat) : Int), (((128 + pg) / 2 ^ 2 : Nat) : Int), (((128 + pg) / 2 ^ 3 : Nat) : Int), (((128 + pg) / 2 ^ 4 : Nat) : Int), (((128 + pg) / 2 ^ 5 : Nat) : Int), (((128 + pg) / 2 ^ 6 : Nat) : Int), (((128 + pg) / 2 ^ 7 : Nat) : Int)] : List Int).map vi64) rfl rfl rfl (by decide) (ownView (h_8.ok _ (.head _))) (lt_len (K := 8) (len_map (rfl : List.length ([((((128 + pg) / 2 ^ 0) ^^^ 1 : Nat) : Int), (((128 + pg) / 2 ^ 1 : Nat) : Int), (((128 + pg) / 2 ^ 2 : Nat) : Int), (((128 + pg) / 2 ^ 3 : Nat) : Int), (((128 + pg) / 2 ^ 4 : Nat) : Int), (((128 + pg) / 2 ^ 5 : Nat) : Int), (((128 + pg) / 2 ^ 6 : Nat) : Int), (((128 + pg) / 2 ^ 7 : Nat) : Int)] : List Int) = 8)) (by omega)) Try.underlying70 Try.sizeOf3 (Nat.mul_one _).symm) ?_
  refine WL.storeR (a := a_1) (i := 1) (v := (vi ((((128 + pg) / 2 ^ 1) ^^^ 1 : Nat) : Int))) (xs' := ([((((128 + pg) / 2 ^ 0) ^^^ 1 : Nat) : Int), ((((128 + pg) / 2 ^ 1) ^^^ 1 : Nat) : Int), (((128 + pg) / 2 ^ 2 : Nat) : Int), (((128 + pg) / 2 ^ 3 : Nat) : Int), (((128 + pg) / 2 ^ 4 : Nat) : Int), (((128 + pg) / 2 ^ 5 : Nat) : Int), (((128 + pg) / 2 ^ 6 : Nat) : Int), (((128 + pg) / 2 ^ 7 : Nat) : Int)] : List Int).map vi64) h_8 rfl rfl Try.sizeOf3 rfl At.h (lt_len (K := 8) (len_map (rfl : List.length ([((((128 + pg) / 2 ^ 0) ^^^ 1 : Nat) : Int), (((128 + pg) / 2 ^ 1 : Nat) : Int), (((128 + pg) / 2 ^ 2 : Nat) : Int), (((128 + pg) / 2 ^ 3 : Nat) : Int), (((128 + pg) / 2 ^ 4 : Nat) : Int), (((128 + pg) / 2 ^ 5 : Nat) : Int), (((128 + pg) / 2 ^ 6 : Nat) : Int), (((128 + pg) / 2 ^ 7 : Nat) : Int)] : List Int) = 8)) (by omega)) ((set_i64 _ _ _).trans rfl) (fun w_9 h_10 => ?_)
  refine WL.nil ?_
  refine inb_n ?_
  refine thn_n ?_
  refine WP.reg ?_
  refine WL.q (Wn.no rfl) rfl rfl (R.bin (v := (vi 2)) rfl rfl (bi_add (c := 2) (by omega) (by omega))) ?_
  refine WL.q (Wn.no rfl) rfl rfl (R.move (v := (vi 2)) rfl) ?_
  refine WL.nil ?_
  refine thn_n ?_
  refine WI.round ?_
  refine WP.seq ?_
  refine WP.reg ?_
  refine WL.q (Wn.no rfl) rfl rfl (R.bin (v := (.bool true)) rfl rfl (bi_lss (r := true) (by decide))) ?_
  refine WL.nil ?_
  refine thn_n ?_
  refine WP.seq ?_
  refine WP.condT rfl ?_
  refine WP.skip ?_
  refine thn_n ?_
  refine WP.seq ?_
  refine WP.block ?_
  refine WP.seq ?_
  refine WP.reg ?_
  refine WL.q (Wn.no rfl) rfl rfl (R.move (v := (vi 2)) rfl) ?_
  refine WL.q (Wn.no rfl) rfl rfl (R.assign (v := (vi 2)) rfl) ?_
  refine WL.nil ?_
  refine thn_n ?_
  refine WP.reg ?_
  refine WL.q (Wn.no rfl) rfl rfl (R.move (v := (.slice a_1 8 cap_2)) rfl) ?_
  refine WL.q (Wn.no rfl) rfl rfl (R.move (v := (vi 2)) rfl) ?_
  refine WL.q (Wn.no rfl) rfl rfl (R.indexS (a := a_1) (i := 2) (off := 2) (xs := ([((((128 + pg) / 2 ^ 0) ^^^ 1 : Nat) : Int), ((((128 + pg) / 2 ^ 1) ^^^ 1 : Nat) : Int), (((128 + pg) / 2 ^ 2 : Nat) : Int), (((128 + pg) / 2 ^ 3 : Nat) : Int), (((128 + pg) / 2 ^ 4 : Nat) : Int), (((128 + pg) / 2 ^ 5 : Nat) : Int), (((128 + pg) / 2 ^ 6 : Nat) : Int), (((128 + pg) / 2 ^ 7 : Nat) : Int)] : List Int).map vi64) rfl rfl rfl (by decide) (ownView (h_10.ok _ (.head _))) (lt_len (K := 8) (len_map (rfl : List.length ([((((128 + pg) / 2 ^ 0) ^^^ 1 : Nat) : Int), ((((128 + pg) / 2 ^ 1) ^^^ 1 : Nat) : Int), (((128 + pg) / 2 ^ 2 : Nat) : Int), (((128 + pg) / 2 ^ 3 : Nat) : Int), (((128 + pg) / 2 ^ 4 : Nat) : Int), (((128 + pg) / 2 ^ 5 : Nat) : Int), (((128 + pg) / 2 ^ 6 : Nat) : Int), (((128 + pg) / 2 ^ 7 : Nat) : Int)] : List Int) = 8)) (by omega)) Try.underlying70 Try.sizeOf3 (Nat.mul_one _).symm) ?_
  refine WL.q (Wn.no rfl) rfl rfl (R.loadG (a := a_1) (i := 2) (xs := ([((((128 + pg) / 2 ^ 0) ^^^ 1 : Nat) : Int), ((((128 + pg) / 2 ^ 1) ^^^ 1 : Nat) : Int), (((128 + pg) / 2 ^ 2 : Nat) : Int), (((128 + pg) / 2 ^ 3 : Nat) : Int), (((128 + pg) / 2 ^ 4 : Nat) : Int), (((128 + pg) / 2 ^ 5 : Nat) : Int), (((128 + pg) / 2 ^ 6 : Nat) : Int), (((128 + pg) / 2 ^ 7 : Nat) : Int)] : List Int).map vi64) (v := (vi (((128 + pg) / 2 ^ 2 : Nat) : Int))) rfl (ownView (h_10.ok _ (.head _))) Try.isAgg3 rfl) ?_
  refine WL.q (Wn.no rfl) rfl rfl (R.bin (v := (vi ((((128 + pg) / 2 ^ 2) ^^^ 1 : Nat) : Int))) rfl rfl (bi_xorN (m := (128 + pg) / 2 ^ 2) (n := 1) (by omega) (by omega))) ?_
  refine WL.q (Wn.no rfl) rfl rfl (R.indexS (a := a_1) (i := 2) (off := 2) (xs := ([((((128 + pg) / 2 ^ 0) ^^^ 1 : Nat) : Int), ((((128 + pg) / 2 ^ 1) ^^^ 1 : Nat) : Int), (((128 + pg) / 2 ^ 2 : Nat) : Int), (((128 + pg) / 2 ^ 3 : Nat) : Int), (((128 + pg) / 2 ^ 4 : Nat) : Int), (((128 + pg) / 2 ^ 5 : Nat) : Int), (((128 + pg) / 2 ^ 6 : Nat) : Int), (((128 + pg) / 2 ^ 7 : Nat) : Int)] : List Int).map vi64) rfl rfl rfl (by decide) (ownView (h_10.ok _ (.head _))) (lt_len (K := 8) (len_map (rfl : List.length ([((((128 + pg) / 2 ^ 0) ^^^ 1 : Nat) : Int), ((((128 + pg) / 2 ^ 1) ^^^ 1 : Nat) : Int), (((128 + pg) / 2 ^ 2 : Nat) : Int), (((128 + pg) / 2 ^ 3 : Nat) : Int), (((128 + pg) / 2 ^ 4 : Nat) : Int), (((128 + pg) / 2 ^ 5 : Nat) : Int), (((128 + pg) / 2 ^ 6 : Nat) : Int), (((128 + pg) / 2 ^ 7 : Nat) : Int)] : List Int) = 8)) (by omega)) Try.underlying70 Try.sizeOf3 (Nat.mul_one _).symm) ?_
  refine WL.storeR (a := a_1) (i := 2) (v := (vi ((((128 + pg) / 2 ^ 2) ^^^ 1 : Nat) : Int))) (xs' := ([((((128 + pg) / 2 ^ 0) ^^^ 1 : Nat) : Int), ((((128 + pg) / 2 ^ 1) ^^^ 1 : Nat) : Int), ((((128 + pg) / 2 ^ 2) ^^^ 1 : Nat) : Int), (((128 + pg) / 2 ^ 3 : Nat) : Int), (((128 + pg) / 2 ^ 4 : Nat) : Int), (((128 + pg) / 2 ^ 5 : Nat) : Int), (((128 + pg) / 2 ^ 6 : Nat) : Int), (((128 + pg) / 2 ^ 7 : Nat) : Int)] : List Int).map vi64) h_10 rfl rfl Try.sizeOf3 rfl At.h (lt_len (K := 8) (len_map (rfl : List.length ([((((128 + pg) / 2 ^ 0) ^^^ 1 : Nat) : Int), ((((128 + pg) / 2 ^ 1) ^^^ 1 : Nat) : Int), (((128 + pg) / 2 ^ 2 : Nat) : Int), (((128 + pg) / 2 ^ 3 : Nat) : Int), (((128 + pg) / 2 ^ 4 : Nat) : Int), (((128 + pg) / 2 ^ 5 : Nat) : Int), (((128 + pg) / 2 ^ 6 : Nat) : Int), (((128 + pg) / 2 ^ 7 : Nat) : Int)] : List Int) = 8)) (by omega)) ((set_i64 _ _ _).trans rfl) (fun w_11 h_12 => ?_)
  refine WL.nil ?_
  refine inb_n ?_
  refine thn_n ?_
  refine WP.reg ?_
  refine WL.q (Wn.no rfl) rfl rfl (R.bin (v := (vi 3)) rfl rfl (bi_add (c := 3) (by omega) (by omega))) ?_
  refine WL.q (Wn.no rfl) rfl rfl (R.move (v := (vi 3)) rfl) ?_
  refine WL.nil ?_
  refine thn_n ?_
  refine WI.round ?_
  refine WP.seq ?_
  refine WP.reg ?_
  refine WL.q (Wn.no rfl) rfl rfl (R.bin (v := (.bool true)) rfl rfl (bi_lss (r := true) (by decide))) ?_
  refine WL.nil ?_
  refine thn_n ?_
  refine WP.seq ?_
  refine WP.condT rfl ?_
  refine WP.skip ?_
  refine thn_n ?_
  refine WP.seq ?_
  refine WP.block ?_
  refine WP.seq ?_
  refine WP.reg ?_
  refine WL.q (Wn.no rfl) rfl rfl (R.move (v := (vi 3)) rfl) ?_
  refine WL.q (Wn.no rfl) rfl rfl (R.assign (v := (vi 3)) rfl) ?_
  refine WL.nil ?_
  refine thn_n ?_
  refine WP.reg ?_
  refine WL.q (Wn.no rfl) rfl rfl (R.move (v := (.slice a_1 8 cap_2)) rfl) ?_
  refine WL.q (Wn.no rfl) rfl rfl (R.move (v := (vi 3)) rfl) ?_
  refine WL.q (Wn.no rfl) rfl rfl (R.indexS (a := a_1) (i := 3) (off := 3) (xs := ([((((128 + pg) / 2 ^ 0) ^^^ 1 : Nat) : Int), ((((128 + pg) / 2 ^ 1) ^^^ 1 : Nat) : Int), ((((128 + pg) / 2 ^ 2) ^^^ 1 : Nat) : Int), (((128 + pg) / 2 ^ 3 : Nat) : Int), (((128 + pg) / 2 ^ 4 : Nat) : Int), (((128 + pg) / 2 ^ 5 : Nat) : Int), (((128 + pg) / 2 ^ 6 : Nat) : Int), (((128 + pg) / 2 ^ 7 : Nat) : Int)] : List Int).map vi64) rfl rfl rfl (by decide) (ownView (h_12.ok _ (.head _))) (lt_len (K := 8) (len_map (rfl : List.length ([((((128 + pg) / 2 ^ 0) ^^^ 1 : Nat) : Int), ((((128 + pg) / 2 ^ 1) ^^^ 1 : Nat) : Int), ((((128 + pg) / 2 ^ 2) ^^^ 1 : Nat) : Int), (((128 + pg) / 2 ^ 3 : Nat) : Int), (((128 + pg) / 2 ^ 4 : Nat) : Int), (((128 + pg) / 2 ^ 5 : Nat) : Int), (((128 + pg) / 2 ^ 6 : Nat) : Int), (((128 + pg) / 2 ^ 7 : Nat) : Int)] : List Int) = 8)) (by omega)) Try.underlying70 Try.sizeOf3 (Nat.mul_one _).symm) ?_
  refine WL.q (Wn.no rfl) rfl rfl (R.loadG (a := a_1) (i := 3) (xs := ([((((128 + pg) / 2 ^ 0) ^^^ 1 : Nat) : Int), ((((128 + pg) / 2 ^ 1) ^^^ 1 : Nat) : Int), ((((128 + pg) / 2 ^ 2) ^^^ 1 : Nat) : Int), (((128 + pg) / 2 ^ 3 : Nat) : Int), (((128 + pg) / 2 ^ 4 : Nat) : Int), (((128 + pg) / 2 ^ 5 : Nat) : Int), (((128 + pg) / 2 ^ 6 : Nat) : Int), (((128 + pg) / 2 ^ 7 : Nat) : Int)] : List Int).map vi64) (v := (vi (((128 + pg) / 2 ^ 3 : Nat) : Int))) rfl (ownView (h_12.ok _ (.head _))) Try.isAgg3 rfl) ?_
  refine WL.q (Wn.no rfl) rfl rfl (R.bin (v := (vi ((((128 + pg) / 2 ^ 3) ^^^ 1 : Nat) : Int))) rfl rfl (bi_xorN (m := (128 + pg) / 2 ^ 3) (n := 1) (by omega) (by omega))) ?_
  refine WL.q (Wn.no rfl) rfl rfl (R.indexS (a := a_1) (i := 3) (off := 3) (xs := ([((((128 + pg) / 2 ^ 0) ^^^ 1 : Nat) : Int), ((((128 + pg) / 2 ^ 1) ^^^ 1 : Nat) : Int), ((((128 + pg) / 2 ^ 2) ^^^ 1 : Nat) : Int), (((128 + pg) / 2 ^ 3 : Nat) : Int), (((128 + pg) / 2 ^ 4 : Nat) : Int), (((128 + pg) / 2 ^ 5 : Nat) : Int), (((128 + pg) / 2 ^ 6 : Nat) : Int), (((128 + pg) / 2 ^ 7 : Nat) : Int)] : List Int).map vi64) rfl rfl rfl (by decide) (ownView (h_12.ok _ (.head _))) (lt_len (K := 8) (len_map (rfl : List.length ([((((128 + pg) / 2 ^ 0) ^^^ 1 : Nat) : Int), ((((128 + pg) / 2 ^ 1) ^^^ 1 : Nat) : Int), ((((128 + pg) / 2 ^ 2) ^^^ 1 : Nat) : Int), (((128 + pg) / 2 ^ 3 : Nat) : Int), (((128 + pg) / 2 ^ 4 : Nat) : Int), (((128 + pg) / 2 ^ 5 : Nat) : Int), (((128 + pg) / 2 ^ 6 : Nat) : Int), (((128 + pg) / 2 ^ 7 : Nat) : Int)] : List Int) = 8)) (by omega)) Try.underlying70 Try.sizeOf3 (Nat.mul_one _).symm) ?_
  refine WL.storeR (a := a_1) (i := 3) (v := (vi ((((128 + pg) / 2 ^ 3) ^^^ 1 : Nat) : Int))) (xs' := ([((((128 + pg) / 2 ^ 0) ^^^ 1 : Nat) : Int), ((((128 + pg) / 2 ^ 1) ^^^ 1 : Nat) : Int), ((((128 + pg) / 2 ^ 2) ^^^ 1 : Nat) : Int), ((((128 + pg) / 2 ^ 3) ^^^ 1 : Nat) : Int), (((128 + pg) / 2 ^ 4 : Nat) : Int), (((128 + pg) / 2 ^ 5 : Nat) : Int), (((128 + pg) / 2 ^ 6 : Nat) : Int), (((128 + pg) / 2 ^ 7 : Nat) : Int)] : List Int).map vi64) h_12 rfl rfl Try.sizeOf3 rfl At.h (lt_len (K := 8) (len_map (rfl : List.length ([((((128 + pg) / 2 ^ 0) ^^^ 1 : Nat) : Int), ((((128 + pg) / 2 ^ 1) ^^^ 1 : Nat) : Int), ((((128 + pg) / 2 ^ 2) ^^^ 1 : Nat) : Int), (((128 + pg) / 2 ^ 3 : Nat) : Int), (((128 + pg) / 2 ^ 4 : Nat) : Int), (((128 + pg) / 2 ^ 5 : Nat) : Int), (((128 + pg) / 2 ^ 6 : Nat) : Int), (((128 + pg) / 2 ^ 7 : Nat) : Int)] : List Int) = 8)) (by omega)) ((set_i64 _ _ _).trans rfl) (fun w_13 h_14 => ?_)
  refine WL.nil ?_
  refine inb_n ?_
  refine thn_n ?_
  refine WP.reg ?_
  refine WL.q (Wn.no rfl) rfl rfl (R.bin (v := (vi 4)) rfl rfl (bi_add (c := 4) (by omega) (by omega))) ?_
  refine WL.q (Wn.no rfl) rfl rfl (R.move (v := (vi 4)) rfl) ?_
  refine WL.nil ?_
  refine thn_n ?_
  refine WI.round ?_
  refine WP.seq ?_
  refine WP.reg ?_
  refine WL.q (Wn.no rfl) rfl rfl (R.bin (v := (.bool true)) rfl rfl (bi_lss (r := true) (by decide))) ?_
  refine WL.nil ?_
  refine thn_n ?_
  refine WP.seq ?_
  refine WP.condT rfl ?_
  refine WP.skip ?_
  refine thn_n ?_
  refine WP.seq ?_
  refine WP.block ?_
  refine WP.seq ?_
  refine WP.reg ?_
  refine WL.q (Wn.no rfl) rfl rfl (R.move (v := (vi 4)) rfl) ?_
  refine WL.q (Wn.no rfl) rfl rfl (R.assign (v := (vi 4)) rfl) ?_
  refine WL.nil ?_
  refine thn_n ?_
  refine WP.reg ?_
  refine WL.q (Wn.no rfl) rfl rfl (R.move (v := (.slice a_1 8 cap_2)) rfl) ?_
  refine WL.q (Wn.no rfl) rfl rfl (R.move (v := (vi 4)) rfl) ?_
  refine WL.q (Wn.no rfl) rfl rfl (R.indexS (a := a_1) (i := 4) (off := 4) (xs := ([((((128 + pg) / 2 ^ 0) ^^^ 1 : Nat) : Int), ((((128 + pg) / 2 ^ 1) ^^^ 1 : Nat) : Int), ((((128 + pg) / 2 ^ 2) ^^^ 1 : Nat) : Int), ((((128 + pg) / 2 ^ 3) ^^^ 1 : Nat) : Int), (((128 + pg) / 2 ^ 4 : Nat) : Int), (((128 + pg) / 2 ^ 5 : Nat) : Int), (((128 + pg) / 2 ^ 6 : Nat) : Int), (((128 + pg) / 2 ^ 7 : Nat) : Int)] : List Int).map vi64) rfl rfl rfl (by decide) (ownView (h_14.ok _ (.head _))) (lt_len (K := 8) (len_map (rfl : List.length ([((((128 + pg) / 2 ^ 0) ^^^ 1 : Nat) : Int), ((((128 + pg) / 2 ^ 1) ^^^ 1 : Nat) : Int), ((((128 + pg) / 2 ^ 2) ^^^ 1 : Nat) : Int), ((((128 + pg) / 2 ^ 3) ^^^ 1 : Nat) : Int), (((128 + pg) / 2 ^ 4 : Nat) : Int), (((128 + pg) / 2 ^ 5 : Nat) : Int), (((128 + pg) / 2 ^ 6 : Nat) : Int), (((128 + pg) / 2 ^ 7 : Nat) : Int)] : List Int) = 8)) (by omega)) Try.underlying70 Try.sizeOf3 (Nat.mul_one _).symm) ?_
  refine WL.q (Wn.no rfl) rfl rfl (R.loadG (a := a_1) (i := 4) (xs := ([((((128 + pg) / 2 ^ 0) ^^^ 1 : Nat) : Int), ((((128 + pg) / 2 ^ 1) ^^^ 1 : Nat) : Int), ((((128 + pg) / 2 ^ 2) ^^^ 1 : Nat) : Int), ((((128 + pg) / 2 ^ 3) ^^^ 1 : Nat) : Int), (((128 + pg) / 2 ^ 4 : Nat) : Int), (((128 + pg) / 2 ^ 5 : Nat) : Int), (((128 + pg) / 2 ^ 6 : Nat) : Int), (((128 + pg) / 2 ^ 7 : Nat) : Int)] : List Int).map vi64) (v := (vi (((128 + pg) / 2 ^ 4 : Nat) : Int))) rfl (ownView (h_14.ok _ (.head _))) Try.isAgg3 rfl) ?_
  refine WL.q (Wn.no rfl) rfl rfl (R.bin (v := (vi ((((128 + pg) / 2 ^ 4) ^^^ 1 : Nat) : Int))) rfl rfl (bi_xorN (m := (128 + pg) / 2 ^ 4) (n := 1) (by omega) (by omega))) ?_
  refine WL.q (Wn.no rfl) rfl rfl (R.indexS (a := a_1) (i := 4) (off := 4) (xs := ([((((128 + pg) / 2 ^ 0) ^^^ 1 : Nat) : Int), ((((128 + pg) / 2 ^ 1) ^^^ 1 : Nat) : Int), ((((128 + pg) / 2 ^ 2) ^^^ 1 : Nat) : Int), ((((128 + pg) / 2 ^ 3) ^^^ 1 : Nat) : Int), (((128 + pg) / 2 ^ 4 : Nat) : Int), (((128 + pg) / 2 ^ 5 : Nat) : Int), (((128 + pg) / 2 ^ 6 : Nat) : Int), (((128 + pg) / 2 ^ 7 : Nat) : Int)] : List Int).map vi64) rfl rfl rfl (by decide) (ownView (h_14.ok _ (.head _))) (lt_len (K := 8) (len_map (rfl : List.length ([((((128 + pg) / 2 ^ 0) ^^^ 1 : Nat) : Int), ((((128 + pg) / 2 ^ 1) ^^^ 1 : Nat) : Int), ((((128 + pg) / 2 ^ 2) ^^^ 1 : Nat) : Int), ((((128 + pg) / 2 ^ 3) ^^^ 1 : Nat) : Int), (((128 + pg) / 2 ^ 4 : Nat) : Int), (((128 + pg) / 2 ^ 5 : Nat) : Int), (((128 + pg) / 2 ^ 6 : Nat) : Int), (((128 + pg) / 2 ^ 7 : Nat) : Int)] : List Int) = 8)) (by omega)) Try.underlying70 Try.sizeOf3 (Nat.mul_one _).symm) ?_
  refine WL.storeR (a := a_1) (i := 4) (v := (vi ((((128 + pg) / 2 ^ 4) ^^^ 1 : Nat) : Int))) (xs' := ([((((128 + pg) / 2 ^ 0) ^^^ 1 : Nat) : Int), ((((128 + pg) / 2 ^ 1) ^^^ 1 : Nat) : Int), ((((128 + pg) / 2 ^ 2) ^^^ 1 : Nat) : Int), ((((128 + pg) / 2 ^ 3) ^^^ 1 : Nat) : Int), ((((128 + pg) / 2 ^ 4) ^^^ 1 : Nat) : Int), (((128 + pg) / 2 ^ 5 : Nat) : Int), (((128 + pg) / 2 ^ 6 : Nat) : Int), (((128 + pg) / 2 ^ 7 : Nat) : Int)] : List Int).map vi64) h_14 rfl rfl Try.sizeOf3 rfl At.h (lt_len (K := 8) (len_map (rfl : List.length ([((((128 + pg) / 2 ^ 0) ^^^ 1 : Nat) : Int), ((((128 + pg) / 2 ^ 1) ^^^ 1 : Nat) : Int), ((((128 + pg) / 2 ^ 2) ^^^ 1 : Nat) : Int), ((((128 + pg) / 2 ^ 3) ^^^ 1 : Nat) : Int), (((128 + pg) / 2 ^ 4 : Nat) : Int), (((128 + pg) / 2 ^ 5 : Nat) : Int), (((128 + pg) / 2 ^ 6 : Nat) : Int), (((128 + pg) / 2 ^ 7 : Nat) : Int)] : List Int) = 8)) (by omega)) ((set_i64 _ _ _).trans rfl) (fun w_15 h_16 => ?_)
  refine WL.nil ?_
  refine inb_n ?_
  refine thn_n ?_
  refine WP.reg ?_
  refine WL.q (Wn.no rfl) rfl rfl (R.bin (v := (vi 5)) rfl rfl (bi_add (c := 5) (by omega) (by omega))) ?_
  refine WL.q (Wn.no rfl) rfl rfl (R.move (v := (vi 5)) rfl) ?_
  refine WL.nil ?_
  refine thn_n ?_
  refine WI.round ?_
  refine WP.seq ?_
  refine WP.reg ?_
  refine WL.q (Wn.no rfl) rfl rfl (R.bin (v := (.bool true)) rfl rfl (bi_lss (r := true) (by decide))) ?_
  refine WL.nil ?_
  refine thn_n ?_
  refine WP.seq ?_
  refine WP.condT rfl ?_
  refine WP.skip ?_
  refine thn_n ?_
  refine WP.seq ?_
  refine WP.block ?_
  refine WP.seq ?_
  refine WP.reg ?_
  refine WL.q (Wn.no rfl) rfl rfl (R.move (v := (vi 5)) rfl) ?_
  refine WL.q (Wn.no rfl) rfl rfl (R.assign (v := (vi 5)) rfl) ?_
  refine WL.nil ?_
  refine thn_n ?_
  refine WP.reg ?_
  refine WL.q (Wn.no rfl) rfl rfl (R.move (v := (.slice a_1 8 cap_2)) rfl) ?_
  refine WL.q (Wn.no rfl) rfl rfl (R.move (v := (vi 5)) rfl) ?_
  refine WL.q (Wn.no rfl) rfl rfl (R.indexS (a := a_1) (i := 5) (off := 5) (xs := ([((((128 + pg) / 2 ^ 0) ^^^ 1 : Nat) : Int), ((((128 + pg) / 2 ^ 1) ^^^ 1 : Nat) : Int), ((((128 + pg) / 2 ^ 2) ^^^ 1 : Nat) : Int), ((((128 + pg) / 2 ^ 3) ^^^ 1 : Nat) : Int), ((((128 + pg) / 2 ^ 4) ^^^ 1 : Nat) : Int), (((128 + pg) / 2 ^ 5 : Nat) : Int), (((128 + pg) / 2 ^ 6 : Nat) : Int), (((128 + pg) / 2 ^ 7 : Nat) : Int)] : List Int).map vi64) rfl rfl rfl (by decide) (ownView (h_16.ok _ (.head _))) (lt_len (K := 8) (len_map (rfl : List.length ([((((128 + pg) / 2 ^ 0) ^^^ 1 : Nat) : Int), ((((128 + pg) / 2 ^ 1) ^^^ 1 : Nat) : Int), ((((128 + pg) / 2 ^ 2) ^^^ 1 : Nat) : Int), ((((128 + pg) / 2 ^ 3) ^^^ 1 : Nat) : Int), ((((128 + pg) / 2 ^ 4) ^^^ 1 : Nat) : Int), (((128 + pg) / 2 ^ 5 : Nat) : Int), (((128 + pg) / 2 ^ 6 : Nat) : Int), (((128 + pg) / 2 ^ 7 : Nat) : Int)] : List Int) = 8)) (by omega)) Try.underlying70 Try.sizeOf3 (Nat.mul_one _).symm) ?_
  refine WL.q (Wn.no rfl) rfl rfl (R.loadG (a := a_1) (i := 5) (xs := ([((((128 + pg) / 2 ^ 0) ^^^ 1 : Nat) : Int), ((((128 + pg) / 2 ^ 1) ^^^ 1 : Nat) : Int), ((((128 + pg) / 2 ^ 2) ^^^ 1 : Nat) : Int), ((((128 + pg) / 2 ^ 3) ^^^ 1 : Nat) : Int), ((((128 + pg) / 2 ^ 4) ^^^ 1 : Nat) : Int), (((128 + pg) / 2 ^ 5 : Nat) : Int), (((128 + pg) / 2 ^ 6 : Nat) : Int), (((128 + pg) / 2 ^ 7 : Nat) : Int)] : List Int).map vi64) (v := (vi (((128 + pg) / 2 ^ 5 : Nat) : Int))) rfl (ownView (h_16.ok _ (.head _))) Try.isAgg3 rfl) ?_
  refine WL.q (Wn.no rfl) rfl rfl (R.bin (v := (vi ((((128 + pg) / 2 ^ 5) ^^^ 1 : Nat) : Int))) rfl rfl (bi_xorN (m := (128 + pg) / 2 ^ 5) (n := 1) (by omega) (by omega))) ?_
  refine WL.q (Wn.no rfl) rfl rfl (R.indexS (a := a_1) (i := 5) (off := 5) (xs := ([((((128 + pg) / 2 ^ 0) ^^^ 1 : Nat) : Int), ((((128 + pg) / 2 ^ 1) ^^^ 1 : Nat) : Int), ((((128 + pg) / 2 ^ 2) ^^^ 1 : Nat) : Int), ((((128 + pg) / 2 ^ 3) ^^^ 1 : Nat) : Int), ((((128 + pg) / 2 ^ 4) ^^^ 1 : Nat) : Int), (((128 + pg) / 2 ^ 5 : Nat) : Int), (((128 + pg) / 2 ^ 6 : Nat) : Int), (((128 + pg) / 2 ^ 7 : Nat) : Int)] : List Int).map vi64) rfl rfl rfl (by decide) (ownView (h_16.ok _ (.head _))) (lt_len (K := 8) (len_map (rfl : List.length ([((((128 + pg) / 2 ^ 0) ^^^ 1 : Nat) : Int), ((((128 + pg) / 2 ^ 1) ^^^ 1 : Nat) : Int), ((((128 + pg) / 2 ^ 2) ^^^ 1 : Nat) : Int), ((((128 + pg) / 2 ^ 3) ^^^ 1 : Nat) : Int), ((((128 + pg) / 2 ^ 4) ^^^ 1 : Nat) : Int), (((128 + pg) / 2 ^ 5 : Nat) : Int), (((128 + pg) / 2 ^ 6 : Nat) : Int), (((128 + pg) / 2 ^ 7 : Nat) : Int)] : List Int) = 8)) (by omega)) Try.underlying70 Try.sizeOf3 (Nat.mul_one _).symm) ?_
  refine WL.storeR (a := a_1) (i := 5) (v := (vi ((((128 + pg) / 2 ^ 5) ^^^ 1 : Nat) : Int))) (xs' := ([((((128 + pg) / 2 ^ 0) ^^^ 1 : Nat) : Int), ((((128 + pg) / 2 ^ 1) ^^^ 1 : Nat) : Int), ((((128 + pg) / 2 ^ 2) ^^^ 1 : Nat) : Int), ((((128 + pg) / 2 ^ 3) ^^^ 1 : Nat) : Int), ((((128 + pg) / 2 ^ 4) ^^^ 1 : Nat) : Int), ((((128 + pg) / 2 ^ 5) ^^^ 1 : Nat) : Int), (((128 + pg) / 2 ^ 6 : Nat) : Int), (((128 + pg) / 2 ^ 7 : Nat) : Int)] : List Int).map vi64) h_16 rfl rfl Try.sizeOf3 rfl At.h (lt_len (K := 8) (len_map (rfl : List.length ([((((128 + pg) / 2 ^ 0) ^^^ 1 : Nat) : Int), ((((128 + pg) / 2 ^ 1) ^^^ 1 : Nat) : Int), ((((128 + pg) / 2 ^ 2) ^^^ 1 : Nat) : Int), ((((128 + pg) / 2 ^ 3) ^^^ 1 : Nat) : Int), ((((128 + pg) / 2 ^ 4) ^^^ 1 : Nat) : Int), (((128 + pg) / 2 ^ 5 : Nat) : Int), (((128 + pg) / 2 ^ 6 : Nat) : Int), (((128 + pg) / 2 ^ 7 : Nat) : Int)] : List Int) = 8)) (by omega)) ((set_i64 _ _ _).trans rfl) (fun w_17 h_18 => ?_)
  refine WL.nil ?_
  refine inb_n ?_
  refine thn_n ?_
  refine WP.reg ?_
  refine WL.q (Wn.no rfl) rfl rfl (R.bin (v := (vi 6)) rfl rfl (bi_add (c := 6) (by omega) (by omega))) ?_
  refine WL.q (Wn.no rfl) rfl rfl (R.move (v := (vi 6)) rfl) ?_
  refine WL.nil ?_
  refine thn_n ?_
  refine WI.round ?_
  refine WP.seq ?_
  refine WP.reg ?_
  refine WL.q (Wn.no rfl) rfl rfl (R.bin (v := (.bool true)) rfl rfl (bi_lss (r := true) (by decide))) ?_
  refine WL.nil ?_
  refine thn_n ?_
  refine WP.seq ?_
  refine WP.condT rfl ?_
  refine WP.skip ?_
  refine thn_n ?_
  refine WP.seq ?_
  refine WP.block ?_
  refine WP.seq ?_
  refine WP.reg ?_
  refine WL.q (Wn.no rfl) rfl rfl (R.move (v := (vi 6)) rfl) ?_
  refine WL.q (Wn.no rfl) rfl rfl (R.assign (v := (vi 6)) rfl) ?_
  refine WL.nil ?_
  refine thn_n ?_
  refine WP.reg ?_
  refine WL.q (Wn.no rfl) rfl rfl (R.move (v := (.slice a_1 8 cap_2)) rfl) ?_
  refine WL.q (Wn.no rfl) rfl rfl (R.move (v := (vi 6)) rfl) ?_
  refine WL.q (Wn.no rfl) rfl rfl (R.indexS (a := a_1) (i := 6) (off := 6) (xs := ([((((128 + pg) / 2 ^ 0) ^^^ 1 : Nat) : Int), ((((128 + pg) / 2 ^ 1) ^^^ 1 : Nat) : Int), ((((128 + pg) / 2 ^ 2) ^^^ 1 : Nat) : Int), ((((128 + pg) / 2 ^ 3) ^^^ 1 : Nat) : Int), ((((128 + pg) / 2 ^ 4) ^^^ 1 : Nat) : Int), ((((128 + pg) / 2 ^ 5) ^^^ 1 : Nat) : Int), (((128 + pg) / 2 ^ 6 : Nat) : Int), (((128 + pg) / 2 ^ 7 : Nat) : Int)] : List Int).map vi64) rfl rfl rfl (by decide) (ownView (h_18.ok _ (.head _))) (lt_len (K := 8) (len_map (rfl : List.length ([((((128 + pg) / 2 ^ 0) ^^^ 1 : Nat) : Int), ((((128 + pg) / 2 ^ 1) ^^^ 1 : Nat) : Int), ((((128 + pg) / 2 ^ 2) ^^^ 1 : Nat) : Int), ((((128 + pg) / 2 ^ 3) ^^^ 1 : Nat) : Int), ((((128 + pg) / 2 ^ 4) ^^^ 1 : Nat) : Int), ((((128 + pg) / 2 ^ 5) ^^^ 1 : Nat) : Int), (((128 + pg) / 2 ^ 6 : Nat) : Int), (((128 + pg) / 2 ^ 7 : Nat) : Int)] : List Int) = 8)) (by omega)) Try.underlying70 Try.sizeOf3 (Nat.mul_one _).symm) ?_
  refine WL.q (Wn.no rfl) rfl rfl (R.loadG (a := a_1) (i := 6) (xs := ([((((128 + pg) / 2 ^ 0) ^^^ 1 : Nat) : Int), ((((128 + pg) / 2 ^ 1) ^^^ 1 : Nat) : Int), ((((128 + pg) / 2 ^ 2) ^^^ 1 : Nat) : Int), ((((128 + pg) / 2 ^ 3) ^^^ 1 : Nat) : Int), ((((128 + pg) / 2 ^ 4) ^^^ 1 : Nat) : Int), ((((128 + pg) / 2 ^ 5) ^^^ 1 : Nat) : Int), (((128 + pg) / 2 ^ 6 : Nat) : Int), (((128 + pg) / 2 ^ 7 : Nat) : Int)] : List Int).map vi64) (v := (vi (((128 + pg) / 2 ^ 6 : Nat) : Int))) rfl (ownView (h_18.ok _ (.head _))) Try.isAgg3 rfl) ?_
  refine WL.q (Wn.no rfl) rfl rfl (R.bin (v := (vi ((((128 + pg) / 2 ^ 6) ^^^ 1 : Nat) : Int))) rfl rfl (bi_xorN (m := (128 + pg) / 2 ^ 6) (n := 1) (by omega) (by omega))) ?_
  refine WL.q (Wn.no rfl) rfl rfl (R.indexS (a := a_1) (i := 6) (off := 6) (xs := ([((((128 + pg) / 2 ^ 0) ^^^ 1 : Nat) : Int), ((((128 + pg) / 2 ^ 1) ^^^ 1 : Nat) : Int), ((((128 + pg) / 2 ^ 2) ^^^ 1 : Nat) : Int), ((((128 + pg) / 2 ^ 3) ^^^ 1 : Nat) : Int), ((((128 + pg) / 2 ^ 4) ^^^ 1 : Nat) : Int), ((((128 + pg) / 2 ^ 5) ^^^ 1 : Nat) : Int), (((128 + pg) / 2 ^ 6 : Nat) : Int), (((128 + pg) / 2 ^ 7 : Nat) : Int)] : List Int).map vi64) rfl rfl rfl (by decide) (ownView (h_18.ok _ (.head _))) (lt_len (K := 8) (len_map (rfl : List.length ([((((128 + pg) / 2 ^ 0) ^^^ 1 : Nat) : Int), ((((128 + pg) / 2 ^ 1) ^^^ 1 : Nat) : Int), ((((128 + pg) / 2 ^ 2) ^^^ 1 : Nat) : Int), ((((128 + pg) / 2 ^ 3) ^^^ 1 : Nat) : Int), ((((128 + pg) / 2 ^ 4) ^^^ 1 : Nat) : Int), ((((128 + pg) / 2 ^ 5) ^^^ 1 : Nat) : Int), (((128 + pg) / 2 ^ 6 : Nat) : Int), (((128 + pg) / 2 ^ 7 : Nat) : Int)] : List Int) = 8)) (by omega)) Try.underlying70 Try.sizeOf3 (Nat.mul_one _).symm) ?_
  refine WL.storeR (a := a_1) (i := 6) (v := (vi ((((128 + pg) / 2 ^ 6) ^^^ 1 : Nat) : Int))) (xs' := ([((((128 + pg) / 2 ^ 0) ^^^ 1 : Nat) : Int), ((((128 + pg) / 2 ^ 1) ^^^ 1 : Nat) : Int), ((((128 + pg) / 2 ^ 2) ^^^ 1 : Nat) : Int), ((((128 + pg) / 2 ^ 3) ^^^ 1 : Nat) : Int), ((((128 + pg) / 2 ^ 4) ^^^ 1 : Nat) : Int), ((((128 + pg) / 2 ^ 5) ^^^ 1 : Nat) : Int), ((((128 + pg) / 2 ^ 6) ^^^ 1 : Nat) : Int), (((128 + pg) / 2 ^ 7 : Nat) : Int)] : List Int).map vi64) h_18 rfl rfl Try.sizeOf3 rfl At.h (lt_len (K := 8) (len_map (rfl : List.length ([((((128 + pg) / 2 ^ 0) ^^^ 1 : Nat) : Int), ((((128 + pg) / 2 ^ 1) ^^^ 1 : Nat) : Int), ((((128 + pg) / 2 ^ 2) ^^^ 1 : Nat) : Int), ((((128 + pg) / 2 ^ 3) ^^^ 1 : Nat) : Int), ((((128 + pg) / 2 ^ 4) ^^^ 1 : Nat) : Int), ((((128 + pg) / 2 ^ 5) ^^^ 1 : Nat) : Int), (((128 + pg) / 2 ^ 6 : Nat) : Int), (((128 + pg) / 2 ^ 7 : Nat) : Int)] : List Int) = 8)) (by omega)) ((set_i64 _ _ _).trans rfl) (fun w_19 h_20 => ?_)
  refine WL.nil ?_
  refine inb_n ?_
  refine thn_n ?_
  refine WP.reg ?_
  refine WL.q (Wn.no rfl) rfl rfl (R.bin (v := (vi 7)) rfl rfl (bi_add (c := 7) (by omega) (by omega))) ?_
  refine WL.q (Wn.no rfl) rfl rfl (R.move (v := (vi 7)) rfl) ?_
  refine WL.nil ?_
  refine thn_n ?_
  refine WI.round ?_
  refine WP.seq ?_
  refine WP.reg ?_
  refine WL.q (Wn.no rfl) rfl rfl (R.bin (v := (.bool true)) rfl rfl (bi_lss (r := true) (by decide))) ?_
  refine WL.nil ?_
  refine thn_n ?_
  refine WP.seq ?_
  refine WP.condT rfl ?_
  refine WP.skip ?_
  refine thn_n ?_
  refine WP.seq ?_
  refine WP.block ?_
  refine WP.seq ?_
  refine WP.reg ?_
  refine WL.q (Wn.no rfl) rfl rfl (R.move (v := (vi 7)) rfl) ?_
  refine WL.q (Wn.no rfl) rfl rfl (R.assign (v := (vi 7)) rfl) ?_
  refine WL.nil ?_
  refine thn_n ?_
  refine WP.reg ?_
  refine WL.q (Wn.no rfl) rfl rfl (R.move (v := (.slice a_1 8 cap_2)) rfl) ?_
  refine WL.q (Wn.no rfl) rfl rfl (R.move (v := (vi 7)) rfl) ?_
  refine WL.q (Wn.no rfl) rfl rfl (R.indexS (a := a_1) (i := 7) (off := 7) (xs := ([((((128 + pg) / 2 ^ 0) ^^^ 1 : Nat) : Int), ((((128 + pg) / 2 ^ 1) ^^^ 1 : Nat) : Int), ((((128 + pg) / 2 ^ 2) ^^^ 1 : Nat) : Int), ((((128 + pg) / 2 ^ 3) ^^^ 1 : Nat) : Int), ((((128 + pg) / 2 ^ 4) ^^^ 1 : Nat) : Int), ((((128 + pg) / 2 ^ 5) ^^^ 1 : Nat) : Int), ((((128 + pg) / 2 ^ 6) ^^^ 1 : Nat) : Int), (((128 + pg) / 2 ^ 7 : Nat) : Int)] : List Int).map vi64) rfl rfl rfl (by decide) (ownView (h_20.ok _ (.head _))) (lt_len (K := 8) (len_map (rfl : List.length ([((((128 + pg) / 2 ^ 0) ^^^ 1 : Nat) : Int), ((((128 + pg) / 2 ^ 1) ^^^ 1 : Nat) : Int), ((((128 + pg) / 2 ^ 2) ^^^ 1 : Nat) : Int), ((((128 + pg) / 2 ^ 3) ^^^ 1 : Nat) : Int), ((((128 + pg) / 2 ^ 4) ^^^ 1 : Nat) : Int), ((((128 + pg) / 2 ^ 5) ^^^ 1 : Nat) : Int), ((((128 + pg) / 2 ^ 6) ^^^ 1 : Nat) : Int), (((128 + pg) / 2 ^ 7 : Nat) : Int)] : List Int) = 8)) (by omega)) Try.underlying70 Try.sizeOf3 (Nat.mul_one _).symm) ?_
  refine WL.q (Wn.no rfl) rfl rfl (R.loadG (a := a_1) (i := 7) (xs := ([((((128 + pg) / 2 ^ 0) ^^^ 1 : Nat) : Int), ((((128 + pg) / 2 ^ 1) ^^^ 1 : Nat) : Int), ((((128 + pg) / 2 ^ 2) ^^^ 1 : Nat) : Int), ((((128 + pg) / 2 ^ 3) ^^^ 1 : Nat) : Int), ((((128 + pg) / 2 ^ 4) ^^^ 1 : Nat) : Int), ((((128 + pg) / 2 ^ 5) ^^^ 1 : Nat) : Int), ((((128 + pg) / 2 ^ 6) ^^^ 1 : Nat) : Int), (((128 + pg) / 2 ^ 7 : Nat) : Int)] : List Int).map vi64) (v := (vi (((128 + pg) / 2 ^ 7 : Nat) : Int))) rfl (ownView (h_20.ok _ (.head _))) Try.isAgg3 rfl) ?_
  refine WL.q (Wn.no rfl) rfl rfl (R.bin (v := (vi ((((128 + pg) / 2 ^ 7) ^^^ 1 : Nat) : Int))) rfl rfl (bi_xorN (m := (128 + pg) / 2 ^ 7) (n := 1) (by omega) (by omega))) ?_
  refine WL.q (Wn.no rfl) rfl rfl (R.indexS (a := a_1) (i := 7) (off := 7) (xs := ([((((128 + pg) / 2 ^ 0) ^^^ 1 : Nat) : Int), ((((128 + pg) / 2 ^ 1) ^^^ 1 : Nat) : Int), ((((128 + pg) / 2 ^ 2) ^^^ 1 : Nat) : Int), ((((128 + pg) / 2 ^ 3) ^^^ 1 : Nat) : Int), ((((128 + pg) / 2 ^ 4) ^^^ 1 : Nat) : Int), ((((128 + pg) / 2 ^ 5) ^^^ 1 : Nat) : Int), ((((128 + pg) / 2 ^ 6) ^^^ 1 : Nat) : Int), (((128 + pg) / 2 ^ 7 : Nat) : Int)] : List Int).map vi64) rfl rfl rfl (by decide) (ownView (h_20.ok _ (.head _))) (lt_len (K := 8) (len_map (rfl : List.length ([((((128 + pg) / 2 ^ 0) ^^^ 1 : Nat) : Int), ((((128 + pg) / 2 ^ 1) ^^^ 1 : Nat) : Int), ((((128 + pg) / 2 ^ 2) ^^^ 1 : Nat) : Int), ((((128 + pg) / 2 ^ 3) ^^^ 1 : Nat) : Int), ((((128 + pg) / 2 ^ 4) ^^^ 1 : Nat) : Int), ((((128 + pg) / 2 ^ 5) ^^^ 1 : Nat) : Int), ((((128 + pg) / 2 ^ 6) ^^^ 1 : Nat) : Int), (((128 + pg) / 2 ^ 7 : Nat) : Int)] : List Int) = 8)) (by omega)) Try.underlying70 Try.sizeOf3 (Nat.mul_one _).symm) ?_
  refine WL.storeR (a := a_1) (i := 7) (v := (vi ((((128 + pg) / 2 ^ 7) ^^^ 1 : Nat) : Int))) (xs' := ([((((128 + pg) / 2 ^ 0) ^^^ 1 : Nat) : Int), ((((128 + pg) / 2 ^ 1) ^^^ 1 : Nat) : Int), ((((128 + pg) / 2 ^ 2) ^^^ 1 : Nat) : Int), ((((128 + pg) / 2 ^ 3) ^^^ 1 : Nat) : Int), ((((128 + pg) / 2 ^ 4) ^^^ 1 : Nat) : Int), ((((128 + pg) / 2 ^ 5) ^^^ 1 : Nat) : Int), ((((128 + pg) / 2 ^ 6) ^^^ 1 : Nat) : Int), ((((128 + pg) / 2 ^ 7) ^^^ 1 : Nat) : Int)] : List Int).map vi64) h_20 rfl rfl Try.sizeOf3 rfl At.h (lt_len (K := 8) (len_map (rfl : List.length ([((((128 + pg) / 2 ^ 0) ^^^ 1 : Nat) : Int), ((((128 + pg) / 2 ^ 1) ^^^ 1 : Nat) : Int), ((((128 + pg) / 2 ^ 2) ^^^ 1 : Nat) : Int), ((((128 + pg) / 2 ^ 3) ^^^ 1 : Nat) : Int), ((((128 + pg) / 2 ^ 4) ^^^ 1 : Nat) : Int), ((((128 + pg) / 2 ^ 5) ^^^ 1 : Nat) : Int), ((((128 + pg) / 2 ^ 6) ^^^ 1 : Nat) : Int), (((128 + pg) / 2 ^ 7 : Nat) : Int)] : List Int) = 8)) (by omega)) ((set_i64 _ _ _).trans rfl) (fun w_21 h_22 => ?_)
  refine WL.nil ?_
  refine inb_n ?_
  refine thn_n ?_
  refine WP.reg ?_
  refine WL.q (Wn.no rfl) rfl rfl (R.bin (v := (vi 8)) rfl rfl (bi_add (c := 8) (by omega) (by omega))) ?_
  refine WL.q (Wn.no rfl) rfl rfl (R.move (v := (vi 8)) rfl) ?_
  refine WL.nil ?_
  refine thn_n ?_
  refine WI.round ?_
  refine WP.seq ?_
  refine WP.reg ?_
  refine WL.q (Wn.no rfl) rfl rfl (R.bin (v := (.bool false)) rfl rfl (bi_lss (r := false) (by decide))) ?_
  refine WL.nil ?_
  refine thn_n ?_
  refine WP.seq ?_
  refine WP.condF rfl ?_
  refine WP.exit ?_
  refine thn_x ?_
  refine thn_x ?_
  refine inb_hit ?_
  refine thn_n ?_
  refine WP.seq ?_
  refine WP.reg ?_
  refine WL.q (Wn.no rfl) rfl rfl (R.move (v := (.slice a_1 8 cap_2)) rfl) ?_
  refine WL.q (Wn.no rfl) rfl rfl (R.sliceR0 (h := 7) rfl EvB.dflt (EvB.it (l := 7) rfl rfl) (Nat.le_trans (by decide) (h_22.own (.head _)).2.2.1) Try.underlying70 Try.sizeOf3 (h_22.ok _ (.head _))) ?_
  have h_23 := HP.rowCut (k := 7) h_22 At.h (by decide)
  rw [show (([((((128 + pg) / 2 ^ 0) ^^^ 1 : Nat) : Int), ((((128 + pg) / 2 ^ 1) ^^^ 1 : Nat) : Int), ((((128 + pg) / 2 ^ 2) ^^^ 1 : Nat) : Int), ((((128 + pg) / 2 ^ 3) ^^^ 1 : Nat) : Int), ((((128 + pg) / 2 ^ 4) ^^^ 1 : Nat) : Int), ((((128 + pg) / 2 ^ 5) ^^^ 1 : Nat) : Int), ((((128 + pg) / 2 ^ 6) ^^^ 1 : Nat) : Int), ((((128 + pg) / 2 ^ 7) ^^^ 1 : Nat) : Int)] : List Int).map vi64).take (7 * 1) = (([((((128 + pg) / 2 ^ 0) ^^^ 1 : Nat) : Int), ((((128 + pg) / 2 ^ 1) ^^^ 1 : Nat) : Int), ((((128 + pg) / 2 ^ 2) ^^^ 1 : Nat) : Int), ((((128 + pg) / 2 ^ 3) ^^^ 1 : Nat) : Int), ((((128 + pg) / 2 ^ 4) ^^^ 1 : Nat) : Int), ((((128 + pg) / 2 ^ 5) ^^^ 1 : Nat) : Int), ((((128 + pg) / 2 ^ 6) ^^^ 1 : Nat) : Int), ((((128 + pg) / 2 ^ 7) ^^^ 1 : Nat) : Int)] : List Int).take 7).map vi64 from by rw [Nat.mul_one, ← List.map_take]] at h_23
  refine WL.q (Wn.no rfl) rfl rfl (R.assign (v := (.slice a_1 7 cap_2)) rfl) ?_
  refine WL.q (Wn.no rfl) rfl rfl (R.assign (v := (vi 0)) rfl) ?_
  refine WL.nil ?_
  refine thn_n ?_
  refine WP.ret ?_
  refine ret_of Try.results29 (RV.tmp (v := (.slice a_1 7 cap_2)) rfl (RV.tmp (v := (vi 0)) rfl RV.nil)) ?_
  exact ⟨_, _, rfl, h_23.chgS, h_23.ok _ (.head _)⟩

theorem c_Bes_f (pg : Int) (h : ¬ (0 ≤ pg ∧ pg < 128)) (w : World) :
    Cs Try.prog 29 [(vi pg)].toArray w (fun v w1 => v = (.tuple [(.slice none 0 0), (vi 2)].toArray) ∧ Chg w w1 []) := by
  refine Cs.of (n := 29) (args := [(vi pg)]) Try.func29 rfl rfl rfl ?_
  have h_0 := HP.init w
  refine WP.seq ?_
  refine WP.reg ?_
  refine WL.q (Wn.no rfl) rfl rfl (R.assign (v := (.slice none 0 0)) rfl) ?_
  refine WL.q (Wn.no rfl) rfl rfl (R.assign (v := (vi 0)) rfl) ?_
  refine WL.nil ?_
  refine thn_n ?_
  refine WP.seq ?_
  refine WP.reg ?_
  refine WL.q (Wn.no rfl) rfl rfl (R.move (v := (vi pg)) rfl) ?_
  refine WL.call (al := [(vi pg)]) Try.call28 rfl rfl (c_Way_f pg (by omega) _ ) rfl ?_
  rintro _ w_2 ⟨rfl, hc_1⟩
  have h_3 := h_0.same hc_1
  refine WL.q (Wn.no rfl) rfl rfl (R.move (v := (.tuple [(.slice none 0 0), (vi 2)].toArray)) rfl) ?_
  refine WL.q (Wn.no rfl) rfl rfl (R.extract (l := [(.slice none 0 0), (vi 2)]) (v := (.slice none 0 0)) rfl rfl) ?_
  refine WL.q (Wn.no rfl) rfl rfl (R.extract (l := [(.slice none 0 0), (vi 2)]) (v := (vi 2)) rfl rfl) ?_
  refine WL.q (Wn.no rfl) rfl rfl (R.assign (v := (.slice none 0 0)) rfl) ?_
  refine WL.q (Wn.no rfl) rfl rfl (R.assign (v := (vi 2)) rfl) ?_
  refine WL.nil ?_
  refine thn_n ?_
  refine WP.seq ?_
  refine WP.seq ?_
  refine WP.reg ?_
  refine WL.q (Wn.no rfl) rfl rfl (R.move (v := (vi 2)) rfl) ?_
  refine WL.q (Wn.no rfl) rfl rfl (R.bin (v := (.bool true)) rfl rfl (bi_neq (r := true) (by decide))) ?_
  refine WL.nil ?_
  refine thn_n ?_
  refine WP.condT rfl ?_
  refine WP.seq ?_
  refine WP.reg ?_
  refine WL.q (Wn.no rfl) rfl rfl (R.move (v := (vi 2)) rfl) ?_
  refine WL.q (Wn.no rfl) rfl rfl (R.assign (v := (.slice none 0 0)) rfl) ?_
  refine WL.q (Wn.no rfl) rfl rfl (R.assign (v := (vi 2)) rfl) ?_
  refine WL.nil ?_
  refine thn_n ?_
  refine WP.ret ?_
  refine thn_r ?_
  refine ret_of Try.results29 (RV.tmp (v := (.slice none 0 0)) rfl (RV.tmp (v := (vi 2)) rfl RV.nil)) ?_
  exact ⟨rfl, h_3.chgS⟩
end Go.Proofs.Ytnhppjimimhlkaa
