/- The constants of digests: contracts. Conditions: those that each theorem states. -/
import Derived.Test.YtelkjcigdhgcoaaT5
import Derived.Test.YtelkjcigdhgcoaaH3
namespace Go.Proofs.Ytelkjcigdhgcoaa
open Go.Vc Go.Sh Go.RowKit
set_option linter.unusedVariables false
set_option linter.unusedSimpArgs false
set_option maxRecDepth 20000
theorem el72 : ElT Try.prog 72 58 1 8 := ElT.mk' Try.underlying72 (i := Try.t58) rfl rfl rfl rfl rfl rfl
theorem c_Mul64 (x y : UInt64) (w : World) :
    Cs Try.prog 84 [(vu64 x), (vu64 y)].toArray w (fun v w1 => v = (.tuple [(vu64 (mulHi x y)), (vu64 (x * y))].toArray) ∧ Chg w w1 []) := by
  refine Cs.of (n := 51) (args := [(vu64 x), (vu64 y)]) Try.func84 rfl rfl rfl ?_
  have h_0 := HP.init w
  refine WP.seq ?_
  refine WP.reg ?_
  refine WL.q (Wn.no rfl) rfl rfl (R.assign (v := (vu64 0)) rfl) ?_
  refine WL.q (Wn.no rfl) rfl rfl (R.assign (v := (vu64 0)) rfl) ?_
  refine WL.nil ?_
  refine thn_n ?_
  refine WP.seq ?_
  refine WP.reg ?_
  refine WL.q (Wn.no rfl) rfl rfl (R.move (v := (vu64 x)) rfl) ?_
  refine WL.q (Wn.no rfl) rfl rfl (R.bin (v := (vu64 (x &&& 4294967295))) rfl rfl (b64_and x 4294967295)) ?_
  refine WL.q (Wn.no rfl) rfl rfl (R.assign (v := (vu64 (x &&& 4294967295))) rfl) ?_
  refine WL.nil ?_
  refine thn_n ?_
  refine WP.seq ?_
  refine WP.reg ?_
  refine WL.q (Wn.no rfl) rfl rfl (R.move (v := (vu64 x)) rfl) ?_
  refine WL.q (Wn.no rfl) rfl rfl (R.binR (v := vu64 (shr64 x 32)) rfl rfl (run_shr64 _ _ _ x _ 32)) ?_
  refine WL.q (Wn.no rfl) rfl rfl (R.assign (v := (vu64 (shr64 x 32))) rfl) ?_
  refine WL.nil ?_
  refine thn_n ?_
  refine WP.seq ?_
  refine WP.reg ?_
  refine WL.q (Wn.no rfl) rfl rfl (R.move (v := (vu64 y)) rfl) ?_
  refine WL.q (Wn.no rfl) rfl rfl (R.bin (v := (vu64 (y &&& 4294967295))) rfl rfl (b64_and y 4294967295)) ?_
  refine WL.q (Wn.no rfl) rfl rfl (R.assign (v := (vu64 (y &&& 4294967295))) rfl) ?_
  refine WL.nil ?_
  refine thn_n ?_
  refine WP.seq ?_
  refine WP.reg ?_
  refine WL.q (Wn.no rfl) rfl rfl (R.move (v := (vu64 y)) rfl) ?_
  refine WL.q (Wn.no rfl) rfl rfl (R.binR (v := vu64 (shr64 y 32)) rfl rfl (run_shr64 _ _ _ y _ 32)) ?_
  refine WL.q (Wn.no rfl) rfl rfl (R.assign (v := (vu64 (shr64 y 32))) rfl) ?_
  refine WL.nil ?_
  refine thn_n ?_
  refine WP.seq ?_
  refine WP.reg ?_
  refine WL.q (Wn.no rfl) rfl rfl (R.move (v := (vu64 (x &&& 4294967295))) rfl) ?_
  refine WL.q (Wn.no rfl) rfl rfl (R.move (v := (vu64 (y &&& 4294967295))) rfl) ?_
  refine WL.q (Wn.no rfl) rfl rfl (R.bin (v := (vu64 ((x &&& 4294967295) * (y &&& 4294967295)))) rfl rfl (b64_mul (x &&& 4294967295) (y &&& 4294967295))) ?_
  refine WL.q (Wn.no rfl) rfl rfl (R.assign (v := (vu64 ((x &&& 4294967295) * (y &&& 4294967295)))) rfl) ?_
  refine WL.nil ?_
  refine thn_n ?_
  refine WP.seq ?_
  refine WP.reg ?_
  refine WL.q (Wn.no rfl) rfl rfl (R.move (v := (vu64 (shr64 x 32))) rfl) ?_
  refine WL.q (Wn.no rfl) rfl rfl (R.move (v := (vu64 (y &&& 4294967295))) rfl) ?_
  refine WL.q (Wn.no rfl) rfl rfl (R.bin (v := (vu64 ((shr64 x 32) * (y &&& 4294967295)))) rfl rfl (b64_mul (shr64 x 32) (y &&& 4294967295))) ?_
  refine WL.q (Wn.no rfl) rfl rfl (R.move (v := (vu64 ((x &&& 4294967295) * (y &&& 4294967295)))) rfl) ?_
  refine WL.q (Wn.no rfl) rfl rfl (R.binR (v := vu64 (shr64 ((x &&& 4294967295) * (y &&& 4294967295)) 32)) rfl rfl (run_shr64 _ _ _ ((x &&& 4294967295) * (y &&& 4294967295)) _ 32)) ?_
  refine WL.q (Wn.no rfl) rfl rfl (R.bin (v := (vu64 (((shr64 x 32) * (y &&& 4294967295)) + (shr64 ((x &&& 4294967295) * (y &&& 4294967295)) 32)))) rfl rfl (b64_add ((shr64 x 32) * (y &&& 4294967295)) (shr64 ((x &&& 4294967295) * (y &&& 4294967295)) 32))) ?_
  refine WL.q (Wn.no rfl) rfl rfl (R.assign (v := (vu64 (((shr64 x 32) * (y &&& 4294967295)) + (shr64 ((x &&& 4294967295) * (y &&& 4294967295)) 32)))) rfl) ?_
  refine WL.nil ?_
  refine thn_n ?_
  refine WP.seq ?_
  refine WP.reg ?_
  refine WL.q (Wn.no rfl) rfl rfl (R.move (v := (vu64 (((shr64 x 32) * (y &&& 4294967295)) + (shr64 ((x &&& 4294967295) * (y &&& 4294967295)) 32)))) rfl) ?_
  refine WL.q (Wn.no rfl) rfl rfl (R.bin (v := (vu64 ((((shr64 x 32) * (y &&& 4294967295)) + (shr64 ((x &&& 4294967295) * (y &&& 4294967295)) 32)) &&& 4294967295))) rfl rfl (b64_and (((shr64 x 32) * (y &&& 4294967295)) + (shr64 ((x &&& 4294967295) * (y &&& 4294967295)) 32)) 4294967295)) ?_
  refine WL.q (Wn.no rfl) rfl rfl (R.assign (v := (vu64 ((((shr64 x 32) * (y &&& 4294967295)) + (shr64 ((x &&& 4294967295) * (y &&& 4294967295)) 32)) &&& 4294967295))) rfl) ?_
  refine WL.nil ?_
  refine thn_n ?_
  refine WP.seq ?_
  refine WP.reg ?_
  refine WL.q (Wn.no rfl) rfl rfl (R.move (v := (vu64 (((shr64 x 32) * (y &&& 4294967295)) + (shr64 ((x &&& 4294967295) * (y &&& 4294967295)) 32)))) rfl) ?_
  refine WL.q (Wn.no rfl) rfl rfl (R.binR (v := vu64 (shr64 (((shr64 x 32) * (y &&& 4294967295)) + (shr64 ((x &&& 4294967295) * (y &&& 4294967295)) 32)) 32)) rfl rfl (run_shr64 _ _ _ (((shr64 x 32) * (y &&& 4294967295)) + (shr64 ((x &&& 4294967295) * (y &&& 4294967295)) 32)) _ 32)) ?_
  refine WL.q (Wn.no rfl) rfl rfl (R.assign (v := (vu64 (shr64 (((shr64 x 32) * (y &&& 4294967295)) + (shr64 ((x &&& 4294967295) * (y &&& 4294967295)) 32)) 32))) rfl) ?_
  refine WL.nil ?_
  refine thn_n ?_
  refine WP.seq ?_
  refine WP.reg ?_
  refine WL.q (Wn.no rfl) rfl rfl (R.move (v := (vu64 ((((shr64 x 32) * (y &&& 4294967295)) + (shr64 ((x &&& 4294967295) * (y &&& 4294967295)) 32)) &&& 4294967295))) rfl) ?_
  refine WL.q (Wn.no rfl) rfl rfl (R.move (v := (vu64 (x &&& 4294967295))) rfl) ?_
  refine WL.q (Wn.no rfl) rfl rfl (R.move (v := (vu64 (shr64 y 32))) rfl) ?_
  refine WL.q (Wn.no rfl) rfl rfl (R.bin (v := (vu64 ((x &&& 4294967295) * (shr64 y 32)))) rfl rfl (b64_mul (x &&& 4294967295) (shr64 y 32))) ?_
  refine WL.q (Wn.no rfl) rfl rfl (R.bin (v := (vu64 (((((shr64 x 32) * (y &&& 4294967295)) + (shr64 ((x &&& 4294967295) * (y &&& 4294967295)) 32)) &&& 4294967295) + ((x &&& 4294967295) * (shr64 y 32))))) rfl rfl (b64_add ((((shr64 x 32) * (y &&& 4294967295)) + (shr64 ((x &&& 4294967295) * (y &&& 4294967295)) 32)) &&& 4294967295) ((x &&& 4294967295) * (shr64 y 32)))) ?_
  refine WL.q (Wn.no rfl) rfl rfl (R.assign (v := (vu64 (((((shr64 x 32) * (y &&& 4294967295)) + (shr64 ((x &&& 4294967295) * (y &&& 4294967295)) 32)) &&& 4294967295) + ((x &&& 4294967295) * (shr64 y 32))))) rfl) ?_
  refine WL.nil ?_
  refine thn_n ?_
  refine WP.seq ?_
  refine WP.reg ?_
  refine WL.q (Wn.no rfl) rfl rfl (R.move (v := (vu64 (shr64 x 32))) rfl) ?_
  refine WL.q (Wn.no rfl) rfl rfl (R.move (v := (vu64 (shr64 y 32))) rfl) ?_
  refine WL.q (Wn.no rfl) rfl rfl (R.bin (v := (vu64 ((shr64 x 32) * (shr64 y 32)))) rfl rfl (b64_mul (shr64 x 32) (shr64 y 32))) ?_
  refine WL.q (Wn.no rfl) rfl rfl (R.move (v := (vu64 (shr64 (((shr64 x 32) * (y &&& 4294967295)) + (shr64 ((x &&& 4294967295) * (y &&& 4294967295)) 32)) 32))) rfl) ?_
  refine WL.q (Wn.no rfl) rfl rfl (R.bin (v := (vu64 (((shr64 x 32) * (shr64 y 32)) + (shr64 (((shr64 x 32) * (y &&& 4294967295)) + (shr64 ((x &&& 4294967295) * (y &&& 4294967295)) 32)) 32)))) rfl rfl (b64_add ((shr64 x 32) * (shr64 y 32)) (shr64 (((shr64 x 32) * (y &&& 4294967295)) + (shr64 ((x &&& 4294967295) * (y &&& 4294967295)) 32)) 32))) ?_
  refine WL.q (Wn.no rfl) rfl rfl (R.move (v := (vu64 (((((shr64 x 32) * (y &&& 4294967295)) + (shr64 ((x &&& 4294967295) * (y &&& 4294967295)) 32)) &&& 4294967295) + ((x &&& 4294967295) * (shr64 y 32))))) rfl) ?_
  refine WL.q (Wn.no rfl) rfl rfl (R.binR (v := vu64 (shr64 (((((shr64 x 32) * (y &&& 4294967295)) + (shr64 ((x &&& 4294967295) * (y &&& 4294967295)) 32)) &&& 4294967295) + ((x &&& 4294967295) * (shr64 y 32))) 32)) rfl rfl (run_shr64 _ _ _ (((((shr64 x 32) * (y &&& 4294967295)) + (shr64 ((x &&& 4294967295) * (y &&& 4294967295)) 32)) &&& 4294967295) + ((x &&& 4294967295) * (shr64 y 32))) _ 32)) ?_
  refine WL.q (Wn.no rfl) rfl rfl (R.bin (v := (vu64 ((((shr64 x 32) * (shr64 y 32)) + (shr64 (((shr64 x 32) * (y &&& 4294967295)) + (shr64 ((x &&& 4294967295) * (y &&& 4294967295)) 32)) 32)) + (shr64 (((((shr64 x 32) * (y &&& 4294967295)) + (shr64 ((x &&& 4294967295) * (y &&& 4294967295)) 32)) &&& 4294967295) + ((x &&& 4294967295) * (shr64 y 32))) 32)))) rfl rfl (b64_add (((shr64 x 32) * (shr64 y 32)) + (shr64 (((shr64 x 32) * (y &&& 4294967295)) + (shr64 ((x &&& 4294967295) * (y &&& 4294967295)) 32)) 32)) (shr64 (((((shr64 x 32) * (y &&& 4294967295)) + (shr64 ((x &&& 4294967295) * (y &&& 4294967295)) 32)) &&& 4294967295) + ((x &&& 4294967295) * (shr64 y 32))) 32))) ?_
  refine WL.q (Wn.no rfl) rfl rfl (R.assign (v := (vu64 ((((shr64 x 32) * (shr64 y 32)) + (shr64 (((shr64 x 32) * (y &&& 4294967295)) + (shr64 ((x &&& 4294967295) * (y &&& 4294967295)) 32)) 32)) + (shr64 (((((shr64 x 32) * (y &&& 4294967295)) + (shr64 ((x &&& 4294967295) * (y &&& 4294967295)) 32)) &&& 4294967295) + ((x &&& 4294967295) * (shr64 y 32))) 32)))) rfl) ?_
  refine WL.nil ?_
  refine thn_n ?_
  refine WP.seq ?_
  refine WP.reg ?_
  refine WL.q (Wn.no rfl) rfl rfl (R.move (v := (vu64 x)) rfl) ?_
  refine WL.q (Wn.no rfl) rfl rfl (R.move (v := (vu64 y)) rfl) ?_
  refine WL.q (Wn.no rfl) rfl rfl (R.bin (v := (vu64 (x * y))) rfl rfl (b64_mul x y)) ?_
  refine WL.q (Wn.no rfl) rfl rfl (R.assign (v := (vu64 (x * y))) rfl) ?_
  refine WL.nil ?_
  refine thn_n ?_
  refine WP.ret ?_
  refine ret_of Try.results84 (RV.tmp (v := (vu64 ((((shr64 x 32) * (shr64 y 32)) + (shr64 (((shr64 x 32) * (y &&& 4294967295)) + (shr64 ((x &&& 4294967295) * (y &&& 4294967295)) 32)) 32)) + (shr64 (((((shr64 x 32) * (y &&& 4294967295)) + (shr64 ((x &&& 4294967295) * (y &&& 4294967295)) 32)) &&& 4294967295) + ((x &&& 4294967295) * (shr64 y 32))) 32)))) rfl (RV.tmp (v := (vu64 (x * y))) rfl RV.nil)) ?_
  exact ⟨rfl, h_0.chgS⟩

theorem c_square (x : UInt64) (w : World) :
    Cs Try.prog 76 [(vu64 x)].toArray w (fun v w1 => v = (.agg ⟨([mulHi x x, x * x] : List UInt64).map vu64⟩) ∧ Chg w w1 []) := by
  refine Cs.of (n := 14) (args := [(vu64 x)]) Try.func76 rfl rfl rfl ?_
  have h_0 := HP.init w
  refine WP.seq ?_
  refine WP.reg ?_
  refine WL.alloc (segs := [(2, (List.replicate 2 (0 : UInt64)).map vu64)]) h_0 (zv Try.typeInfo91 rfl) rfl (SsOk.cons (SOk.u64 (List.length_replicate ..)) SsOk.nil) rfl (fun b_1 w_2 h_3 => ?_)
  refine WL.nil ?_
  refine thn_n ?_
  refine WP.seq ?_
  refine WP.reg ?_
  refine WL.q (Wn.no rfl) rfl rfl (R.move (v := (vu64 x)) rfl) ?_
  refine WL.q (Wn.no rfl) rfl rfl (R.move (v := (vu64 x)) rfl) ?_
  refine WL.call (al := [(vu64 x), (vu64 x)]) Try.call84 rfl rfl (c_Mul64 x x _ ) rfl ?_
  rintro _ w_5 ⟨rfl, hc_4⟩
  have h_6 := h_3.same hc_4
  refine WL.q (Wn.no rfl) rfl rfl (R.move (v := (.tuple [(vu64 (mulHi x x)), (vu64 (x * x))].toArray)) rfl) ?_
  refine WL.q (Wn.no rfl) rfl rfl (R.extract (l := [(vu64 (mulHi x x)), (vu64 (x * x))]) (v := (vu64 (mulHi x x))) rfl rfl) ?_
  refine WL.q (Wn.no rfl) rfl rfl (R.extract (l := [(vu64 (mulHi x x)), (vu64 (x * x))]) (v := (vu64 (x * x))) rfl rfl) ?_
  refine WL.q (Wn.no rfl) rfl rfl (R.assign (v := (vu64 (mulHi x x))) rfl) ?_
  refine WL.q (Wn.no rfl) rfl rfl (R.assign (v := (vu64 (x * x))) rfl) ?_
  refine WL.nil ?_
  refine thn_n ?_
  refine WP.seq ?_
  refine WP.reg ?_
  refine WL.q (Wn.no rfl) rfl rfl (R.move (v := (vu64 (mulHi x x))) rfl) ?_
  refine WL.q (Wn.no rfl) rfl rfl (R.move (v := (vu64 (x * x))) rfl) ?_
  refine WL.q (Wn.no rfl) rfl rfl (R.buildA (vs := [(0, (vu64 (mulHi x x))), (1, (vu64 (x * x)))]) (cs := ([mulHi x x, x * x] : List UInt64).map vu64) Try.underlying91 Try.sizeOf58 (zv Try.typeInfo91 rfl) rfl rfl) ?_
  refine WL.storeA (b := b_1) (off := 0) [] [(2, (List.replicate 2 (0 : UInt64)).map vu64)] [(2, ([mulHi x x, x * x] : List UInt64).map vu64)] [] (ys := ([mulHi x x, x * x] : List UInt64).map vu64) h_6 rfl rfl Try.sizeOf91 At.h (by decide) rfl rfl rfl rfl rfl rfl (SsOk.cons (SOk.u64 (rfl : List.length ([mulHi x x, x * x] : List UInt64) = 2)) SsOk.nil) (fun w_7 h_8 => ?_)
  refine WL.nil ?_
  refine thn_n ?_
  refine WP.ret ?_
  refine ret_of Try.results76 (RV.cell rfl (h_8.loadA (cs := ([mulHi x x, x * x] : List UInt64).map vu64) Try.isAgg91 Try.sizeOf91 (.head _) rfl rfl) RV.nil) ?_
  exact ⟨rfl, h_8.chgS⟩

theorem c_cube (x : UInt64) (w : World) :
    Cs Try.prog 70 [(vu64 x)].toArray w (fun v w1 => v = (.tuple [(.agg ⟨([cubA x, cubB x] : List UInt64).map vu64⟩), (.bool (cubX x))].toArray) ∧ Chg w w1 []) := by
  refine Cs.of (n := 50) (args := [(vu64 x)]) Try.func70 rfl rfl rfl ?_
  have h_0 := HP.init w
  refine WP.seq ?_
  refine WP.reg ?_
  refine WL.alloc (segs := [(2, (List.replicate 2 (0 : UInt64)).map vu64)]) h_0 (zv Try.typeInfo91 rfl) rfl (SsOk.cons (SOk.u64 (List.length_replicate ..)) SsOk.nil) rfl (fun b_1 w_2 h_3 => ?_)
  refine WL.q (Wn.no rfl) rfl rfl (R.assign (v := (.bool false)) rfl) ?_
  refine WL.nil ?_
  refine thn_n ?_
  refine WP.seq ?_
  refine WP.reg ?_
  refine WL.q (Wn.no rfl) rfl rfl (R.move (v := (vu64 x)) rfl) ?_
  refine WL.call (al := [(vu64 x)]) Try.call76 rfl rfl (c_square x _ ) rfl ?_
  rintro _ w_5 ⟨rfl, hc_4⟩
  have h_6 := h_3.same hc_4
  refine WL.alloc (segs := [(2, (List.replicate 2 (0 : UInt64)).map vu64)]) h_6 (zv Try.typeInfo91 rfl) rfl (SsOk.cons (SOk.u64 (List.length_replicate ..)) SsOk.nil) rfl (fun b_7 w_8 h_9 => ?_)
  refine WL.storeA (b := b_7) (off := 0) [] [(2, (List.replicate 2 (0 : UInt64)).map vu64)] [(2, ([mulHi x x, x * x] : List UInt64).map vu64)] [] (ys := ([mulHi x x, x * x] : List UInt64).map vu64) h_9 rfl rfl Try.sizeOf91 At.h (by decide) rfl rfl rfl rfl rfl rfl (SsOk.cons (SOk.u64 (rfl : List.length ([mulHi x x, x * x] : List UInt64) = 2)) SsOk.nil) (fun w_10 h_11 => ?_)
  refine WL.nil ?_
  refine thn_n ?_
  refine WP.seq ?_
  refine WP.reg ?_
  refine WL.q (Wn.no rfl) rfl rfl (R.indexA (b := b_7) (off := 0) (off' := 1) (i := 1) rfl rfl rfl (by decide) Try.underlying91 Try.sizeOf58 rfl) ?_
  refine WL.q (Wn.no rfl) rfl rfl (R.loadE (b := b_7) (off := 1) (i := 1) (v := (vu64 (x * x))) rfl Try.isAgg58 (h_11.ok _ (.head _)) Sg.h rfl (get_u64 (lt_len (K := 2) (rfl : List.length ([mulHi x x, x * x] : List UInt64) = 2) (by decide)))) ?_
  refine WL.q (Wn.no rfl) rfl rfl (R.move (v := (vu64 x)) rfl) ?_
  refine WL.call (al := [(vu64 (x * x)), (vu64 x)]) Try.call84 rfl rfl (c_Mul64 (x * x) x _ ) rfl ?_
  rintro _ w_13 ⟨rfl, hc_12⟩
  have h_14 := h_11.same hc_12
  refine WL.q (Wn.no rfl) rfl rfl (R.move (v := (.tuple [(vu64 (mulHi (x * x) x)), (vu64 ((x * x) * x))].toArray)) rfl) ?_
  refine WL.q (Wn.no rfl) rfl rfl (R.extract (l := [(vu64 (mulHi (x * x) x)), (vu64 ((x * x) * x))]) (v := (vu64 (mulHi (x * x) x))) rfl rfl) ?_
  refine WL.q (Wn.no rfl) rfl rfl (R.extract (l := [(vu64 (mulHi (x * x) x)), (vu64 ((x * x) * x))]) (v := (vu64 ((x * x) * x))) rfl rfl) ?_
  refine WL.q (Wn.no rfl) rfl rfl (R.assign (v := (vu64 (mulHi (x * x) x))) rfl) ?_
  refine WL.q (Wn.no rfl) rfl rfl (R.assign (v := (vu64 ((x * x) * x))) rfl) ?_
  refine WL.nil ?_
  refine thn_n ?_
  refine WP.seq ?_
  refine WP.reg ?_
  refine WL.q (Wn.no rfl) rfl rfl (R.indexA (b := b_7) (off := 0) (off' := 0) (i := 0) rfl rfl rfl (by decide) Try.underlying91 Try.sizeOf58 rfl) ?_
  refine WL.q (Wn.no rfl) rfl rfl (R.loadE (b := b_7) (off := 0) (i := 0) (v := (vu64 (mulHi x x))) rfl Try.isAgg58 (h_14.ok _ (.head _)) Sg.h rfl (get_u64 (lt_len (K := 2) (rfl : List.length ([mulHi x x, x * x] : List UInt64) = 2) (by decide)))) ?_
  refine WL.q (Wn.no rfl) rfl rfl (R.move (v := (vu64 x)) rfl) ?_
  refine WL.call (al := [(vu64 (mulHi x x)), (vu64 x)]) Try.call84 rfl rfl (c_Mul64 (mulHi x x) x _ ) rfl ?_
  rintro _ w_16 ⟨rfl, hc_15⟩
  have h_17 := h_14.same hc_15
  refine WL.q (Wn.no rfl) rfl rfl (R.move (v := (.tuple [(vu64 (mulHi (mulHi x x) x)), (vu64 ((mulHi x x) * x))].toArray)) rfl) ?_
  refine WL.q (Wn.no rfl) rfl rfl (R.extract (l := [(vu64 (mulHi (mulHi x x) x)), (vu64 ((mulHi x x) * x))]) (v := (vu64 (mulHi (mulHi x x) x))) rfl rfl) ?_
  refine WL.q (Wn.no rfl) rfl rfl (R.extract (l := [(vu64 (mulHi (mulHi x x) x)), (vu64 ((mulHi x x) * x))]) (v := (vu64 ((mulHi x x) * x))) rfl rfl) ?_
  refine WL.q (Wn.no rfl) rfl rfl (R.assign (v := (vu64 (mulHi (mulHi x x) x))) rfl) ?_
  refine WL.q (Wn.no rfl) rfl rfl (R.assign (v := (vu64 ((mulHi x x) * x))) rfl) ?_
  refine WL.nil ?_
  refine thn_n ?_
  refine WP.seq ?_
  refine WP.reg ?_
  refine WL.q (Wn.no rfl) rfl rfl (R.move (v := (vu64 ((mulHi x x) * x))) rfl) ?_
  refine WL.q (Wn.no rfl) rfl rfl (R.move (v := (vu64 (mulHi (x * x) x))) rfl) ?_
  refine WL.q (Wn.no rfl) rfl rfl (R.native (al := [(vu64 ((mulHi x x) * x)), (vu64 (mulHi (x * x) x)), (vu64 0)]) (v := (.tuple [(vu64 (((mulHi x x) * x) + (mulHi (x * x) x))), (vu64 (cry ((mulHi x x) * x) (mulHi (x * x) x)))].toArray)) rfl rfl (nat_add64 Try.func85 (by kernel_rfl) (by kernel_rfl) (by kernel_rfl) (by kernel_rfl) ((mulHi x x) * x) (mulHi (x * x) x))) ?_
  refine WL.q (Wn.no rfl) rfl rfl (R.move (v := (.tuple [(vu64 (((mulHi x x) * x) + (mulHi (x * x) x))), (vu64 (cry ((mulHi x x) * x) (mulHi (x * x) x)))].toArray)) rfl) ?_
  refine WL.q (Wn.no rfl) rfl rfl (R.extract (l := [(vu64 (((mulHi x x) * x) + (mulHi (x * x) x))), (vu64 (cry ((mulHi x x) * x) (mulHi (x * x) x)))]) (v := (vu64 (((mulHi x x) * x) + (mulHi (x * x) x)))) rfl rfl) ?_
  refine WL.q (Wn.no rfl) rfl rfl (R.extract (l := [(vu64 (((mulHi x x) * x) + (mulHi (x * x) x))), (vu64 (cry ((mulHi x x) * x) (mulHi (x * x) x)))]) (v := (vu64 (cry ((mulHi x x) * x) (mulHi (x * x) x)))) rfl rfl) ?_
  refine WL.q (Wn.no rfl) rfl rfl (R.assign (v := (vu64 (((mulHi x x) * x) + (mulHi (x * x) x)))) rfl) ?_
  refine WL.q (Wn.no rfl) rfl rfl (R.assign (v := (vu64 (cry ((mulHi x x) * x) (mulHi (x * x) x)))) rfl) ?_
  refine WL.nil ?_
  refine thn_n ?_
  refine WP.seq ?_
  refine WP.reg ?_
  refine WL.q (Wn.no rfl) rfl rfl (R.move (v := (vu64 (mulHi (mulHi x x) x))) rfl) ?_
  refine WL.q (Wn.no rfl) rfl rfl (R.move (v := (vu64 (cry ((mulHi x x) * x) (mulHi (x * x) x)))) rfl) ?_
  refine WL.q (Wn.no rfl) rfl rfl (R.bin (v := (vu64 ((mulHi (mulHi x x) x) + (cry ((mulHi x x) * x) (mulHi (x * x) x))))) rfl rfl (b64_add (mulHi (mulHi x x) x) (cry ((mulHi x x) * x) (mulHi (x * x) x)))) ?_
  refine WL.q (Wn.no rfl) rfl rfl (R.assign (v := (vu64 ((mulHi (mulHi x x) x) + (cry ((mulHi x x) * x) (mulHi (x * x) x))))) rfl) ?_
  refine WL.nil ?_
  refine thn_n ?_
  refine WP.seq ?_
  refine WP.reg ?_
  refine WL.q (Wn.no rfl) rfl rfl (R.move (v := (vu64 ((mulHi (mulHi x x) x) + (cry ((mulHi x x) * x) (mulHi (x * x) x))))) rfl) ?_
  refine WL.q (Wn.no rfl) rfl rfl (R.binR (v := vu64 (shl64 ((mulHi (mulHi x x) x) + (cry ((mulHi x x) * x) (mulHi (x * x) x))) 32)) rfl rfl (run_shl64 _ _ _ ((mulHi (mulHi x x) x) + (cry ((mulHi x x) * x) (mulHi (x * x) x))) _ 32)) ?_
  refine WL.q (Wn.no rfl) rfl rfl (R.move (v := (vu64 (((mulHi x x) * x) + (mulHi (x * x) x)))) rfl) ?_
  refine WL.q (Wn.no rfl) rfl rfl (R.binR (v := vu64 (shr64 (((mulHi x x) * x) + (mulHi (x * x) x)) 32)) rfl rfl (run_shr64 _ _ _ (((mulHi x x) * x) + (mulHi (x * x) x)) _ 32)) ?_
  refine WL.q (Wn.no rfl) rfl rfl (R.bin (v := (vu64 ((shl64 ((mulHi (mulHi x x) x) + (cry ((mulHi x x) * x) (mulHi (x * x) x))) 32) ||| (shr64 (((mulHi x x) * x) + (mulHi (x * x) x)) 32)))) rfl rfl (b64_or (shl64 ((mulHi (mulHi x x) x) + (cry ((mulHi x x) * x) (mulHi (x * x) x))) 32) (shr64 (((mulHi x x) * x) + (mulHi (x * x) x)) 32))) ?_
  refine WL.q (Wn.no rfl) rfl rfl (R.move (v := (vu64 (((mulHi x x) * x) + (mulHi (x * x) x)))) rfl) ?_
  refine WL.q (Wn.no rfl) rfl rfl (R.binR (v := vu64 (shl64 (((mulHi x x) * x) + (mulHi (x * x) x)) 32)) rfl rfl (run_shl64 _ _ _ (((mulHi x x) * x) + (mulHi (x * x) x)) _ 32)) ?_
  refine WL.q (Wn.no rfl) rfl rfl (R.move (v := (vu64 ((x * x) * x))) rfl) ?_
  refine WL.q (Wn.no rfl) rfl rfl (R.binR (v := vu64 (shr64 ((x * x) * x) 32)) rfl rfl (run_shr64 _ _ _ ((x * x) * x) _ 32)) ?_
  refine WL.q (Wn.no rfl) rfl rfl (R.bin (v := (vu64 ((shl64 (((mulHi x x) * x) + (mulHi (x * x) x)) 32) ||| (shr64 ((x * x) * x) 32)))) rfl rfl (b64_or (shl64 (((mulHi x x) * x) + (mulHi (x * x) x)) 32) (shr64 ((x * x) * x) 32))) ?_
  refine WL.q (Wn.no rfl) rfl rfl (R.buildA (vs := [(0, (vu64 ((shl64 ((mulHi (mulHi x x) x) + (cry ((mulHi x x) * x) (mulHi (x * x) x))) 32) ||| (shr64 (((mulHi x x) * x) + (mulHi (x * x) x)) 32)))), (1, (vu64 ((shl64 (((mulHi x x) * x) + (mulHi (x * x) x)) 32) ||| (shr64 ((x * x) * x) 32))))]) (cs := ([(shl64 ((mulHi (mulHi x x) x) + (cry ((mulHi x x) * x) (mulHi (x * x) x))) 32) ||| (shr64 (((mulHi x x) * x) + (mulHi (x * x) x)) 32), (shl64 (((mulHi x x) * x) + (mulHi (x * x) x)) 32) ||| (shr64 ((x * x) * x) 32)] : List UInt64).map vu64) Try.underlying91 Try.sizeOf58 (zv Try.typeInfo91 rfl) rfl rfl) ?_
  refine WL.q (Wn.no rfl) rfl rfl (R.move (v := (vu64 ((x * x) * x))) rfl) ?_
  refine WL.q (Wn.no rfl) rfl rfl (R.binR (v := vu64 (shl64 ((x * x) * x) 32)) rfl rfl (run_shl64 _ _ _ ((x * x) * x) _ 32)) ?_
  refine WL.q (Wn.no rfl) rfl rfl (R.bin (v := (.bool (decide ((shl64 ((x * x) * x) 32 : UInt64) ≠ 0)))) rfl rfl (b64_neq (shl64 ((x * x) * x) 32) 0 (r := decide ((shl64 ((x * x) * x) 32 : UInt64) ≠ 0)) rfl)) ?_
  refine WL.storeA (b := b_1) (off := 0) [] [(2, (List.replicate 2 (0 : UInt64)).map vu64)] [(2, ([(shl64 ((mulHi (mulHi x x) x) + (cry ((mulHi x x) * x) (mulHi (x * x) x))) 32) ||| (shr64 (((mulHi x x) * x) + (mulHi (x * x) x)) 32), (shl64 (((mulHi x x) * x) + (mulHi (x * x) x)) 32) ||| (shr64 ((x * x) * x) 32)] : List UInt64).map vu64)] [] (ys := ([(shl64 ((mulHi (mulHi x x) x) + (cry ((mulHi x x) * x) (mulHi (x * x) x))) 32) ||| (shr64 (((mulHi x x) * x) + (mulHi (x * x) x)) 32), (shl64 (((mulHi x x) * x) + (mulHi (x * x) x)) 32) ||| (shr64 ((x * x) * x) 32)] : List UInt64).map vu64) h_17 rfl rfl Try.sizeOf91 (At.t At.h) (by decide) rfl rfl rfl rfl rfl rfl (SsOk.cons (SOk.u64 (rfl : List.length ([(shl64 ((mulHi (mulHi x x) x) + (cry ((mulHi x x) * x) (mulHi (x * x) x))) 32) ||| (shr64 (((mulHi x x) * x) + (mulHi (x * x) x)) 32), (shl64 (((mulHi x x) * x) + (mulHi (x * x) x)) 32) ||| (shr64 ((x * x) * x) 32)] : List UInt64) = 2)) SsOk.nil) (fun w_18 h_19 => ?_)
  refine WL.q (Wn.no rfl) rfl rfl (R.assign (v := (.bool (decide ((shl64 ((x * x) * x) 32 : UInt64) ≠ 0)))) rfl) ?_
  refine WL.nil ?_
  refine thn_n ?_
  refine WP.ret ?_
  refine ret_of Try.results70 (RV.cell rfl (h_19.loadA (cs := ([(shl64 ((mulHi (mulHi x x) x) + (cry ((mulHi x x) * x) (mulHi (x * x) x))) 32) ||| (shr64 (((mulHi x x) * x) + (mulHi (x * x) x)) 32), (shl64 (((mulHi x x) * x) + (mulHi (x * x) x)) 32) ||| (shr64 ((x * x) * x) 32)] : List UInt64).map vu64) Try.isAgg91 Try.sizeOf91 (.tail _ (.head _)) rfl rfl) (RV.tmp (v := (.bool (decide ((shl64 ((x * x) * x) 32 : UInt64) ≠ 0)))) rfl RV.nil)) ?_
  exact ⟨rfl, h_19.chgS⟩

theorem c_above (a b : UInt64) (lost : Bool) (p : UInt64) (w : World) :
    Cs Try.prog 71 [(.agg ⟨([a, b] : List UInt64).map vu64⟩), (.bool lost), (vu64 p)].toArray w (fun v w1 => v = (.bool (aboveF a b lost p)) ∧ Chg w w1 []) := by
  refine Cs.of (n := 25) (args := [(.agg ⟨([a, b] : List UInt64).map vu64⟩), (.bool lost), (vu64 p)]) Try.func71 rfl rfl rfl ?_
  have h_0 := HP.init w
  refine WP.seq ?_
  refine WP.reg ?_
  refine WL.box (v := (.agg ⟨([a, b] : List UInt64).map vu64⟩)) (segs := [(2, ([a, b] : List UInt64).map vu64)]) h_0 rfl rfl (SsOk.cons (SOk.u64 (rfl : List.length ([a, b] : List UInt64) = 2)) SsOk.nil) rfl (fun b_1 w_2 h_3 => ?_)
  refine WL.q (Wn.no rfl) rfl rfl (R.assign (v := (.bool false)) rfl) ?_
  refine WL.nil ?_
  refine thn_n ?_
  refine WP.seq ?_
  refine WP.reg ?_
  refine WL.q (Wn.no rfl) rfl rfl (R.indexA (b := b_1) (off := 0) (off' := 0) (i := 0) rfl rfl rfl (by decide) Try.underlying91 Try.sizeOf58 rfl) ?_
  refine WL.q (Wn.no rfl) rfl rfl (R.loadE (b := b_1) (off := 0) (i := 0) (v := (vu64 a)) rfl Try.isAgg58 (h_3.ok _ (.head _)) Sg.h rfl (get_u64 (lt_len (K := 2) (rfl : List.length ([a, b] : List UInt64) = 2) (by decide)))) ?_
  refine WL.q (Wn.no rfl) rfl rfl (R.move (v := (vu64 p)) rfl) ?_
  refine WL.q (Wn.no rfl) rfl rfl (R.bin (v := (.bool (decide ((a : UInt64) > p)))) rfl rfl (b64_gtr a p (r := decide ((a : UInt64) > p)) rfl)) ?_
  refine WL.q (Wn.no rfl) rfl rfl (R.move (v := (.bool (decide ((a : UInt64) > p)))) rfl) ?_
  rcases Bool.eq_false_or_eq_true (decide ((a : UInt64) > p)) with c_4 | c_4
  · have p_5 := of_decide_eq_true c_4
    refine WL.skip rfl (congrArg Value.bool c_4) rfl ?_
    refine WL.skip rfl (congrArg Value.bool c_4) rfl ?_
    refine WL.skip rfl (congrArg Value.bool c_4) rfl ?_
    refine WL.skip rfl (congrArg Value.bool c_4) rfl ?_
    refine WL.skip rfl (congrArg Value.bool c_4) rfl ?_
    refine WL.skipU rfl rfl rfl ?_
    refine WL.skipU rfl rfl rfl ?_
    refine WL.skipU rfl rfl rfl ?_
    refine WL.skipU rfl rfl rfl ?_
    refine WL.skipU rfl rfl rfl ?_
    refine WL.skipU rfl rfl rfl ?_
    refine WL.skip rfl (congrArg Value.bool c_4) rfl ?_
    refine WL.q (Wn.no rfl) rfl rfl (R.pickT (v := (.bool true)) (congrArg Value.bool c_4) rfl) ?_
    refine WL.q (Wn.no rfl) rfl rfl (R.assign (v := (.bool true)) rfl) ?_
    refine WL.nil ?_
    refine thn_n ?_
    refine WP.ret ?_
    refine ret_of Try.results71 (RV.tmp (v := (.bool true)) rfl RV.nil) ?_
    exact ⟨congrArg Value.bool (by simp only [aboveF, c_4]; rfl), h_3.chgS⟩
  · have p_6 := of_decide_eq_false c_4
    refine WL.want rfl (congrArg Value.bool c_4) ?_
    refine WL.q (Wn.no rfl) rfl rfl (R.indexA (b := b_1) (off := 0) (off' := 0) (i := 0) rfl rfl rfl (by decide) Try.underlying91 Try.sizeOf58 rfl) ?_
    refine WL.want rfl (congrArg Value.bool c_4) ?_
    refine WL.q (Wn.no rfl) rfl rfl (R.loadE (b := b_1) (off := 0) (i := 0) (v := (vu64 a)) rfl Try.isAgg58 (h_3.ok _ (.head _)) Sg.h rfl (get_u64 (lt_len (K := 2) (rfl : List.length ([a, b] : List UInt64) = 2) (by decide)))) ?_
    refine WL.want rfl (congrArg Value.bool c_4) ?_
    refine WL.q (Wn.no rfl) rfl rfl (R.move (v := (vu64 p)) rfl) ?_
    refine WL.want rfl (congrArg Value.bool c_4) ?_
    refine WL.q (Wn.no rfl) rfl rfl (R.bin (v := (.bool (decide ((a : UInt64) = p)))) rfl rfl (b64_eql a p (r := decide ((a : UInt64) = p)) rfl)) ?_
    refine WL.want rfl (congrArg Value.bool c_4) ?_
    refine WL.q (Wn.no rfl) rfl rfl (R.move (v := (.bool (decide ((a : UInt64) = p)))) rfl) ?_
    rcases Bool.eq_false_or_eq_true (decide ((a : UInt64) = p)) with c_7 | c_7
    · have p_8 := of_decide_eq_true c_7
      refine WL.want rfl (congrArg Value.bool c_7) ?_
      refine WL.q (Wn.no rfl) rfl rfl (R.indexA (b := b_1) (off := 0) (off' := 1) (i := 1) rfl rfl rfl (by decide) Try.underlying91 Try.sizeOf58 rfl) ?_
      refine WL.want rfl (congrArg Value.bool c_7) ?_
      refine WL.q (Wn.no rfl) rfl rfl (R.loadE (b := b_1) (off := 1) (i := 1) (v := (vu64 b)) rfl Try.isAgg58 (h_3.ok _ (.head _)) Sg.h rfl (get_u64 (lt_len (K := 2) (rfl : List.length ([a, b] : List UInt64) = 2) (by decide)))) ?_
      refine WL.want rfl (congrArg Value.bool c_7) ?_
      refine WL.q (Wn.no rfl) rfl rfl (R.bin (v := (.bool (decide ((b : UInt64) > 0)))) rfl rfl (b64_gtr b 0 (r := decide ((b : UInt64) > 0)) rfl)) ?_
      refine WL.want rfl (congrArg Value.bool c_7) ?_
      refine WL.q (Wn.no rfl) rfl rfl (R.move (v := (.bool (decide ((b : UInt64) > 0)))) rfl) ?_
      rcases Bool.eq_false_or_eq_true (decide ((b : UInt64) > 0)) with c_9 | c_9
      · have p_10 := of_decide_eq_true c_9
        refine WL.skip rfl (congrArg Value.bool c_9) rfl ?_
        refine WL.want rfl (congrArg Value.bool c_7) ?_
        refine WL.q (Wn.no rfl) rfl rfl (R.pickT (v := (.bool true)) (congrArg Value.bool c_9) rfl) ?_
        refine WL.want rfl (congrArg Value.bool c_4) ?_
        refine WL.q (Wn.no rfl) rfl rfl (R.pickT (v := (.bool true)) (congrArg Value.bool c_7) rfl) ?_
        refine WL.q (Wn.no rfl) rfl rfl (R.pickF (v := (.bool true)) (congrArg Value.bool c_4) rfl) ?_
        refine WL.q (Wn.no rfl) rfl rfl (R.assign (v := (.bool true)) rfl) ?_
        refine WL.nil ?_
        refine thn_n ?_
        refine WP.ret ?_
        refine ret_of Try.results71 (RV.tmp (v := (.bool true)) rfl RV.nil) ?_
        exact ⟨congrArg Value.bool (by simp only [aboveF, c_4, c_7, c_9]; rfl), h_3.chgS⟩
      · have p_11 := of_decide_eq_false c_9
        refine WL.want rfl (congrArg Value.bool c_9) ?_
        refine WL.q (Wn.no rfl) rfl rfl (R.move (v := (.bool lost)) rfl) ?_
        refine WL.want rfl (congrArg Value.bool c_7) ?_
        refine WL.q (Wn.no rfl) rfl rfl (R.pickF (v := (.bool lost)) (congrArg Value.bool c_9) rfl) ?_
        refine WL.want rfl (congrArg Value.bool c_4) ?_
        refine WL.q (Wn.no rfl) rfl rfl (R.pickT (v := (.bool lost)) (congrArg Value.bool c_7) rfl) ?_
        refine WL.q (Wn.no rfl) rfl rfl (R.pickF (v := (.bool lost)) (congrArg Value.bool c_4) rfl) ?_
        refine WL.q (Wn.no rfl) rfl rfl (R.assign (v := (.bool lost)) rfl) ?_
        refine WL.nil ?_
        refine thn_n ?_
        refine WP.ret ?_
        refine ret_of Try.results71 (RV.tmp (v := (.bool lost)) rfl RV.nil) ?_
        exact ⟨congrArg Value.bool (by simp only [aboveF, c_4, c_7, c_9]; rfl), h_3.chgS⟩
    · have p_12 := of_decide_eq_false c_7
      refine WL.skip rfl (congrArg Value.bool c_7) rfl ?_
      refine WL.skip rfl (congrArg Value.bool c_7) rfl ?_
      refine WL.skip rfl (congrArg Value.bool c_7) rfl ?_
      refine WL.skip rfl (congrArg Value.bool c_7) rfl ?_
      refine WL.skipU rfl rfl rfl ?_
      refine WL.skip rfl (congrArg Value.bool c_7) rfl ?_
      refine WL.want rfl (congrArg Value.bool c_4) ?_
      refine WL.q (Wn.no rfl) rfl rfl (R.pickF (v := (.bool false)) (congrArg Value.bool c_7) rfl) ?_
      refine WL.q (Wn.no rfl) rfl rfl (R.pickF (v := (.bool false)) (congrArg Value.bool c_4) rfl) ?_
      refine WL.q (Wn.no rfl) rfl rfl (R.assign (v := (.bool false)) rfl) ?_
      refine WL.nil ?_
      refine thn_n ?_
      refine WP.ret ?_
      refine ret_of Try.results71 (RV.tmp (v := (.bool false)) rfl RV.nil) ?_
      exact ⟨congrArg Value.bool (by simp only [aboveF, c_4, c_7]; rfl), h_3.chgS⟩

theorem c_con1 (x p : UInt64) (bc : Nat) (w : World) (hcb : (Ent.blk bc .ro 58 [(1, [(vu64 p)])]).ok w.heap.size w) :
    Cs Try.prog 69 [(vu64 x), (.pointer (some ⟨bc, 0, none⟩))].toArray w (fun v w1 => v = (.bool (fC p x)) ∧ Chg w w1 []) := by
  refine Cs.of (n := 15) (args := [(vu64 x), (.pointer (some ⟨bc, 0, none⟩))]) Try.func69 rfl rfl rfl ?_
  have h_0 := HP.init w
  have h_00 := h_0.old hcb (fun f hf => by cases hf)
  refine WP.seq ?_
  refine WP.reg ?_
  refine WL.q (Wn.no rfl) rfl rfl (R.assign (v := (.bool false)) rfl) ?_
  refine WL.nil ?_
  refine thn_n ?_
  refine WP.seq ?_
  refine WP.reg ?_
  refine WL.q (Wn.no rfl) rfl rfl (R.move (v := (vu64 x)) rfl) ?_
  refine WL.call (al := [(vu64 x)]) Try.call70 rfl rfl (c_cube x _ ) rfl ?_
  rintro _ w_2 ⟨rfl, hc_1⟩
  have h_3 := h_00.same hc_1
  refine WL.q (Wn.no rfl) rfl rfl (R.move (v := (.tuple [(.agg ⟨([cubA x, cubB x] : List UInt64).map vu64⟩), (.bool (cubX x))].toArray)) rfl) ?_
  refine WL.q (Wn.no rfl) rfl rfl (R.extract (l := [(.agg ⟨([cubA x, cubB x] : List UInt64).map vu64⟩), (.bool (cubX x))]) (v := (.agg ⟨([cubA x, cubB x] : List UInt64).map vu64⟩)) rfl rfl) ?_
  refine WL.q (Wn.no rfl) rfl rfl (R.extract (l := [(.agg ⟨([cubA x, cubB x] : List UInt64).map vu64⟩), (.bool (cubX x))]) (v := (.bool (cubX x))) rfl rfl) ?_
  refine WL.alloc (segs := [(2, (List.replicate 2 (0 : UInt64)).map vu64)]) h_3 (zv Try.typeInfo91 rfl) rfl (SsOk.cons (SOk.u64 (List.length_replicate ..)) SsOk.nil) rfl (fun b_4 w_5 h_6 => ?_)
  refine WL.storeA (b := b_4) (off := 0) [] [(2, (List.replicate 2 (0 : UInt64)).map vu64)] [(2, ([cubA x, cubB x] : List UInt64).map vu64)] [] (ys := ([cubA x, cubB x] : List UInt64).map vu64) h_6 rfl rfl Try.sizeOf91 At.h (by decide) rfl rfl rfl rfl rfl rfl (SsOk.cons (SOk.u64 (rfl : List.length ([cubA x, cubB x] : List UInt64) = 2)) SsOk.nil) (fun w_7 h_8 => ?_)
  refine WL.q (Wn.no rfl) rfl rfl (R.assign (v := (.bool (cubX x))) rfl) ?_
  refine WL.nil ?_
  refine thn_n ?_
  refine WP.seq ?_
  refine WP.reg ?_
  refine WL.q (Wn.no rfl) rfl rfl (R.loadA (b := b_4) (off := 0) [] [(2, ([cubA x, cubB x] : List UInt64).map vu64)] [] (cs := ([cubA x, cubB x] : List UInt64).map vu64) rfl Try.isAgg91 Try.sizeOf91 (h_8.ok _ (.head _)) rfl rfl rfl rfl) ?_
  refine WL.q (Wn.no rfl) rfl rfl (R.move (v := (.bool (cubX x))) rfl) ?_
  refine WL.q (Wn.no rfl) rfl rfl (R.load1 (b := bc) (off := 0) (v := (vu64 p)) rfl Try.isAgg58 (h_8.ok _ (.tail _ (.head _))) Sg.h) ?_
  refine WL.call (al := [(.agg ⟨([cubA x, cubB x] : List UInt64).map vu64⟩), (.bool (cubX x)), (vu64 p)]) Try.call71 rfl rfl (c_above (cubA x) (cubB x) (cubX x) p _ ) rfl ?_
  rintro _ w_10 ⟨rfl, hc_9⟩
  have h_11 := h_8.same hc_9
  refine WL.q (Wn.no rfl) rfl rfl (R.assign (v := (.bool (aboveF (cubA x) (cubB x) (cubX x) p))) rfl) ?_
  refine WL.nil ?_
  refine thn_n ?_
  refine WP.ret ?_
  refine ret_of Try.results69 (RV.tmp (v := (.bool (aboveF (cubA x) (cubB x) (cubX x) p))) rfl RV.nil) ?_
  exact ⟨rfl, h_11.chgS⟩

theorem c_sta1 (x p : UInt64) (bc : Nat) (w : World) (hcb : (Ent.blk bc .ro 58 [(1, [(vu64 p)])]).ok w.heap.size w) :
    Cs Try.prog 75 [(vu64 x), (.pointer (some ⟨bc, 0, none⟩))].toArray w (fun v w1 => v = (.bool (fS p x)) ∧ Chg w w1 []) := by
  refine Cs.of (n := 8) (args := [(vu64 x), (.pointer (some ⟨bc, 0, none⟩))]) Try.func75 rfl rfl rfl ?_
  have h_0 := HP.init w
  have h_00 := h_0.old hcb (fun f hf => by cases hf)
  refine WP.seq ?_
  refine WP.reg ?_
  refine WL.q (Wn.no rfl) rfl rfl (R.assign (v := (.bool false)) rfl) ?_
  refine WL.nil ?_
  refine thn_n ?_
  refine WP.seq ?_
  refine WP.drawT (SL w.heap.size [.blk bc .ro 58 [(1, [(vu64 p)])]]) (.q 0 (.q 2 (.s 1 (.s 3 (.q 4 .nil))))) (by kernel_rfl) (by kernel_rfl) rfl (by kernel_rfl) (fun w_1 hc_3 => (SL.cons ((h_00.same hc_3).ok _ (.head _)) (SL.nil _ _))) (fun w_1 hc_3 => ?_)
  have h_2 := h_00.same hc_3
  refine WT.q rfl (Wn.no rfl) rfl rfl (fun wq hS => R.move (v := (vu64 x)) rfl) ?_
  refine WT.q rfl (Wn.no rfl) rfl rfl (fun wq hS => R.load1 (b := bc) (off := 0) (v := (vu64 p)) rfl Try.isAgg58 (hS _ (.head _)) Sg.h) ?_
  refine WT.s ?_
  refine Op1.one rfl (Wn.no rfl) ?_
  refine WL.call (al := [(vu64 x)]) Try.call76 rfl rfl (c_square x _ ) rfl ?_
  rintro _ w_5 ⟨rfl, hc_4⟩
  have h_6 := h_2.same hc_4
  refine WL.nil ?_
  refine ⟨(SL.cons (h_6.ok _ (.head _)) (SL.nil _ _)), ?_⟩
  refine WT.s ?_
  refine Op1.one rfl (Wn.no rfl) ?_
  refine WL.call (al := [(.agg ⟨([mulHi x x, x * x] : List UInt64).map vu64⟩), (.bool false), (vu64 p)]) Try.call71 rfl rfl (c_above (mulHi x x) (x * x) false p _ ) rfl ?_
  rintro _ w_8 ⟨rfl, hc_7⟩
  have h_9 := h_6.same hc_7
  refine WL.nil ?_
  refine ⟨(SL.cons (h_9.ok _ (.head _)) (SL.nil _ _)), ?_⟩
  refine WT.q rfl (Wn.no rfl) rfl rfl (fun wq hS => R.assign (v := (.bool (aboveF (mulHi x x) (x * x) false p))) rfl) ?_
  refine WT.nil ?_
  refine thn_n ?_
  refine WP.ret ?_
  refine ret_of Try.results75 (RV.tmp (v := (.bool (aboveF (mulHi x x) (x * x) false p))) rfl RV.nil) ?_
  exact ⟨rfl, h_9.chgS⟩

theorem c_rootC (p : UInt64) (bc : Nat) (w : World) (hcb : (Ent.blk bc .ro 58 [(1, [(vu64 p)])]).ok w.heap.size w) :
    Cs Try.prog 68 [(Value.func (Fn.func 69) [].toArray [(Value.pointer (some ⟨bc, 0, none⟩))].toArray)].toArray w (fun v w1 => v = (vu32 (rootF (fC p))) ∧ Chg w w1 []) := by
  refine Cs.of (n := 22) (args := [(Value.func (Fn.func 69) [].toArray [(Value.pointer (some ⟨bc, 0, none⟩))].toArray)]) Try.func68 rfl rfl rfl ?_
  have h_0 := HP.init w
  have h_00 := h_0.old hcb (fun f hf => by cases hf)
  refine WP.seq ?_
  refine WP.reg ?_
  refine WL.q (Wn.no rfl) rfl rfl (R.assign (v := (vu32 0)) rfl) ?_
  refine WL.nil ?_
  refine thn_n ?_
  refine WP.seq ?_
  refine WP.reg ?_
  refine WL.q (Wn.no rfl) rfl rfl (R.assign (v := (vu64 0)) rfl) ?_
  refine WL.nil ?_
  refine thn_n ?_
  refine WP.seq ?_
  refine WP.seq ?_
  refine WP.reg ?_
  refine WL.q (Wn.no rfl) rfl rfl (R.move (v := (vi 0)) rfl) ?_
  refine WL.nil ?_
  refine thn_n ?_
  refine WP.block ?_
  refine WP.loopG (G := Nat) [3, 4, 5, 6, 7, 8, 9, 10, 11, 12, 13, 14, 15, 16, 17, 18, 19] (fun b => [(3, (vu64 (rtF (fC p) b))), (6, (vi ((b : Nat) : Int)))]) (fun b m w1 => HP w w1 [.blk bc .ro 58 [(1, [(vu64 p)])]] ∧ (b ≤ 38) ∧ m = 38 - b) ⟨0, _, ⟨rfl, rfl, trivial⟩, h_00, (by omega), rfl⟩ ?_
  rintro b m_3 J_4 w_1 ⟨h_2, hb, rfl⟩
  refine WP.seq ?_
  refine WP.reg ?_
  refine WL.q (Wn.no rfl) rfl rfl (R.bin (v := (.bool (decide ((((b : Nat) : Int) : Int) < 38)))) rfl rfl (bi_lss (r := decide ((((b : Nat) : Int) : Int) < 38)) rfl)) ?_
  refine WL.nil ?_
  refine thn_n ?_
  refine WP.seq ?_
  refine WP.cond (b := decide ((((b : Nat) : Int) : Int) < 38)) rfl (fun c_5 => ?_) (fun c_5 => ?_)
  · have p_6 := of_decide_eq_true c_5
    refine WP.skip ?_
    refine thn_n ?_
    refine WP.seq ?_
    refine WP.block ?_
    refine WP.seq ?_
    refine WP.reg ?_
    refine WL.q (Wn.no rfl) rfl rfl (R.move (v := (vi ((b : Nat) : Int))) rfl) ?_
    refine WL.q (Wn.no rfl) rfl rfl (R.assign (v := (vi ((b : Nat) : Int))) rfl) ?_
    refine WL.nil ?_
    refine thn_n ?_
    refine WP.seq ?_
    refine WP.reg ?_
    refine WL.q (Wn.no rfl) rfl rfl (R.move (v := (vu64 (rtF (fC p) b))) rfl) ?_
    refine WL.q (Wn.no rfl) rfl rfl (R.move (v := (vi ((b : Nat) : Int))) rfl) ?_
    refine WL.q (Wn.no rfl) rfl rfl (R.bin (v := (vi ((37 - b : Nat) : Int))) rfl rfl (bi_sub (c := ((37 - b : Nat) : Int)) (by omega) (by omega))) ?_
    refine WL.q (Wn.no rfl) rfl rfl (R.binR (v := vu64 (shl64 1 (37 - b))) rfl rfl (run_shl64 _ _ _ 1 _ (37 - b))) ?_
    refine WL.q (Wn.no rfl) rfl rfl (R.bin (v := (vu64 ((rtF (fC p) b) ||| (shl64 1 (37 - b))))) rfl rfl (b64_or (rtF (fC p) b) (shl64 1 (37 - b)))) ?_
    refine WL.q (Wn.no rfl) rfl rfl (R.assign (v := (vu64 ((rtF (fC p) b) ||| (shl64 1 (37 - b))))) rfl) ?_
    refine WL.nil ?_
    refine thn_n ?_
    refine WP.seq ?_
    refine WP.reg ?_
    refine WL.q (Wn.no rfl) rfl rfl (R.move (v := (Value.func (Fn.func 69) [].toArray [(Value.pointer (some ⟨bc, 0, none⟩))].toArray)) rfl) ?_
    refine WL.q (Wn.no rfl) rfl rfl (R.move (v := (vu64 ((rtF (fC p) b) ||| (shl64 1 (37 - b))))) rfl) ?_
    refine WL.call (al := [(vu64 ((rtF (fC p) b) ||| (shl64 1 (37 - b)))), (.pointer (some ⟨bc, 0, none⟩))]) Try.call69 rfl rfl (c_con1 ((rtF (fC p) b) ||| (shl64 1 (37 - b))) p bc _ (h_2.argR (.head _))) rfl ?_
    rintro _ w_8 ⟨rfl, hc_7⟩
    have h_9 := h_2.same hc_7
    refine WL.q (Wn.no rfl) rfl rfl (R.not (b := fC p ((rtF (fC p) b) ||| (shl64 1 (37 - b)))) rfl) ?_
    refine WL.nil ?_
    refine thn_n ?_
    refine WP.cond (b := !(fC p ((rtF (fC p) b) ||| (shl64 1 (37 - b))))) rfl (fun c_10 => ?_) (fun c_10 => ?_)
    · refine WP.reg ?_
      refine WL.q (Wn.no rfl) rfl rfl (R.move (v := (vu64 ((rtF (fC p) b) ||| (shl64 1 (37 - b))))) rfl) ?_
      refine WL.q (Wn.no rfl) rfl rfl (R.assign (v := (vu64 ((rtF (fC p) b) ||| (shl64 1 (37 - b))))) rfl) ?_
      refine WL.nil ?_
      refine inb_n ?_
      refine thn_n ?_
      refine WP.reg ?_
      refine WL.q (Wn.no rfl) rfl rfl (R.bin (v := (vi ((b + 1 : Nat) : Int))) rfl rfl (bi_add (c := ((b + 1 : Nat) : Int)) (by omega) (by omega))) ?_
      refine WL.q (Wn.no rfl) rfl rfl (R.move (v := (vi ((b + 1 : Nat) : Int))) rfl) ?_
      refine WL.nil ?_
      refine thn_n ?_
      exact ⟨b + 1, _, (by omega), (Ag.upd rfl (Ag.upd rfl (Ag.upd rfl (Ag.upd rfl (Ag.upd rfl (Ag.upd rfl (Ag.upd rfl (Ag.upd rfl (Ag.upd rfl (Ag.upd rfl (Ag.upd rfl (Ag.upd rfl (Ag.upd rfl (Ag.upd rfl (Ag.upd rfl (Ag.upd rfl (Ag.upd rfl (Ag.updL rfl (Ag.mix _ _ _))))))))))))))))))), ⟨congrArg (fun x : UInt64 => vu64 x) (rt_no (by simpa using c_10)), rfl, trivial⟩, h_9, (by omega), rfl⟩
    · refine WP.skip ?_
      refine inb_n ?_
      refine thn_n ?_
      refine WP.reg ?_
      refine WL.q (Wn.no rfl) rfl rfl (R.bin (v := (vi ((b + 1 : Nat) : Int))) rfl rfl (bi_add (c := ((b + 1 : Nat) : Int)) (by omega) (by omega))) ?_
      refine WL.q (Wn.no rfl) rfl rfl (R.move (v := (vi ((b + 1 : Nat) : Int))) rfl) ?_
      refine WL.nil ?_
      refine thn_n ?_
      exact ⟨b + 1, _, (by omega), (Ag.upd rfl (Ag.upd rfl (Ag.upd rfl (Ag.upd rfl (Ag.upd rfl (Ag.upd rfl (Ag.upd rfl (Ag.upd rfl (Ag.upd rfl (Ag.upd rfl (Ag.upd rfl (Ag.upd rfl (Ag.upd rfl (Ag.upd rfl (Ag.upd rfl (Ag.updL rfl (Ag.mix _ _ _))))))))))))))))), ⟨congrArg (fun x : UInt64 => vu64 x) (rt_yes (by simpa using c_10)), rfl, trivial⟩, h_9, (by omega), rfl⟩
  · have p_11 := of_decide_eq_false c_5
    refine WP.exit ?_
    refine thn_x ?_
    refine thn_x ?_
    refine inb_hit ?_
    refine thn_n ?_
    refine WP.seq ?_
    refine WP.reg ?_
    refine WL.q (Wn.no rfl) rfl rfl (R.move (v := (vu64 (rtF (fC p) b))) rfl) ?_
    refine WL.q (Wn.no rfl) rfl rfl (R.conv (b := ((UInt32.ofNat ((rtF (fC p) b).toNat)) : UInt32).toNat) rfl Try.underlying58 Try.underlying22 (w32_nat ((rtF (fC p) b).toNat))) ?_
    refine WL.q (Wn.no rfl) rfl rfl (R.assign (v := (vu32 (UInt32.ofNat ((rtF (fC p) b).toNat)))) rfl) ?_
    refine WL.nil ?_
    refine thn_n ?_
    refine WP.ret ?_
    refine ret_of Try.results68 (RV.tmp (v := (vu32 (UInt32.ofNat ((rtF (fC p) b).toNat)))) rfl RV.nil) ?_
    have hb38 : b = 38 := by omega
    subst hb38
    exact ⟨rfl, h_2.chgS⟩

theorem c_rootS (p : UInt64) (bc : Nat) (w : World) (hcb : (Ent.blk bc .ro 58 [(1, [(vu64 p)])]).ok w.heap.size w) :
    Cs Try.prog 68 [(Value.func (Fn.func 75) [].toArray [(Value.pointer (some ⟨bc, 0, none⟩))].toArray)].toArray w (fun v w1 => v = (vu32 (rootF (fS p))) ∧ Chg w w1 []) := by
  refine Cs.of (n := 22) (args := [(Value.func (Fn.func 75) [].toArray [(Value.pointer (some ⟨bc, 0, none⟩))].toArray)]) Try.func68 rfl rfl rfl ?_
  have h_0 := HP.init w
  have h_00 := h_0.old hcb (fun f hf => by cases hf)
  refine WP.seq ?_
  refine WP.reg ?_
  refine WL.q (Wn.no rfl) rfl rfl (R.assign (v := (vu32 0)) rfl) ?_
  refine WL.nil ?_
  refine thn_n ?_
  refine WP.seq ?_
  refine WP.reg ?_
  refine WL.q (Wn.no rfl) rfl rfl (R.assign (v := (vu64 0)) rfl) ?_
  refine WL.nil ?_
  refine thn_n ?_
  refine WP.seq ?_
  refine WP.seq ?_
  refine WP.reg ?_
  refine WL.q (Wn.no rfl) rfl rfl (R.move (v := (vi 0)) rfl) ?_
  refine WL.nil ?_
  refine thn_n ?_
  refine WP.block ?_
  refine WP.loopG (G := Nat) [3, 4, 5, 6, 7, 8, 9, 10, 11, 12, 13, 14, 15, 16, 17, 18, 19] (fun b => [(3, (vu64 (rtF (fS p) b))), (6, (vi ((b : Nat) : Int)))]) (fun b m w1 => HP w w1 [.blk bc .ro 58 [(1, [(vu64 p)])]] ∧ (b ≤ 38) ∧ m = 38 - b) ⟨0, _, ⟨rfl, rfl, trivial⟩, h_00, (by omega), rfl⟩ ?_
  rintro b m_3 J_4 w_1 ⟨h_2, hb, rfl⟩
  refine WP.seq ?_
  refine WP.reg ?_
  refine WL.q (Wn.no rfl) rfl rfl (R.bin (v := (.bool (decide ((((b : Nat) : Int) : Int) < 38)))) rfl rfl (bi_lss (r := decide ((((b : Nat) : Int) : Int) < 38)) rfl)) ?_
  refine WL.nil ?_
  refine thn_n ?_
  refine WP.seq ?_
  refine WP.cond (b := decide ((((b : Nat) : Int) : Int) < 38)) rfl (fun c_5 => ?_) (fun c_5 => ?_)
  · have p_6 := of_decide_eq_true c_5
    refine WP.skip ?_
    refine thn_n ?_
    refine WP.seq ?_
    refine WP.block ?_
    refine WP.seq ?_
    refine WP.reg ?_
    refine WL.q (Wn.no rfl) rfl rfl (R.move (v := (vi ((b : Nat) : Int))) rfl) ?_
    refine WL.q (Wn.no rfl) rfl rfl (R.assign (v := (vi ((b : Nat) : Int))) rfl) ?_
    refine WL.nil ?_
    refine thn_n ?_
    refine WP.seq ?_
    refine WP.reg ?_
    refine WL.q (Wn.no rfl) rfl rfl (R.move (v := (vu64 (rtF (fS p) b))) rfl) ?_
    refine WL.q (Wn.no rfl) rfl rfl (R.move (v := (vi ((b : Nat) : Int))) rfl) ?_
    refine WL.q (Wn.no rfl) rfl rfl (R.bin (v := (vi ((37 - b : Nat) : Int))) rfl rfl (bi_sub (c := ((37 - b : Nat) : Int)) (by omega) (by omega))) ?_
    refine WL.q (Wn.no rfl) rfl rfl (R.binR (v := vu64 (shl64 1 (37 - b))) rfl rfl (run_shl64 _ _ _ 1 _ (37 - b))) ?_
    refine WL.q (Wn.no rfl) rfl rfl (R.bin (v := (vu64 ((rtF (fS p) b) ||| (shl64 1 (37 - b))))) rfl rfl (b64_or (rtF (fS p) b) (shl64 1 (37 - b)))) ?_
    refine WL.q (Wn.no rfl) rfl rfl (R.assign (v := (vu64 ((rtF (fS p) b) ||| (shl64 1 (37 - b))))) rfl) ?_
    refine WL.nil ?_
    refine thn_n ?_
    refine WP.seq ?_
    refine WP.reg ?_
    refine WL.q (Wn.no rfl) rfl rfl (R.move (v := (Value.func (Fn.func 75) [].toArray [(Value.pointer (some ⟨bc, 0, none⟩))].toArray)) rfl) ?_
    refine WL.q (Wn.no rfl) rfl rfl (R.move (v := (vu64 ((rtF (fS p) b) ||| (shl64 1 (37 - b))))) rfl) ?_
    refine WL.call (al := [(vu64 ((rtF (fS p) b) ||| (shl64 1 (37 - b)))), (.pointer (some ⟨bc, 0, none⟩))]) Try.call75 rfl rfl (c_sta1 ((rtF (fS p) b) ||| (shl64 1 (37 - b))) p bc _ (h_2.argR (.head _))) rfl ?_
    rintro _ w_8 ⟨rfl, hc_7⟩
    have h_9 := h_2.same hc_7
    refine WL.q (Wn.no rfl) rfl rfl (R.not (b := fS p ((rtF (fS p) b) ||| (shl64 1 (37 - b)))) rfl) ?_
    refine WL.nil ?_
    refine thn_n ?_
    refine WP.cond (b := !(fS p ((rtF (fS p) b) ||| (shl64 1 (37 - b))))) rfl (fun c_10 => ?_) (fun c_10 => ?_)
    · refine WP.reg ?_
      refine WL.q (Wn.no rfl) rfl rfl (R.move (v := (vu64 ((rtF (fS p) b) ||| (shl64 1 (37 - b))))) rfl) ?_
      refine WL.q (Wn.no rfl) rfl rfl (R.assign (v := (vu64 ((rtF (fS p) b) ||| (shl64 1 (37 - b))))) rfl) ?_
      refine WL.nil ?_
      refine inb_n ?_
      refine thn_n ?_
      refine WP.reg ?_
      refine WL.q (Wn.no rfl) rfl rfl (R.bin (v := (vi ((b + 1 : Nat) : Int))) rfl rfl (bi_add (c := ((b + 1 : Nat) : Int)) (by omega) (by omega))) ?_
      refine WL.q (Wn.no rfl) rfl rfl (R.move (v := (vi ((b + 1 : Nat) : Int))) rfl) ?_
      refine WL.nil ?_
      refine thn_n ?_
      exact ⟨b + 1, _, (by omega), (Ag.upd rfl (Ag.upd rfl (Ag.upd rfl (Ag.upd rfl (Ag.upd rfl (Ag.upd rfl (Ag.upd rfl (Ag.upd rfl (Ag.upd rfl (Ag.upd rfl (Ag.upd rfl (Ag.upd rfl (Ag.upd rfl (Ag.upd rfl (Ag.upd rfl (Ag.upd rfl (Ag.upd rfl (Ag.updL rfl (Ag.mix _ _ _))))))))))))))))))), ⟨congrArg (fun x : UInt64 => vu64 x) (rt_no (by simpa using c_10)), rfl, trivial⟩, h_9, (by omega), rfl⟩
    · refine WP.skip ?_
      refine inb_n ?_
      refine thn_n ?_
      refine WP.reg ?_
      refine WL.q (Wn.no rfl) rfl rfl (R.bin (v := (vi ((b + 1 : Nat) : Int))) rfl rfl (bi_add (c := ((b + 1 : Nat) : Int)) (by omega) (by omega))) ?_
      refine WL.q (Wn.no rfl) rfl rfl (R.move (v := (vi ((b + 1 : Nat) : Int))) rfl) ?_
      refine WL.nil ?_
      refine thn_n ?_
      exact ⟨b + 1, _, (by omega), (Ag.upd rfl (Ag.upd rfl (Ag.upd rfl (Ag.upd rfl (Ag.upd rfl (Ag.upd rfl (Ag.upd rfl (Ag.upd rfl (Ag.upd rfl (Ag.upd rfl (Ag.upd rfl (Ag.upd rfl (Ag.upd rfl (Ag.upd rfl (Ag.upd rfl (Ag.updL rfl (Ag.mix _ _ _))))))))))))))))), ⟨congrArg (fun x : UInt64 => vu64 x) (rt_yes (by simpa using c_10)), rfl, trivial⟩, h_9, (by omega), rfl⟩
  · have p_11 := of_decide_eq_false c_5
    refine WP.exit ?_
    refine thn_x ?_
    refine thn_x ?_
    refine inb_hit ?_
    refine thn_n ?_
    refine WP.seq ?_
    refine WP.reg ?_
    refine WL.q (Wn.no rfl) rfl rfl (R.move (v := (vu64 (rtF (fS p) b))) rfl) ?_
    refine WL.q (Wn.no rfl) rfl rfl (R.conv (b := ((UInt32.ofNat ((rtF (fS p) b).toNat)) : UInt32).toNat) rfl Try.underlying58 Try.underlying22 (w32_nat ((rtF (fS p) b).toNat))) ?_
    refine WL.q (Wn.no rfl) rfl rfl (R.assign (v := (vu32 (UInt32.ofNat ((rtF (fS p) b).toNat)))) rfl) ?_
    refine WL.nil ?_
    refine thn_n ?_
    refine WP.ret ?_
    refine ret_of Try.results68 (RV.tmp (v := (vu32 (UInt32.ofNat ((rtF (fS p) b).toNat)))) rfl RV.nil) ?_
    have hb38 : b = 38 := by omega
    subst hb38
    exact ⟨rfl, h_2.chgS⟩

theorem c_constant (p : UInt64) (w : World) :
    Cs Try.prog 47 [(vu64 p)].toArray w (fun v w1 => v = (vu32 (rootF (fC p))) ∧ Chg w w1 []) := by
  refine Cs.of (n := 5) (args := [(vu64 p)]) Try.func47 rfl rfl rfl ?_
  have h_0 := HP.init w
  refine WP.seq ?_
  refine WP.reg ?_
  refine WL.box (v := (vu64 p)) (segs := [(1, [(vu64 p)])]) h_0 rfl rfl (SsOk.cons (SOk.v rfl) SsOk.nil) rfl (fun b_1 w_2 h_3 => ?_)
  refine WL.q (Wn.no rfl) rfl rfl (R.assign (v := (vu32 0)) rfl) ?_
  refine WL.nil ?_
  refine thn_n ?_
  refine WP.seq ?_
  refine WP.reg ?_
  refine WL.q (Wn.no rfl) rfl rfl (R.makeFuncL (fi := []) (ca := [(.pointer (some ⟨b_1, 0, none⟩))]) rfl rfl) ?_
  refine WL.call (al := [(Value.func (Fn.func 69) [].toArray [(Value.pointer (some ⟨b_1, 0, none⟩))].toArray)]) Try.call68 rfl rfl (c_rootC p b_1 _ (h_3.argR (.head _))) rfl ?_
  rintro _ w_5 ⟨rfl, hc_4⟩
  have h_6 := h_3.same hc_4
  refine WL.q (Wn.no rfl) rfl rfl (R.assign (v := (vu32 (rootF (fC p)))) rfl) ?_
  refine WL.nil ?_
  refine thn_n ?_
  refine WP.ret ?_
  refine ret_of Try.results47 (RV.tmp (v := (vu32 (rootF (fC p)))) rfl RV.nil) ?_
  exact ⟨rfl, h_6.chgS⟩

theorem c_start (p : UInt64) (w : World) :
    Cs Try.prog 51 [(vu64 p)].toArray w (fun v w1 => v = (vu32 (rootF (fS p))) ∧ Chg w w1 []) := by
  refine Cs.of (n := 5) (args := [(vu64 p)]) Try.func51 rfl rfl rfl ?_
  have h_0 := HP.init w
  refine WP.seq ?_
  refine WP.reg ?_
  refine WL.box (v := (vu64 p)) (segs := [(1, [(vu64 p)])]) h_0 rfl rfl (SsOk.cons (SOk.v rfl) SsOk.nil) rfl (fun b_1 w_2 h_3 => ?_)
  refine WL.q (Wn.no rfl) rfl rfl (R.assign (v := (vu32 0)) rfl) ?_
  refine WL.nil ?_
  refine thn_n ?_
  refine WP.seq ?_
  refine WP.reg ?_
  refine WL.q (Wn.no rfl) rfl rfl (R.makeFuncL (fi := []) (ca := [(.pointer (some ⟨b_1, 0, none⟩))]) rfl rfl) ?_
  refine WL.call (al := [(Value.func (Fn.func 75) [].toArray [(Value.pointer (some ⟨b_1, 0, none⟩))].toArray)]) Try.call68 rfl rfl (c_rootS p b_1 _ (h_3.argR (.head _))) rfl ?_
  rintro _ w_5 ⟨rfl, hc_4⟩
  have h_6 := h_3.same hc_4
  refine WL.q (Wn.no rfl) rfl rfl (R.assign (v := (vu32 (rootF (fS p)))) rfl) ?_
  refine WL.nil ?_
  refine thn_n ?_
  refine WP.ret ?_
  refine ret_of Try.results51 (RV.tmp (v := (vu32 (rootF (fS p)))) rfl RV.nil) ?_
  exact ⟨rfl, h_6.chgS⟩

theorem c_prm1 (p x : UInt64) (bc : Nat) (hp : p ≠ 0) (w : World) (hcb : (Ent.blk bc .ro 58 [(1, [(vu64 x)])]).ok w.heap.size w) :
    Cs Try.prog 73 [(vu64 p), (.pointer (some ⟨bc, 0, none⟩))].toArray w (fun v w1 => v = (.bool (dvd x p)) ∧ Chg w w1 []) := by
  refine Cs.of (n := 8) (args := [(vu64 p), (.pointer (some ⟨bc, 0, none⟩))]) Try.func73 rfl rfl rfl ?_
  have h_0 := HP.init w
  have h_00 := h_0.old hcb (fun f hf => by cases hf)
  refine WP.seq ?_
  refine WP.reg ?_
  refine WL.q (Wn.no rfl) rfl rfl (R.assign (v := (.bool false)) rfl) ?_
  refine WL.nil ?_
  refine thn_n ?_
  refine WP.seq ?_
  refine WP.reg ?_
  refine WL.q (Wn.no rfl) rfl rfl (R.load1 (b := bc) (off := 0) (v := (vu64 x)) rfl Try.isAgg58 (h_00.ok _ (.head _)) Sg.h) ?_
  refine WL.q (Wn.no rfl) rfl rfl (R.move (v := (vu64 p)) rfl) ?_
  refine WL.q (Wn.no rfl) rfl rfl (R.bin (v := (vu64 (x % p))) rfl rfl (b64_rem x p hp)) ?_
  refine WL.q (Wn.no rfl) rfl rfl (R.bin (v := (.bool (decide ((x % p : UInt64) = 0)))) rfl rfl (b64_eql (x % p) 0 (r := decide ((x % p : UInt64) = 0)) rfl)) ?_
  refine WL.q (Wn.no rfl) rfl rfl (R.assign (v := (.bool (decide ((x % p : UInt64) = 0)))) rfl) ?_
  refine WL.nil ?_
  refine thn_n ?_
  refine WP.ret ?_
  refine ret_of Try.results73 (RV.tmp (v := (.bool (decide ((x % p : UInt64) = 0)))) rfl RV.nil) ?_
  exact ⟨rfl, h_00.chgS⟩

theorem c_IxP (a : Option Addr) (n cap : Nat) (zs : List UInt64) (hl : zs.length = n) (x : UInt64) (bc : Nat) (hz : ∀ i, i < n → zs.getD i 0 ≠ 0) (hnb : n ≤ 1099511627776) (w : World) (hv : View w a (zs.map vu64)) (hcb : (Ent.blk bc .ro 58 [(1, [vu64 x])]).ok w.heap.size w) :
    Cs Try.prog 86 [(.slice a n cap), (Value.func (Fn.func 73) [].toArray [(Value.pointer (some ⟨bc, 0, none⟩))].toArray)].toArray w (fun v w1 => ∃ r : Int, v = vi r ∧ Chg w w1 [] ∧ decide (r ≥ 0) = zs.any (dvd x) ∧ (-1 ≤ r ∧ r ≤ 1099511627776)) := by
  refine Cs.of (n := 19) (args := [(.slice a n cap), (Value.func (Fn.func 73) [].toArray [(Value.pointer (some ⟨bc, 0, none⟩))].toArray)]) Try.func86 rfl rfl rfl ?_
  have h_0 := HP.init w
  have h_01 := h_0.oldV (View.arg hv) rfl (by simp [Ent.mut])
  have h_00 := h_01.oldV hcb rfl (by simp [Ent.mut])
  refine WP.seq ?_
  refine WP.reg ?_
  refine WL.q (Wn.no rfl) rfl rfl (R.assign (v := (vi 0)) rfl) ?_
  refine WL.nil ?_
  refine thn_n ?_
  refine WP.seq ?_
  refine WP.seq ?_
  refine WP.reg ?_
  refine WL.q (Wn.no rfl) rfl rfl (R.move (v := (.slice a n cap)) rfl) ?_
  refine WL.q (Wn.no rfl) rfl rfl (R.lenS (a := a) (m := n) rfl rfl Try.underlying72) ?_
  refine WL.q (Wn.no rfl) rfl rfl (R.move (v := (vi 0)) rfl) ?_
  refine WL.nil ?_
  refine thn_n ?_
  refine WP.block ?_
  refine WP.loopG (G := Nat) [4, 5, 8, 9, 10, 11, 12, 13, 14, 15, 16, 17, 18] (fun k => [(8, (vi ((k : Nat) : Int)))]) (fun k m w1 => HP w w1 [.blk bc .ro 58 [(1, [(vu64 x)])], .view a (zs.map vu64)] ∧ (k ≤ n) ∧ (∀ j : Nat, j < k → dvd x (zs.getD j 0) = false) ∧ m = n - k) ⟨0, _, ⟨rfl, trivial⟩, h_00, (by omega), (fun j h => by omega), rfl⟩ ?_
  rintro k m_3 J_4 w_1 ⟨h_2, hk, hg, rfl⟩
  refine WP.seq ?_
  refine WP.reg ?_
  refine WL.q (Wn.no rfl) rfl rfl (R.bin (v := (.bool (decide ((((k : Nat) : Int) : Int) < ((n : Nat) : Int))))) rfl rfl (bi_lss (r := decide ((((k : Nat) : Int) : Int) < ((n : Nat) : Int))) rfl)) ?_
  refine WL.nil ?_
  refine thn_n ?_
  refine WP.seq ?_
  refine WP.cond (b := decide ((((k : Nat) : Int) : Int) < ((n : Nat) : Int))) rfl (fun c_5 => ?_) (fun c_5 => ?_)
  · have p_6 := of_decide_eq_true c_5
    refine WP.skip ?_
    refine thn_n ?_
    refine WP.seq ?_
    refine WP.block ?_
    refine WP.seq ?_
    refine WP.reg ?_
    refine WL.q (Wn.no rfl) rfl rfl (R.move (v := (vi ((k : Nat) : Int))) rfl) ?_
    refine WL.q (Wn.no rfl) rfl rfl (R.assign (v := (vi ((k : Nat) : Int))) rfl) ?_
    refine WL.nil ?_
    refine thn_n ?_
    refine WP.seq ?_
    refine WP.reg ?_
    refine WL.q (Wn.no rfl) rfl rfl (R.move (v := (Value.func (Fn.func 73) [].toArray [(Value.pointer (some ⟨bc, 0, none⟩))].toArray)) rfl) ?_
    refine WL.q (Wn.no rfl) rfl rfl (R.move (v := (.slice a n cap)) rfl) ?_
    refine WL.q (Wn.no rfl) rfl rfl (R.move (v := (vi ((k : Nat) : Int))) rfl) ?_
    refine WL.q (Wn.no rfl) rfl rfl (R.indexS (a := a) (i := k) (off := k) (xs := zs.map vu64) rfl rfl rfl (by omega) (viewV (h_2.ok _ (.tail _ (.head _)))) (lt_len (K := n) (len_map hl) (by omega)) Try.underlying72 Try.sizeOf58 (Nat.mul_one _).symm) ?_
    refine WL.q (Wn.no rfl) rfl rfl (R.loadG (a := a) (i := k) (xs := zs.map vu64) (v := (vu64 (zs.getD k 0))) rfl (viewV (h_2.ok _ (.tail _ (.head _)))) Try.isAgg58 (get_u64 (lt_len (K := n) hl (by omega)))) ?_
    refine WL.call (al := [(vu64 (zs.getD k 0)), (.pointer (some ⟨bc, 0, none⟩))]) Try.call73 rfl rfl (c_prm1 (zs.getD k 0) x bc (hz _ (by omega)) _ (h_2.argR (.head _))) rfl ?_
    rintro _ w_8 ⟨rfl, hc_7⟩
    have h_9 := h_2.same hc_7
    refine WL.nil ?_
    refine thn_n ?_
    refine WP.cond (b := dvd x (zs.getD k 0)) rfl (fun c_10 => ?_) (fun c_10 => ?_)
    · refine WP.seq ?_
      refine WP.reg ?_
      refine WL.q (Wn.no rfl) rfl rfl (R.move (v := (vi ((k : Nat) : Int))) rfl) ?_
      refine WL.q (Wn.no rfl) rfl rfl (R.assign (v := (vi ((k : Nat) : Int))) rfl) ?_
      refine WL.nil ?_
      refine thn_n ?_
      refine WP.ret ?_
      refine inb_r ?_
      refine thn_r ?_
      refine thn_r ?_
      refine inb_r ?_
      refine thn_r ?_
      refine ret_of Try.results86 (RV.tmp (v := (vi ((k : Nat) : Int))) rfl RV.nil) ?_
      exact ⟨(k : Int), rfl, h_9.chgS, (by rw [any_t (k := k) (by omega) c_10]; exact decide_eq_true (by omega)), by omega⟩
    · refine WP.skip ?_
      refine inb_n ?_
      refine thn_n ?_
      refine WP.reg ?_
      refine WL.q (Wn.no rfl) rfl rfl (R.bin (v := (vi ((k + 1 : Nat) : Int))) rfl rfl (bi_add (c := ((k + 1 : Nat) : Int)) (by omega) (by omega))) ?_
      refine WL.q (Wn.no rfl) rfl rfl (R.move (v := (vi ((k + 1 : Nat) : Int))) rfl) ?_
      refine WL.nil ?_
      refine thn_n ?_
      refine ⟨k + 1, _, (by omega), (Ag.upd rfl (Ag.upd rfl (Ag.upd rfl (Ag.upd rfl (Ag.upd rfl (Ag.upd rfl (Ag.upd rfl (Ag.upd rfl (Ag.upd rfl (Ag.upd rfl (Ag.upd rfl (Ag.updL rfl (Ag.mix _ _ _))))))))))))), ⟨rfl, trivial⟩, h_9, (by omega), (fun j hj => ?_), rfl⟩
      rcases Nat.lt_or_eq_of_le (Nat.le_of_lt_succ hj) with hj | rfl
      · exact hg j hj
      · exact c_10
  · have p_11 := of_decide_eq_false c_5
    refine WP.exit ?_
    refine thn_x ?_
    refine thn_x ?_
    refine inb_hit ?_
    refine thn_n ?_
    refine WP.seq ?_
    refine WP.reg ?_
    refine WL.q (Wn.no rfl) rfl rfl (R.assign (v := (vi (-1))) rfl) ?_
    refine WL.nil ?_
    refine thn_n ?_
    refine WP.ret ?_
    refine ret_of Try.results86 (RV.tmp (v := (vi (-1))) rfl RV.nil) ?_
    exact ⟨-1, rfl, h_2.chgS, (by rw [any_f fun j hj => hg j (by omega)]; rfl), by omega⟩

theorem c_CfP (a : Option Addr) (n cap : Nat) (zs : List UInt64) (hl : zs.length = n) (x : UInt64) (bc : Nat) (hz : ∀ i, i < n → zs.getD i 0 ≠ 0) (hnb : n ≤ 1099511627776) (w : World) (hv : View w a (zs.map vu64)) (hcb : (Ent.blk bc .ro 58 [(1, [vu64 x])]).ok w.heap.size w) :
    Cs Try.prog 72 [(.slice a n cap), (Value.func (Fn.func 73) [].toArray [(Value.pointer (some ⟨bc, 0, none⟩))].toArray)].toArray w (fun v w1 => v = (.bool (zs.any (dvd x))) ∧ Chg w w1 []) := by
  refine Cs.of (n := 9) (args := [(.slice a n cap), (Value.func (Fn.func 73) [].toArray [(Value.pointer (some ⟨bc, 0, none⟩))].toArray)]) Try.func72 rfl rfl rfl ?_
  have h_0 := HP.init w
  have h_01 := h_0.oldV (View.arg hv) rfl (by simp [Ent.mut])
  have h_00 := h_01.oldV hcb rfl (by simp [Ent.mut])
  refine WP.seq ?_
  refine WP.reg ?_
  refine WL.q (Wn.no rfl) rfl rfl (R.assign (v := (.bool false)) rfl) ?_
  refine WL.nil ?_
  refine thn_n ?_
  refine WP.seq ?_
  refine WP.reg ?_
  refine WL.q (Wn.no rfl) rfl rfl (R.move (v := (.slice a n cap)) rfl) ?_
  refine WL.q (Wn.no rfl) rfl rfl (R.move (v := (Value.func (Fn.func 73) [].toArray [(Value.pointer (some ⟨bc, 0, none⟩))].toArray)) rfl) ?_
  refine WL.call (al := [(.slice a n cap), (Value.func (Fn.func 73) [].toArray [(Value.pointer (some ⟨bc, 0, none⟩))].toArray)]) Try.call86 rfl rfl (c_IxP a n cap zs hl x bc hz (by omega) _ (viewV (h_00.ok _ (.tail _ (.head _)))) (h_00.argR (.head _))) rfl ?_
  rintro _ w_2 ⟨r_1, rfl, hc_3, he_4, hr_5⟩
  have h_6 := h_00.same hc_3
  refine WL.q (Wn.no rfl) rfl rfl (R.bin (v := (.bool (decide ((r_1 : Int) ≥ 0)))) rfl rfl (bi_geq (r := decide ((r_1 : Int) ≥ 0)) rfl)) ?_
  refine WL.q (Wn.no rfl) rfl rfl (R.assign (v := (.bool (decide ((r_1 : Int) ≥ 0)))) rfl) ?_
  refine WL.nil ?_
  refine thn_n ?_
  refine WP.ret ?_
  refine ret_of Try.results72 (RV.tmp (v := (.bool (decide ((r_1 : Int) ≥ 0)))) rfl RV.nil) ?_
  exact ⟨congrArg Value.bool he_4, h_6.chgS⟩

theorem u64_succ (n : Nat) : UInt64.ofNat n + 1 = UInt64.ofNat (n + 1) := by simp [UInt64.ofNat_add]

theorem c_primes  (w : World) :
    Cs Try.prog 48 [].toArray w (fun v w1 => ∃ a cap, v = .slice a 64 cap ∧ Chg w w1 [] ∧ Own w.heap.size w1 58 1 a 64 cap ((primeL).map vu64)) := by
  refine Cs.of (n := 18) (args := []) Try.func48 rfl rfl rfl ?_
  have h_0 := HP.init w
  refine WP.seq ?_
  refine WP.reg ?_
  refine WL.q (Wn.no rfl) rfl rfl (R.assign (v := (.slice none 0 0)) rfl) ?_
  refine WL.nil ?_
  refine thn_n ?_
  refine WP.seq ?_
  refine WP.reg ?_
  refine WL.q (Wn.no rfl) rfl rfl (R.assign (v := (.slice none 0 0)) rfl) ?_
  refine WL.nil ?_
  refine thn_n ?_
  refine WP.seq ?_
  refine WP.seq ?_
  refine WP.reg ?_
  refine WL.alloc (segs := [(1, [(vu64 0)])]) h_0 (zv Try.typeInfo58 rfl) rfl (SsOk.cons (SOk.v rfl) SsOk.nil) rfl (fun b_1 w_2 h_3 => ?_)
  refine WL.store1 (b := b_1) (off := 0) (v := (vu64 2)) h_3 rfl rfl Try.sizeOf58 rfl At.h (by decide) Sg.h (fun w_4 h_5 => ?_)
  refine WL.nil ?_
  refine thn_n ?_
  refine WP.block ?_
  have h_6 := h_5.rowNil 58 1
  have h_7 := h_6.up (Pick.t Pick.h)
  have h_8 := h_7.up (Pick.t Pick.h)
  refine WP.loopG (G := Nat × Option Addr × Nat × Nat) [1, 2, 3, 4, 5, 6, 7, 8, 9, 10, 11, 12, 13, 14, 15, 16] (fun (q, ra, rc, bn) => [(1, (.slice ra ((prm q).length) rc)), (2, (.pointer (some ⟨bn, 0, none⟩)))]) (fun (q, ra, rc, bn) m w1 => HP w w1 [.row ra ((prm q).length) rc 58 1 ((prm q).map vu64), .blk bn .nw 58 [(1, [(vu64 (UInt64.ofNat (q + 2)))])]] ∧ (q ≤ 310) ∧ m = 311 - q) ⟨(0, none, 0, b_1), _, ⟨rfl, rfl, trivial⟩, h_8, (by omega), rfl⟩ ?_
  rintro ⟨q, ra, rc, bn⟩ m_11 J_12 w_9 ⟨h_10, hm, rfl⟩
  have hst := prm_step q
  refine WP.seq ?_
  refine WP.seq ?_
  refine WP.reg ?_
  refine WL.q (Wn.no rfl) rfl rfl (R.move (v := (.slice ra ((prm q).length) rc)) rfl) ?_
  refine WL.q (Wn.no rfl) rfl rfl (R.lenS (a := ra) (m := (prm q).length) rfl rfl Try.underlying72) ?_
  refine WL.q (Wn.no rfl) rfl rfl (R.bin (v := (.bool (decide (((((prm q).length : Nat) : Int) : Int) < 64)))) rfl rfl (bi_lss (r := decide (((((prm q).length : Nat) : Int) : Int) < 64)) rfl)) ?_
  refine WL.nil ?_
  refine thn_n ?_
  refine WP.cond (b := decide (((((prm q).length : Nat) : Int) : Int) < 64)) rfl (fun c_13 => ?_) (fun c_13 => ?_)
  · have p_14 := of_decide_eq_true c_13
    refine WP.skip ?_
    refine thn_n ?_
    refine WP.seq ?_
    refine WP.block ?_
    refine WP.seq ?_
    refine WP.reg ?_
    refine WL.q (Wn.no rfl) rfl rfl (R.move (v := (.slice ra ((prm q).length) rc)) rfl) ?_
    refine WL.q (Wn.no rfl) rfl rfl (R.makeFuncL (fi := []) (ca := [(.pointer (some ⟨bn, 0, none⟩))]) rfl rfl) ?_
    refine WL.call (al := [(.slice ra ((prm q).length) rc), (Value.func (Fn.func 73) [].toArray [(Value.pointer (some ⟨bn, 0, none⟩))].toArray)]) Try.call72 rfl rfl (c_CfP ra ((prm q).length) rc (prm q) (rfl : List.length (prm q) = (prm q).length) (UInt64.ofNat (q + 2)) bn (fun i hi => prm_ne hm hi) (by omega) _ (ownView (h_10.ok _ (.head _))) (h_10.argR (.tail _ (.head _)))) rfl ?_
    rintro _ w_16 ⟨rfl, hc_15⟩
    have h_17 := h_10.same hc_15
    refine WL.q (Wn.no rfl) rfl rfl (R.not (b := (prm q).any (dvd (UInt64.ofNat (q + 2)))) rfl) ?_
    refine WL.nil ?_
    refine thn_n ?_
    refine WP.cond (b := !((prm q).any (dvd (UInt64.ofNat (q + 2))))) rfl (fun c_18 => ?_) (fun c_18 => ?_)
    · refine WP.reg ?_
      refine WL.q (Wn.no rfl) rfl rfl (R.move (v := (.slice ra ((prm q).length) rc)) rfl) ?_
      refine WL.q (Wn.no rfl) rfl rfl (R.load1 (b := bn) (off := 0) (v := (vu64 (UInt64.ofNat (q + 2)))) rfl Try.isAgg58 (h_17.ok _ (.tail _ (.head _))) Sg.h) ?_
      refine WL.buildSl (vs := [(0, (vu64 (UInt64.ofNat (q + 2))))]) (cs := ([UInt64.ofNat (q + 2)] : List UInt64).map vu64) h_17 Try.underlying72 Try.sizeOf58 (zv Try.typeInfo58 rfl) rfl rfl (by kernel_rfl) rfl (one_u64 _) rfl rfl (fun b_19 w_20 h_21 => ?_)
      refine WL.append (km := (prm q).length + 1) (xs := (prm q).map vu64) (ys := ([UInt64.ofNat (q + 2)] : List UInt64).map vu64) (zs := ((prm q) ++ ([UInt64.ofNat (q + 2)] : List UInt64)).map vu64) h_21 rfl rfl el72 (viewB (h_21.ok _ (.head _)) Sg.h) ((len_map (rfl : List.length ([UInt64.ofNat (q + 2)] : List UInt64) = 1)).trans (Nat.mul_one _).symm) (one_u64 _) (by simp only [List.map_append, List.map_nil]) (by omega) (by omega) (by omega) (fun _ _ => (At.t At.h)) rfl (fun a_22 c_23 w_24 h_25 => ?_)
      refine WL.q (Wn.no rfl) rfl rfl (R.assign (v := (.slice a_22 ((prm q).length + 1) c_23)) rfl) ?_
      refine WL.nil ?_
      refine inb_n ?_
      refine thn_n ?_
      refine WP.seq ?_
      refine WP.seq ?_
      refine WP.reg ?_
      refine WL.q (Wn.no rfl) rfl rfl (R.load1 (b := bn) (off := 0) (v := (vu64 (UInt64.ofNat (q + 2)))) rfl Try.isAgg58 (h_25.ok _ (.tail _ (.tail _ (.head _)))) Sg.h) ?_
      refine WL.nil ?_
      refine thn_n ?_
      refine WP.reg ?_
      refine WL.alloc (segs := [(1, [(vu64 0)])]) h_25 (zv Try.typeInfo58 rfl) rfl (SsOk.cons (SOk.v rfl) SsOk.nil) rfl (fun b_26 w_27 h_28 => ?_)
      refine WL.store1 (b := b_26) (off := 0) (v := (vu64 (UInt64.ofNat (q + 2)))) h_28 rfl rfl Try.sizeOf58 rfl At.h (by decide) Sg.h (fun w_29 h_30 => ?_)
      refine WL.nil ?_
      refine thn_n ?_
      refine WP.reg ?_
      refine WL.q (Wn.no rfl) rfl rfl (R.load1 (b := b_26) (off := 0) (v := (vu64 (UInt64.ofNat (q + 2)))) rfl Try.isAgg58 (h_30.ok _ (.head _)) Sg.h) ?_
      refine WL.q (Wn.no rfl) rfl rfl (R.bin (v := (vu64 ((UInt64.ofNat (q + 2)) + 1))) rfl rfl (b64_add (UInt64.ofNat (q + 2)) 1)) ?_
      refine WL.store1 (b := b_26) (off := 0) (v := (vu64 ((UInt64.ofNat (q + 2)) + 1))) h_30 rfl rfl Try.sizeOf58 rfl At.h (by decide) Sg.h (fun w_31 h_32 => ?_)
      refine WL.nil ?_
      refine thn_n ?_
      have h_33 := h_32.up (Pick.t Pick.h)
      have h_34 := h_33.drop rfl
      have h_35 := h_34.up (Pick.t (Pick.t Pick.h))
      have h_36 := h_35.drop rfl
      have h_37 := h_36.up (Pick.t Pick.h)
      have hm9 : q < 310 := prm_lt (by omega)
      have es := prm_no (m := q) (by simpa using c_18)
      have el : (prm q).length + 1 = (prm (q + 1)).length := by rw [← es]; rw [List.length_append]; rfl
      have en : UInt64.ofNat (q + 2) + 1 = UInt64.ofNat (q + 1 + 2) := u64_succ (q + 2)
      rw [el, es, en] at h_37
      exact ⟨(q + 1, a_22, c_23, b_26), _, (by omega), (Ag.upd rfl (Ag.upd rfl (Ag.upd rfl (Ag.upd rfl (Ag.upd rfl (Ag.upd rfl (Ag.upd rfl (Ag.upd rfl (Ag.upd rfl (Ag.upd rfl (Ag.upd rfl (Ag.upd rfl (Ag.upd rfl (Ag.upd rfl (Ag.upd rfl (Ag.upd rfl (Ag.updL rfl (Ag.mix _ _ _)))))))))))))))))), ⟨by rw [← el]; rfl, rfl, trivial⟩, h_37, (by omega), rfl⟩
    · refine WP.skip ?_
      refine inb_n ?_
      refine thn_n ?_
      refine WP.seq ?_
      refine WP.seq ?_
      refine WP.reg ?_
      refine WL.q (Wn.no rfl) rfl rfl (R.load1 (b := bn) (off := 0) (v := (vu64 (UInt64.ofNat (q + 2)))) rfl Try.isAgg58 (h_17.ok _ (.tail _ (.head _))) Sg.h) ?_
      refine WL.nil ?_
      refine thn_n ?_
      refine WP.reg ?_
      refine WL.alloc (segs := [(1, [(vu64 0)])]) h_17 (zv Try.typeInfo58 rfl) rfl (SsOk.cons (SOk.v rfl) SsOk.nil) rfl (fun b_38 w_39 h_40 => ?_)
      refine WL.store1 (b := b_38) (off := 0) (v := (vu64 (UInt64.ofNat (q + 2)))) h_40 rfl rfl Try.sizeOf58 rfl At.h (by decide) Sg.h (fun w_41 h_42 => ?_)
      refine WL.nil ?_
      refine thn_n ?_
      refine WP.reg ?_
      refine WL.q (Wn.no rfl) rfl rfl (R.load1 (b := b_38) (off := 0) (v := (vu64 (UInt64.ofNat (q + 2)))) rfl Try.isAgg58 (h_42.ok _ (.head _)) Sg.h) ?_
      refine WL.q (Wn.no rfl) rfl rfl (R.bin (v := (vu64 ((UInt64.ofNat (q + 2)) + 1))) rfl rfl (b64_add (UInt64.ofNat (q + 2)) 1)) ?_
      refine WL.store1 (b := b_38) (off := 0) (v := (vu64 ((UInt64.ofNat (q + 2)) + 1))) h_42 rfl rfl Try.sizeOf58 rfl At.h (by decide) Sg.h (fun w_43 h_44 => ?_)
      refine WL.nil ?_
      refine thn_n ?_
      have h_45 := h_44.up (Pick.t (Pick.t Pick.h))
      have h_46 := h_45.drop rfl
      have h_47 := h_46.up (Pick.t Pick.h)
      have hm9 : q < 310 := prm_lt (by omega)
      have es := prm_yes (m := q) (by simpa using c_18)
      have el : (prm q).length = (prm (q + 1)).length := congrArg List.length es
      have en : UInt64.ofNat (q + 2) + 1 = UInt64.ofNat (q + 1 + 2) := u64_succ (q + 2)
      rw [el, es, en] at h_47
      exact ⟨(q + 1, ra, rc, b_38), _, (by omega), (Ag.upd rfl (Ag.upd rfl (Ag.upd rfl (Ag.upd rfl (Ag.upd rfl (Ag.upd rfl (Ag.upd rfl (Ag.upd rfl (Ag.upd rfl (Ag.upd rfl (Ag.upd rfl (Ag.updL rfl (Ag.mix _ _ _))))))))))))), ⟨by rw [← el]; rfl, rfl, trivial⟩, h_47, (by omega), rfl⟩
  · have p_48 := of_decide_eq_false c_13
    refine WP.exit ?_
    refine thn_x ?_
    refine thn_x ?_
    refine inb_hit ?_
    refine thn_n ?_
    refine WP.seq ?_
    refine WP.reg ?_
    refine WL.q (Wn.no rfl) rfl rfl (R.move (v := (.slice ra ((prm q).length) rc)) rfl) ?_
    refine WL.q (Wn.no rfl) rfl rfl (R.assign (v := (.slice ra ((prm q).length) rc)) rfl) ?_
    refine WL.nil ?_
    refine thn_n ?_
    refine WP.ret ?_
    refine ret_of Try.results48 (RV.tmp (v := (.slice ra ((prm q).length) rc)) rfl RV.nil) ?_
    have ep := prm_full hm (by omega)
    have hown := h_10.own (.head _)
    rw [ep] at hown
    exact ⟨_, _, by rw [ep]; rfl, h_10.chgS, hown⟩

theorem c_Constant_lo (i : Int) (h : i < 0) (w : World) :
    Cs Try.prog 14 [(vi i)].toArray w (fun v w1 => v = (vu32 0) ∧ Chg w w1 []) := by
  refine Cs.of (n := 14) (args := [(vi i)]) Try.func14 rfl rfl rfl ?_
  have h_0 := HP.init w
  refine WP.seq ?_
  refine WP.reg ?_
  refine WL.q (Wn.no rfl) rfl rfl (R.assign (v := (vu32 0)) rfl) ?_
  refine WL.nil ?_
  refine thn_n ?_
  refine WP.seq ?_
  refine WP.seq ?_
  refine WP.reg ?_
  refine WL.q (Wn.no rfl) rfl rfl (R.move (v := (vi i)) rfl) ?_
  refine WL.q (Wn.no rfl) rfl rfl (R.bin (v := (.bool (decide ((i : Int) < 0)))) rfl rfl (bi_lss (r := decide ((i : Int) < 0)) rfl)) ?_
  refine WL.q (Wn.no rfl) rfl rfl (R.move (v := (.bool (decide ((i : Int) < 0)))) rfl) ?_
  refine WL.skip rfl (congrArg Value.bool (decide_eq_true h)) rfl ?_
  refine WL.skip rfl (congrArg Value.bool (decide_eq_true h)) rfl ?_
  refine WL.q (Wn.no rfl) rfl rfl (R.pickT (v := (.bool true)) (congrArg Value.bool (decide_eq_true h)) rfl) ?_
  refine WL.nil ?_
  refine thn_n ?_
  refine WP.condT rfl ?_
  refine WP.seq ?_
  refine WP.reg ?_
  refine WL.q (Wn.no rfl) rfl rfl (R.assign (v := (vu32 0)) rfl) ?_
  refine WL.nil ?_
  refine thn_n ?_
  refine WP.ret ?_
  refine thn_r ?_
  refine ret_of Try.results14 (RV.tmp (v := (vu32 0)) rfl RV.nil) ?_
  exact ⟨rfl, h_0.chgS⟩

theorem c_Constant_hi (i : Int) (h : ¬ i < 0) (h2 : 63 < i) (w : World) :
    Cs Try.prog 14 [(vi i)].toArray w (fun v w1 => v = (vu32 0) ∧ Chg w w1 []) := by
  refine Cs.of (n := 14) (args := [(vi i)]) Try.func14 rfl rfl rfl ?_
  have h_0 := HP.init w
  refine WP.seq ?_
  refine WP.reg ?_
  refine WL.q (Wn.no rfl) rfl rfl (R.assign (v := (vu32 0)) rfl) ?_
  refine WL.nil ?_
  refine thn_n ?_
  refine WP.seq ?_
  refine WP.seq ?_
  refine WP.reg ?_
  refine WL.q (Wn.no rfl) rfl rfl (R.move (v := (vi i)) rfl) ?_
  refine WL.q (Wn.no rfl) rfl rfl (R.bin (v := (.bool (decide ((i : Int) < 0)))) rfl rfl (bi_lss (r := decide ((i : Int) < 0)) rfl)) ?_
  refine WL.q (Wn.no rfl) rfl rfl (R.move (v := (.bool (decide ((i : Int) < 0)))) rfl) ?_
  refine WL.want rfl (congrArg Value.bool (decide_eq_false h)) ?_
  refine WL.q (Wn.no rfl) rfl rfl (R.move (v := (vi i)) rfl) ?_
  refine WL.want rfl (congrArg Value.bool (decide_eq_false h)) ?_
  refine WL.q (Wn.no rfl) rfl rfl (R.bin (v := (.bool (decide ((i : Int) > 63)))) rfl rfl (bi_gtr (r := decide ((i : Int) > 63)) rfl)) ?_
  refine WL.q (Wn.no rfl) rfl rfl (R.pickF (v := (.bool (decide ((i : Int) > 63)))) (congrArg Value.bool (decide_eq_false h)) rfl) ?_
  refine WL.nil ?_
  refine thn_n ?_
  refine WP.condT (congrArg Value.bool (decide_eq_true h2)) ?_
  refine WP.seq ?_
  refine WP.reg ?_
  refine WL.q (Wn.no rfl) rfl rfl (R.assign (v := (vu32 0)) rfl) ?_
  refine WL.nil ?_
  refine thn_n ?_
  refine WP.ret ?_
  refine thn_r ?_
  refine ret_of Try.results14 (RV.tmp (v := (vu32 0)) rfl RV.nil) ?_
  exact ⟨rfl, h_0.chgS⟩

theorem c_Constant_n (i : Nat) (h : i < 64) (w : World) :
    Cs Try.prog 14 [(vi ((i : Nat) : Int))].toArray w (fun v w1 => v = (vu32 (kL.getD i 0)) ∧ Chg w w1 []) := by
  refine Cs.of (n := 14) (args := [(vi ((i : Nat) : Int))]) Try.func14 rfl rfl rfl ?_
  have h_0 := HP.init w
  refine WP.seq ?_
  refine WP.reg ?_
  refine WL.q (Wn.no rfl) rfl rfl (R.assign (v := (vu32 0)) rfl) ?_
  refine WL.nil ?_
  refine thn_n ?_
  refine WP.seq ?_
  refine WP.seq ?_
  refine WP.reg ?_
  refine WL.q (Wn.no rfl) rfl rfl (R.move (v := (vi ((i : Nat) : Int))) rfl) ?_
  refine WL.q (Wn.no rfl) rfl rfl (R.bin (v := (.bool (decide ((((i : Nat) : Int) : Int) < 0)))) rfl rfl (bi_lss (r := decide ((((i : Nat) : Int) : Int) < 0)) rfl)) ?_
  refine WL.q (Wn.no rfl) rfl rfl (R.move (v := (.bool (decide ((((i : Nat) : Int) : Int) < 0)))) rfl) ?_
  refine WL.want rfl (congrArg Value.bool (decide_eq_false (by omega))) ?_
  refine WL.q (Wn.no rfl) rfl rfl (R.move (v := (vi ((i : Nat) : Int))) rfl) ?_
  refine WL.want rfl (congrArg Value.bool (decide_eq_false (by omega))) ?_
  refine WL.q (Wn.no rfl) rfl rfl (R.bin (v := (.bool (decide ((((i : Nat) : Int) : Int) > 63)))) rfl rfl (bi_gtr (r := decide ((((i : Nat) : Int) : Int) > 63)) rfl)) ?_
  refine WL.q (Wn.no rfl) rfl rfl (R.pickF (v := (.bool (decide ((((i : Nat) : Int) : Int) > 63)))) (congrArg Value.bool (decide_eq_false (by omega))) rfl) ?_
  refine WL.nil ?_
  refine thn_n ?_
  refine WP.condF (congrArg Value.bool (decide_eq_false (by omega))) ?_
  refine WP.skip ?_
  refine thn_n ?_
  refine WP.seq ?_
  refine WP.reg ?_
  refine WL.call (al := []) Try.call48 rfl rfl (c_primes _) rfl ?_
  rintro _ w_3 ⟨a_1, cap_2, rfl, hc_4, ho_5⟩
  have h_6 := h_0.gotRow hc_4 ho_5
  refine WL.q (Wn.no rfl) rfl rfl (R.move (v := (vi ((i : Nat) : Int))) rfl) ?_
  refine WL.q (Wn.no rfl) rfl rfl (R.indexS (a := a_1) (i := i) (off := i) (xs := primeL.map vu64) rfl rfl rfl (by omega) (ownView (h_6.ok _ (.head _))) (lt_len (K := 64) (len_map primeL_len) (by omega)) Try.underlying72 Try.sizeOf58 (Nat.mul_one _).symm) ?_
  refine WL.q (Wn.no rfl) rfl rfl (R.loadG (a := a_1) (i := i) (xs := primeL.map vu64) (v := (vu64 (primeL.getD i 0))) rfl (ownView (h_6.ok _ (.head _))) Try.isAgg58 (get_u64 (lt_len (K := 64) primeL_len (by omega)))) ?_
  refine WL.call (al := [(vu64 (primeL.getD i 0))]) Try.call47 rfl rfl (c_constant (primeL.getD i 0) _ ) rfl ?_
  rintro _ w_8 ⟨rfl, hc_7⟩
  have h_9 := h_6.same hc_7
  refine WL.q (Wn.no rfl) rfl rfl (R.assign (v := (vu32 (rootF (fC (primeL.getD i 0))))) rfl) ?_
  refine WL.nil ?_
  refine thn_n ?_
  refine WP.ret ?_
  refine ret_of Try.results14 (RV.tmp (v := (vu32 (rootF (fC (primeL.getD i 0))))) rfl RV.nil) ?_
  exact ⟨congrArg (fun x : UInt32 => vu32 x) (tabK i h), h_9.chgS⟩

theorem c_Constant (i : Int) (w : World) : Cs Try.prog 14 [vi i].toArray w (fun v w1 => v = vu32 (kAt i) ∧ Chg w w1 []) := by
  by_cases h : i < 0
  · rw [kAt_no (.inl h)]; exact c_Constant_lo i h w
  by_cases h2 : 63 < i
  · rw [kAt_no (.inr h2)]; exact c_Constant_hi i h h2 w
  obtain ⟨q, rfl⟩ : ∃ q : Nat, i = (q : Int) := ⟨i.toNat, by omega⟩
  rw [kAt_nat (by omega)]; exact c_Constant_n q (by omega) w

theorem c_Start_lo (i : Int) (h : i < 0) (w : World) :
    Cs Try.prog 16 [(vi i)].toArray w (fun v w1 => v = (vu32 0) ∧ Chg w w1 []) := by
  refine Cs.of (n := 14) (args := [(vi i)]) Try.func16 rfl rfl rfl ?_
  have h_0 := HP.init w
  refine WP.seq ?_
  refine WP.reg ?_
  refine WL.q (Wn.no rfl) rfl rfl (R.assign (v := (vu32 0)) rfl) ?_
  refine WL.nil ?_
  refine thn_n ?_
  refine WP.seq ?_
  refine WP.seq ?_
  refine WP.reg ?_
  refine WL.q (Wn.no rfl) rfl rfl (R.move (v := (vi i)) rfl) ?_
  refine WL.q (Wn.no rfl) rfl rfl (R.bin (v := (.bool (decide ((i : Int) < 0)))) rfl rfl (bi_lss (r := decide ((i : Int) < 0)) rfl)) ?_
  refine WL.q (Wn.no rfl) rfl rfl (R.move (v := (.bool (decide ((i : Int) < 0)))) rfl) ?_
  refine WL.skip rfl (congrArg Value.bool (decide_eq_true h)) rfl ?_
  refine WL.skip rfl (congrArg Value.bool (decide_eq_true h)) rfl ?_
  refine WL.q (Wn.no rfl) rfl rfl (R.pickT (v := (.bool true)) (congrArg Value.bool (decide_eq_true h)) rfl) ?_
  refine WL.nil ?_
  refine thn_n ?_
  refine WP.condT rfl ?_
  refine WP.seq ?_
  refine WP.reg ?_
  refine WL.q (Wn.no rfl) rfl rfl (R.assign (v := (vu32 0)) rfl) ?_
  refine WL.nil ?_
  refine thn_n ?_
  refine WP.ret ?_
  refine thn_r ?_
  refine ret_of Try.results16 (RV.tmp (v := (vu32 0)) rfl RV.nil) ?_
  exact ⟨rfl, h_0.chgS⟩

theorem c_Start_hi (i : Int) (h : ¬ i < 0) (h2 : 7 < i) (w : World) :
    Cs Try.prog 16 [(vi i)].toArray w (fun v w1 => v = (vu32 0) ∧ Chg w w1 []) := by
  refine Cs.of (n := 14) (args := [(vi i)]) Try.func16 rfl rfl rfl ?_
  have h_0 := HP.init w
  refine WP.seq ?_
  refine WP.reg ?_
  refine WL.q (Wn.no rfl) rfl rfl (R.assign (v := (vu32 0)) rfl) ?_
  refine WL.nil ?_
  refine thn_n ?_
  refine WP.seq ?_
  refine WP.seq ?_
  refine WP.reg ?_
  refine WL.q (Wn.no rfl) rfl rfl (R.move (v := (vi i)) rfl) ?_
  refine WL.q (Wn.no rfl) rfl rfl (R.bin (v := (.bool (decide ((i : Int) < 0)))) rfl rfl (bi_lss (r := decide ((i : Int) < 0)) rfl)) ?_
  refine WL.q (Wn.no rfl) rfl rfl (R.move (v := (.bool (decide ((i : Int) < 0)))) rfl) ?_
  refine WL.want rfl (congrArg Value.bool (decide_eq_false h)) ?_
  refine WL.q (Wn.no rfl) rfl rfl (R.move (v := (vi i)) rfl) ?_
  refine WL.want rfl (congrArg Value.bool (decide_eq_false h)) ?_
  refine WL.q (Wn.no rfl) rfl rfl (R.bin (v := (.bool (decide ((i : Int) > 7)))) rfl rfl (bi_gtr (r := decide ((i : Int) > 7)) rfl)) ?_
  refine WL.q (Wn.no rfl) rfl rfl (R.pickF (v := (.bool (decide ((i : Int) > 7)))) (congrArg Value.bool (decide_eq_false h)) rfl) ?_
  refine WL.nil ?_
  refine thn_n ?_
  refine WP.condT (congrArg Value.bool (decide_eq_true h2)) ?_
  refine WP.seq ?_
  refine WP.reg ?_
  refine WL.q (Wn.no rfl) rfl rfl (R.assign (v := (vu32 0)) rfl) ?_
  refine WL.nil ?_
  refine thn_n ?_
  refine WP.ret ?_
  refine thn_r ?_
  refine ret_of Try.results16 (RV.tmp (v := (vu32 0)) rfl RV.nil) ?_
  exact ⟨rfl, h_0.chgS⟩

theorem c_Start_n (i : Nat) (h : i < 8) (w : World) :
    Cs Try.prog 16 [(vi ((i : Nat) : Int))].toArray w (fun v w1 => v = (vu32 (hL.getD i 0)) ∧ Chg w w1 []) := by
  refine Cs.of (n := 14) (args := [(vi ((i : Nat) : Int))]) Try.func16 rfl rfl rfl ?_
  have h_0 := HP.init w
  refine WP.seq ?_
  refine WP.reg ?_
  refine WL.q (Wn.no rfl) rfl rfl (R.assign (v := (vu32 0)) rfl) ?_
  refine WL.nil ?_
  refine thn_n ?_
  refine WP.seq ?_
  refine WP.seq ?_
  refine WP.reg ?_
  refine WL.q (Wn.no rfl) rfl rfl (R.move (v := (vi ((i : Nat) : Int))) rfl) ?_
  refine WL.q (Wn.no rfl) rfl rfl (R.bin (v := (.bool (decide ((((i : Nat) : Int) : Int) < 0)))) rfl rfl (bi_lss (r := decide ((((i : Nat) : Int) : Int) < 0)) rfl)) ?_
  refine WL.q (Wn.no rfl) rfl rfl (R.move (v := (.bool (decide ((((i : Nat) : Int) : Int) < 0)))) rfl) ?_
  refine WL.want rfl (congrArg Value.bool (decide_eq_false (by omega))) ?_
  refine WL.q (Wn.no rfl) rfl rfl (R.move (v := (vi ((i : Nat) : Int))) rfl) ?_
  refine WL.want rfl (congrArg Value.bool (decide_eq_false (by omega))) ?_
  refine WL.q (Wn.no rfl) rfl rfl (R.bin (v := (.bool (decide ((((i : Nat) : Int) : Int) > 7)))) rfl rfl (bi_gtr (r := decide ((((i : Nat) : Int) : Int) > 7)) rfl)) ?_
  refine WL.q (Wn.no rfl) rfl rfl (R.pickF (v := (.bool (decide ((((i : Nat) : Int) : Int) > 7)))) (congrArg Value.bool (decide_eq_false (by omega))) rfl) ?_
  refine WL.nil ?_
  refine thn_n ?_
  refine WP.condF (congrArg Value.bool (decide_eq_false (by omega))) ?_
  refine WP.skip ?_
  refine thn_n ?_
  refine WP.seq ?_
  refine WP.reg ?_
  refine WL.call (al := []) Try.call48 rfl rfl (c_primes _) rfl ?_
  rintro _ w_3 ⟨a_1, cap_2, rfl, hc_4, ho_5⟩
  have h_6 := h_0.gotRow hc_4 ho_5
  refine WL.q (Wn.no rfl) rfl rfl (R.move (v := (vi ((i : Nat) : Int))) rfl) ?_
  refine WL.q (Wn.no rfl) rfl rfl (R.indexS (a := a_1) (i := i) (off := i) (xs := primeL.map vu64) rfl rfl rfl (by omega) (ownView (h_6.ok _ (.head _))) (lt_len (K := 64) (len_map primeL_len) (by omega)) Try.underlying72 Try.sizeOf58 (Nat.mul_one _).symm) ?_
  refine WL.q (Wn.no rfl) rfl rfl (R.loadG (a := a_1) (i := i) (xs := primeL.map vu64) (v := (vu64 (primeL.getD i 0))) rfl (ownView (h_6.ok _ (.head _))) Try.isAgg58 (get_u64 (lt_len (K := 64) primeL_len (by omega)))) ?_
  refine WL.call (al := [(vu64 (primeL.getD i 0))]) Try.call51 rfl rfl (c_start (primeL.getD i 0) _ ) rfl ?_
  rintro _ w_8 ⟨rfl, hc_7⟩
  have h_9 := h_6.same hc_7
  refine WL.q (Wn.no rfl) rfl rfl (R.assign (v := (vu32 (rootF (fS (primeL.getD i 0))))) rfl) ?_
  refine WL.nil ?_
  refine thn_n ?_
  refine WP.ret ?_
  refine ret_of Try.results16 (RV.tmp (v := (vu32 (rootF (fS (primeL.getD i 0))))) rfl RV.nil) ?_
  exact ⟨congrArg (fun x : UInt32 => vu32 x) (tabH i h), h_9.chgS⟩

theorem c_Start (i : Int) (w : World) : Cs Try.prog 16 [vi i].toArray w (fun v w1 => v = vu32 (hAt i) ∧ Chg w w1 []) := by
  by_cases h : i < 0
  · rw [hAt_no (.inl h)]; exact c_Start_lo i h w
  by_cases h2 : 7 < i
  · rw [hAt_no (.inr h2)]; exact c_Start_hi i h h2 w
  obtain ⟨q, rfl⟩ : ∃ q : Nat, i = (q : Int) := ⟨i.toNat, by omega⟩
  rw [hAt_nat (by omega)]; exact c_Start_n q (by omega) w

theorem c_tables  (w : World) :
    Cs Try.prog 55 [].toArray w (fun v w1 => v = (.tuple [(.agg ⟨kL.map vu32⟩), (.agg ⟨hL.map vu32⟩)].toArray) ∧ Chg w w1 []) := by
  refine Cs.of (n := 24) (args := []) Try.func55 rfl rfl rfl ?_
  have h_0 := HP.init w
  refine WP.seq ?_
  refine WP.reg ?_
  refine WL.alloc (segs := [(64, (List.replicate 64 (0 : UInt32)).map vu32)]) h_0 (zv Try.typeInfo53 rfl) rfl (SsOk.cons (SOk.u32 (List.length_replicate ..)) SsOk.nil) rfl (fun b_1 w_2 h_3 => ?_)
  refine WL.alloc (segs := [(8, (List.replicate 8 (0 : UInt32)).map vu32)]) h_3 (zv Try.typeInfo33 rfl) rfl (SsOk.cons (SOk.u32 (List.length_replicate ..)) SsOk.nil) rfl (fun b_4 w_5 h_6 => ?_)
  refine WL.nil ?_
  refine thn_n ?_
  refine WP.seq ?_
  refine WP.seq ?_
  refine WP.reg ?_
  refine WL.call (al := []) Try.call48 rfl rfl (c_primes _) rfl ?_
  rintro _ w_9 ⟨a_7, cap_8, rfl, hc_10, ho_11⟩
  have h_12 := h_6.gotRow hc_10 ho_11
  refine WL.q (Wn.no rfl) rfl rfl (R.lenS (a := a_7) (m := 64) rfl rfl Try.underlying72) ?_
  refine WL.q (Wn.no rfl) rfl rfl (R.move (v := (vi 0)) rfl) ?_
  refine WL.nil ?_
  refine thn_n ?_
  refine WP.block ?_
  refine WP.loopG (G := Nat) [2, 3, 6, 7, 8, 9, 10, 11, 12, 13, 14, 15, 16, 17, 18, 19, 20, 21] (fun k => [(6, (vi ((k : Nat) : Int)))]) (fun k m w1 => HP w w1 [.row a_7 64 cap_8 58 1 (primeL.map vu64), .blk b_4 .nw 33 [(8, (mix hL (List.replicate 8 0) k).map vu32)], .blk b_1 .nw 53 [(64, (mix kL (List.replicate 64 0) k).map vu32)]] ∧ (k ≤ 64) ∧ m = 64 - k) ⟨0, _, ⟨rfl, trivial⟩, (by rw [mix_0, mix_0]; exact h_12), (by omega), rfl⟩ ?_
  rintro k m_15 J_16 w_13 ⟨h_14, hk, rfl⟩
  refine WP.seq ?_
  refine WP.reg ?_
  refine WL.q (Wn.no rfl) rfl rfl (R.bin (v := (.bool (decide ((((k : Nat) : Int) : Int) < 64)))) rfl rfl (bi_lss (r := decide ((((k : Nat) : Int) : Int) < 64)) rfl)) ?_
  refine WL.nil ?_
  refine thn_n ?_
  refine WP.seq ?_
  refine WP.cond (b := decide ((((k : Nat) : Int) : Int) < 64)) rfl (fun c_17 => ?_) (fun c_17 => ?_)
  · have p_18 := of_decide_eq_true c_17
    refine WP.skip ?_
    refine thn_n ?_
    refine WP.seq ?_
    refine WP.block ?_
    refine WP.seq ?_
    refine WP.reg ?_
    refine WL.q (Wn.no rfl) rfl rfl (R.move (v := (vi ((k : Nat) : Int))) rfl) ?_
    refine WL.q (Wn.no rfl) rfl rfl (R.indexS (a := a_7) (i := k) (off := k) (xs := primeL.map vu64) rfl rfl rfl (by omega) (ownView (h_14.ok _ (.head _))) (lt_len (K := 64) (len_map primeL_len) (by omega)) Try.underlying72 Try.sizeOf58 (Nat.mul_one _).symm) ?_
    refine WL.q (Wn.no rfl) rfl rfl (R.loadG (a := a_7) (i := k) (xs := primeL.map vu64) (v := (vu64 (primeL.getD k 0))) rfl (ownView (h_14.ok _ (.head _))) Try.isAgg58 (get_u64 (lt_len (K := 64) primeL_len (by omega)))) ?_
    refine WL.q (Wn.no rfl) rfl rfl (R.assign (v := (vi ((k : Nat) : Int))) rfl) ?_
    refine WL.q (Wn.no rfl) rfl rfl (R.assign (v := (vu64 (primeL.getD k 0))) rfl) ?_
    refine WL.nil ?_
    refine thn_n ?_
    refine WP.seq ?_
    refine WP.reg ?_
    refine WL.q (Wn.no rfl) rfl rfl (R.move (v := (vi ((k : Nat) : Int))) rfl) ?_
    refine WL.q (Wn.no rfl) rfl rfl (R.move (v := (vu64 (primeL.getD k 0))) rfl) ?_
    refine WL.call (al := [(vu64 (primeL.getD k 0))]) Try.call47 rfl rfl (c_constant (primeL.getD k 0) _ ) rfl ?_
    rintro _ w_20 ⟨rfl, hc_19⟩
    have h_21 := h_14.same hc_19
    refine WL.q (Wn.no rfl) rfl rfl (R.indexA (b := b_1) (off := 0) (off' := (0 + k)) (i := k) rfl rfl rfl (by omega) Try.underlying53 Try.sizeOf22 (by rw [Nat.mul_one])) ?_
    refine WL.storeE (b := b_1) (off := (0 + k)) (i := k) (v := (vu32 (rootF (fC (primeL.getD k 0))))) (cs' := ((mix kL (List.replicate 64 0) k).set k (rootF (fC (primeL.getD k 0)))).map vu32) h_21 rfl rfl Try.sizeOf22 rfl (At.t (At.t At.h)) (by decide) Sg.h rfl (lt_len (K := 64) (len_map (mix_len kL_len (List.length_replicate ..))) (by omega)) (set_u32 _ _ _) (fun w_22 h_23 => ?_)
    refine WL.nil ?_
    refine thn_n ?_
    refine WP.seq ?_
    refine WP.reg ?_
    refine WL.q (Wn.no rfl) rfl rfl (R.move (v := (vi ((k : Nat) : Int))) rfl) ?_
    refine WL.q (Wn.no rfl) rfl rfl (R.bin (v := (.bool (decide ((((k : Nat) : Int) : Int) < 8)))) rfl rfl (bi_lss (r := decide ((((k : Nat) : Int) : Int) < 8)) rfl)) ?_
    refine WL.nil ?_
    refine thn_n ?_
    refine WP.cond (b := decide ((((k : Nat) : Int) : Int) < 8)) rfl (fun c_24 => ?_) (fun c_24 => ?_)
    · have p_25 := of_decide_eq_true c_24
      refine WP.reg ?_
      refine WL.q (Wn.no rfl) rfl rfl (R.move (v := (vi ((k : Nat) : Int))) rfl) ?_
      refine WL.q (Wn.no rfl) rfl rfl (R.move (v := (vu64 (primeL.getD k 0))) rfl) ?_
      refine WL.call (al := [(vu64 (primeL.getD k 0))]) Try.call51 rfl rfl (c_start (primeL.getD k 0) _ ) rfl ?_
      rintro _ w_27 ⟨rfl, hc_26⟩
      have h_28 := h_23.same hc_26
      refine WL.q (Wn.no rfl) rfl rfl (R.indexA (b := b_4) (off := 0) (off' := (0 + k)) (i := k) rfl rfl rfl (by omega) Try.underlying33 Try.sizeOf22 (by rw [Nat.mul_one])) ?_
      refine WL.storeE (b := b_4) (off := (0 + k)) (i := k) (v := (vu32 (rootF (fS (primeL.getD k 0))))) (cs' := ((mix hL (List.replicate 8 0) k).set k (rootF (fS (primeL.getD k 0)))).map vu32) h_28 rfl rfl Try.sizeOf22 rfl (At.t At.h) (by decide) Sg.h rfl (lt_len (K := 8) (len_map (mix_len hL_len (List.length_replicate ..))) (by omega)) (set_u32 _ _ _) (fun w_29 h_30 => ?_)
      refine WL.nil ?_
      refine inb_n ?_
      refine thn_n ?_
      refine WP.reg ?_
      refine WL.q (Wn.no rfl) rfl rfl (R.bin (v := (vi ((k + 1 : Nat) : Int))) rfl rfl (bi_add (c := ((k + 1 : Nat) : Int)) (by omega) (by omega))) ?_
      refine WL.q (Wn.no rfl) rfl rfl (R.move (v := (vi ((k + 1 : Nat) : Int))) rfl) ?_
      refine WL.nil ?_
      refine thn_n ?_
      rw [tabK k (by omega), mix_set kL_len (List.length_replicate ..) (by omega)] at h_30
      rw [tabH k (by omega), mix_set hL_len (List.length_replicate ..) (by omega)] at h_30
      exact ⟨k + 1, _, (by omega), (Ag.upd rfl (Ag.upd rfl (Ag.upd rfl (Ag.upd rfl (Ag.upd rfl (Ag.upd rfl (Ag.upd rfl (Ag.upd rfl (Ag.upd rfl (Ag.upd rfl (Ag.upd rfl (Ag.upd rfl (Ag.upd rfl (Ag.upd rfl (Ag.upd rfl (Ag.upd rfl (Ag.upd rfl (Ag.upd rfl (Ag.updL rfl (Ag.mix _ _ _)))))))))))))))))))), ⟨rfl, trivial⟩, h_30, (by omega), rfl⟩
    · have p_31 := of_decide_eq_false c_24
      refine WP.skip ?_
      refine inb_n ?_
      refine thn_n ?_
      refine WP.reg ?_
      refine WL.q (Wn.no rfl) rfl rfl (R.bin (v := (vi ((k + 1 : Nat) : Int))) rfl rfl (bi_add (c := ((k + 1 : Nat) : Int)) (by omega) (by omega))) ?_
      refine WL.q (Wn.no rfl) rfl rfl (R.move (v := (vi ((k + 1 : Nat) : Int))) rfl) ?_
      refine WL.nil ?_
      refine thn_n ?_
      rw [tabK k (by omega), mix_set kL_len (List.length_replicate ..) (by omega)] at h_23
      rw [mix_all hL_len (List.length_replicate ..) (show 8 ≤ k by omega), ← mix_all (i := k + 1) hL_len (List.length_replicate ..) (show 8 ≤ k + 1 by omega)] at h_23
      exact ⟨k + 1, _, (by omega), (Ag.upd rfl (Ag.upd rfl (Ag.upd rfl (Ag.upd rfl (Ag.upd rfl (Ag.upd rfl (Ag.upd rfl (Ag.upd rfl (Ag.upd rfl (Ag.upd rfl (Ag.upd rfl (Ag.upd rfl (Ag.upd rfl (Ag.upd rfl (Ag.updL rfl (Ag.mix _ _ _)))))))))))))))), ⟨rfl, trivial⟩, h_23, (by omega), rfl⟩
  · have p_32 := of_decide_eq_false c_17
    refine WP.exit ?_
    refine thn_x ?_
    refine thn_x ?_
    refine inb_hit ?_
    refine thn_n ?_
    refine WP.seq ?_
    refine WP.drawZ 3 (SL w.heap.size [.row a_7 64 cap_8 58 1 (primeL.map vu64), .blk b_4 .nw 33 [(8, (mix hL (List.replicate 8 0) k).map vu32)]]) (.q 1 (.s 0 (.s 2 (.s 3 .nil)))) (by kernel_rfl) (by kernel_rfl) rfl (by kernel_rfl) (fun w_33 hc_35 => (SL.cons ((h_14.same hc_35).ok _ (.head _)) (SL.cons ((h_14.same hc_35).ok _ (.tail _ (.head _))) (SL.nil _ _)))) (fun w_33 hc_35 => ?_)
    have h_34 := h_14.same hc_35
    refine ZT.q rfl (Wn.no rfl) rfl rfl (fun wq hS => R.loadA (b := b_4) (off := 0) [] [(8, (mix hL (List.replicate 8 0) k).map vu32)] [] (cs := (mix hL (List.replicate 8 0) k).map vu32) rfl Try.isAgg33 Try.sizeOf33 (hS _ (.tail _ (.head _))) rfl rfl rfl rfl) ?_
    refine ZT.s ?_
    refine OpZ.one rfl (Wn.no rfl) ?_
    refine WL.q (Wn.no rfl) rfl rfl (R.loadA (b := b_1) (off := 0) [] [(64, (mix kL (List.replicate 64 0) k).map vu32)] [] (cs := (mix kL (List.replicate 64 0) k).map vu32) rfl Try.isAgg53 Try.sizeOf53 (h_34.ok _ (.tail _ (.tail _ (.head _)))) rfl rfl rfl rfl) ?_
    refine WL.nil ?_
    refine ⟨(SL.cons (h_34.ok _ (.head _)) (SL.cons (h_34.ok _ (.tail _ (.head _))) (SL.nil _ _))), ?_⟩
    refine ZT.s ?_
    refine OpZ.one rfl (Wn.no rfl) ?_
    refine WL.storeA (b := b_1) (off := 0) [] [(64, (mix kL (List.replicate 64 0) k).map vu32)] [(64, (mix kL (List.replicate 64 0) k).map vu32)] [] (ys := (mix kL (List.replicate 64 0) k).map vu32) h_34 rfl rfl Try.sizeOf53 (At.t (At.t At.h)) (by decide) rfl rfl rfl rfl rfl rfl (SsOk.cons (SOk.u32 (mix_len kL_len (List.length_replicate ..))) SsOk.nil) (fun w_36 h_37 => ?_)
    refine WL.nil ?_
    refine ⟨(SL.cons (h_37.ok _ (.head _)) (SL.cons (h_37.ok _ (.tail _ (.head _))) (SL.nil _ _))), ?_⟩
    refine ZT.s ?_
    refine OpZ.last rfl (Wn.no rfl) ?_
    refine WL.storeA (b := b_4) (off := 0) [] [(8, (mix hL (List.replicate 8 0) k).map vu32)] [(8, (mix hL (List.replicate 8 0) k).map vu32)] [] (ys := (mix hL (List.replicate 8 0) k).map vu32) h_37 rfl rfl Try.sizeOf33 (At.t At.h) (by decide) rfl rfl rfl rfl rfl rfl (SsOk.cons (SOk.u32 (mix_len hL_len (List.length_replicate ..))) SsOk.nil) (fun w_38 h_39 => ?_)
    refine WL.nil ?_
    refine ZT.nil ?_
    refine thn_n ?_
    refine WP.ret ?_
    refine ret_of Try.results55 (RV.cell rfl (h_39.loadA (cs := (mix kL (List.replicate 64 0) k).map vu32) Try.isAgg53 Try.sizeOf53 (.tail _ (.tail _ (.head _))) rfl rfl) (RV.cell rfl (h_39.loadA (cs := (mix hL (List.replicate 8 0) k).map vu32) Try.isAgg33 Try.sizeOf33 (.tail _ (.head _)) rfl rfl) RV.nil)) ?_
    have hk64 : k = 64 := by omega
    subst hk64
    have e1 : mix kL (List.replicate 64 0) 64 = kL := mix_all kL_len (List.length_replicate ..) (Nat.le_refl _)
    have e2 : mix hL (List.replicate 8 0) 64 = hL := mix_all hL_len (List.length_replicate ..) (by decide)
    exact ⟨by rw [e1, e2]; rfl, h_39.chgS⟩
end Go.Proofs.Ytelkjcigdhgcoaa
