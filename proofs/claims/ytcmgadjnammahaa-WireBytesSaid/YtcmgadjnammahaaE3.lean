/- Contracts of package aes: the rows that are known. Conditions: those that each theorem states. -/
import Derived.Test.YtcmgadjnammahaaE2
import Derived.Test.YtcmgadjnammahaaW0
namespace Go.Proofs.Ytcmgadjnammahaa
open Go.Vc Go.Ax Go.RowKit
set_option linter.unusedVariables false
set_option linter.unusedSimpArgs false
set_option maxRecDepth 20000
def tb0 : List UInt8 := ([99, 124, 119, 123, 242, 107, 111, 197, 48, 1, 103, 43, 254, 215, 171, 118, 202, 130, 201, 125, 250, 89, 71, 240, 173, 212, 162, 175, 156, 164, 114, 192, 183, 253, 147, 38, 54, 63, 247, 204, 52, 165, 229, 241, 113, 216, 49, 21, 4, 199, 35, 195, 24, 150, 5, 154, 7, 18, 128, 226, 235, 39, 178, 117, 9, 131, 44, 26, 27, 110, 90, 160, 82, 59, 214, 179, 41, 227, 47, 132, 83, 209, 0, 237, 32, 252, 177, 91, 106, 203, 190, 57, 74, 76, 88, 207, 208, 239, 170, 251, 67, 77, 51, 133, 69, 249, 2, 127, 80, 60, 159, 168, 81, 163, 64, 143, 146, 157, 56, 245, 188, 182, 218, 33, 16, 255, 243, 210, 205, 12, 19, 236, 95, 151, 68, 23, 196, 167, 126, 61, 100, 93, 25, 115, 96, 129, 79, 220, 34, 42, 144, 136, 70, 238, 184, 20, 222, 94, 11, 219, 224, 50, 58, 10, 73, 6, 36, 92, 194, 211, 172, 98, 145, 149, 228, 121, 231, 200, 55, 109, 141, 213, 78, 169, 108, 86, 244, 234, 101, 122, 174, 8, 186, 120, 37, 46, 28, 166, 180, 198, 232, 221, 116, 31, 75, 189, 139, 138, 112, 62, 181, 102, 72, 3, 246, 14, 97, 53, 87, 185, 134, 193, 29, 158, 225, 248, 152, 17, 105, 217, 142, 148, 155, 30, 135, 233, 206, 85, 40, 223, 140, 161, 137, 13, 191, 230, 66, 104, 65, 153, 45, 15, 176, 84, 187, 22] : List UInt8)
theorem tb0_eq : tabL sub = tb0 := by decide +kernel
def ks0 : List UInt8 := ([0, 1, 2, 3, 4, 5, 6, 7, 8, 9, 10, 11, 12, 13, 14, 15, 214, 170, 116, 253, 210, 175, 114, 250, 218, 166, 120, 241, 214, 171, 118, 254, 182, 146, 207, 11, 100, 61, 189, 241, 190, 155, 197, 0, 104, 48, 179, 254, 182, 255, 116, 78, 210, 194, 201, 191, 108, 89, 12, 191, 4, 105, 191, 65, 71, 247, 247, 188, 149, 53, 62, 3, 249, 108, 50, 188, 253, 5, 141, 253, 60, 170, 163, 232, 169, 159, 157, 235, 80, 243, 175, 87, 173, 246, 34, 170, 94, 57, 15, 125, 247, 166, 146, 150, 167, 85, 61, 193, 10, 163, 31, 107, 20, 249, 112, 26, 227, 95, 226, 140, 68, 10, 223, 77, 78, 169, 192, 38, 71, 67, 135, 53, 164, 28, 101, 185, 224, 22, 186, 244, 174, 191, 122, 210, 84, 153, 50, 209, 240, 133, 87, 104, 16, 147, 237, 156, 190, 44, 151, 78, 19, 17, 29, 127, 227, 148, 74, 23, 243, 7, 167, 139, 77, 43, 48, 197] : List UInt8)
theorem ks0_nb : ∀ j, j < 176 → 16 ≤ j → nb tb0 (fun i => ks0.getD i 0) j = ks0.getD j 0 := by decide +kernel
theorem ks0_key : ∀ j, j < 16 → ([0, 1, 2, 3, 4, 5, 6, 7, 8, 9, 10, 11, 12, 13, 14, 15] : List UInt8).getD j 0 = ks0.getD j 0 := by decide +kernel
theorem ks0_at : ∀ j, j < 176 → K tb0 ([0, 1, 2, 3, 4, 5, 6, 7, 8, 9, 10, 11, 12, 13, 14, 15] : List UInt8) j = ks0.getD j 0 := by
  intro j
  induction j using Nat.strongRecOn with
  | ind j ih =>
    intro hj
    by_cases h : j < 16
    · rw [K_key rfl h, ks0_key j h]
    · rw [K_step rfl (by omega) hj, nb_ext (by omega) fun i hi => ih i hi (by omega), ks0_nb j hj (by omega)]
theorem ks0_eq : keysL tb0 ([0, 1, 2, 3, 4, 5, 6, 7, 8, 9, 10, 11, 12, 13, 14, 15] : List UInt8) = ks0 := (List.map_congr_left fun j hj => ks0_at j (List.mem_range.1 hj)).trans (list_range (by decide +kernel))
theorem st0 : encN ks0 tb0 ([0, 17, 34, 51, 68, 85, 102, 119, 136, 153, 170, 187, 204, 221, 238, 255] : List UInt8) 0 = ([0, 16, 32, 48, 64, 80, 96, 112, 128, 144, 160, 176, 192, 208, 224, 240] : List UInt8) := by
  rw [encN]; decide +kernel
theorem st1 : encN ks0 tb0 ([0, 17, 34, 51, 68, 85, 102, 119, 136, 153, 170, 187, 204, 221, 238, 255] : List UInt8) 1 = ([137, 216, 16, 232, 133, 90, 206, 104, 45, 24, 67, 216, 203, 18, 143, 228] : List UInt8) := by
  rw [encN, st0]; decide +kernel
theorem st2 : encN ks0 tb0 ([0, 17, 34, 51, 68, 85, 102, 119, 136, 153, 170, 187, 204, 221, 238, 255] : List UInt8) 2 = ([73, 21, 89, 143, 85, 229, 215, 160, 218, 202, 148, 250, 31, 10, 99, 247] : List UInt8) := by
  rw [encN, st1]; decide +kernel
theorem st3 : encN ks0 tb0 ([0, 17, 34, 51, 68, 85, 102, 119, 136, 153, 170, 187, 204, 221, 238, 255] : List UInt8) 3 = ([250, 99, 106, 40, 37, 179, 57, 201, 64, 102, 138, 49, 87, 36, 77, 23] : List UInt8) := by
  rw [encN, st2]; decide +kernel
theorem st4 : encN ks0 tb0 ([0, 17, 34, 51, 68, 85, 102, 119, 136, 153, 170, 187, 204, 221, 238, 255] : List UInt8) 4 = ([36, 114, 64, 35, 105, 102, 179, 250, 110, 210, 117, 50, 136, 66, 91, 108] : List UInt8) := by
  rw [encN, st3]; decide +kernel
theorem st5 : encN ks0 tb0 ([0, 17, 34, 51, 68, 85, 102, 119, 136, 153, 170, 187, 204, 221, 238, 255] : List UInt8) 5 = ([200, 22, 119, 188, 155, 122, 201, 59, 37, 2, 121, 146, 176, 38, 25, 150] : List UInt8) := by
  rw [encN, st4]; decide +kernel
theorem st6 : encN ks0 tb0 ([0, 17, 34, 51, 68, 85, 102, 119, 136, 153, 170, 187, 204, 221, 238, 255] : List UInt8) 6 = ([198, 47, 225, 9, 247, 94, 237, 195, 204, 121, 57, 93, 132, 249, 207, 93] : List UInt8) := by
  rw [encN, st5]; decide +kernel
theorem st7 : encN ks0 tb0 ([0, 17, 34, 51, 68, 85, 102, 119, 136, 153, 170, 187, 204, 221, 238, 255] : List UInt8) 7 = ([209, 135, 108, 15, 121, 196, 48, 10, 180, 85, 148, 173, 214, 111, 244, 31] : List UInt8) := by
  rw [encN, st6]; decide +kernel
theorem st8 : encN ks0 tb0 ([0, 17, 34, 51, 68, 85, 102, 119, 136, 153, 170, 187, 204, 221, 238, 255] : List UInt8) 8 = ([253, 227, 186, 210, 5, 229, 208, 215, 53, 71, 150, 78, 241, 254, 55, 241] : List UInt8) := by
  rw [encN, st7]; decide +kernel
theorem st9 : encN ks0 tb0 ([0, 17, 34, 51, 68, 85, 102, 119, 136, 153, 170, 187, 204, 221, 238, 255] : List UInt8) 9 = ([189, 110, 124, 61, 242, 181, 119, 158, 11, 97, 33, 110, 139, 16, 182, 137] : List UInt8) := by
  rw [encN, st8]; decide +kernel
theorem st10 : encN ks0 tb0 ([0, 17, 34, 51, 68, 85, 102, 119, 136, 153, 170, 187, 204, 221, 238, 255] : List UInt8) 10 = ([105, 196, 224, 216, 106, 123, 4, 48, 216, 205, 183, 128, 112, 180, 197, 90] : List UInt8) := by
  rw [encN, st9]; decide +kernel
theorem enc0 : enc ([0, 1, 2, 3, 4, 5, 6, 7, 8, 9, 10, 11, 12, 13, 14, 15] : List UInt8) ([0, 17, 34, 51, 68, 85, 102, 119, 136, 153, 170, 187, 204, 221, 238, 255] : List UInt8) = ([105, 196, 224, 216, 106, 123, 4, 48, 216, 205, 183, 128, 112, 180, 197, 90] : List UInt8) := by rw [enc, tb0_eq, ks0_eq, st10]
theorem dg_hi : ∀ x : UInt8, (x / 16).toNat < 16 := all8 (by decide +kernel)
theorem dg_lo : ∀ x : UInt8, (x % 16).toNat < 16 := all8 (by decide +kernel)
theorem dg_at : ∀ n : Nat, n < 16 → ([48, 49, 50, 51, 52, 53, 54, 55, 56, 57, 97, 98, 99, 100, 101, 102] : List UInt8).getD n 0 = Go.Wr.hdg (UInt8.ofNat n) := by decide +kernel
theorem dg_at' (x : UInt8) (h : x.toNat < 16) : ([48, 49, 50, 51, 52, 53, 54, 55, 56, 57, 97, 98, 99, 100, 101, 102] : List UInt8).getD x.toNat 0 = Go.Wr.hdg x := by
  have := dg_at x.toNat h
  simpa using this
theorem hex_step {bs : List UInt8} {k : Nat} (hk : k < bs.length) : Go.Wr.hexL (bs.take k) ++ ([([48, 49, 50, 51, 52, 53, 54, 55, 56, 57, 97, 98, 99, 100, 101, 102] : List UInt8).getD (bs.getD k 0 / 16).toNat 0, ([48, 49, 50, 51, 52, 53, 54, 55, 56, 57, 97, 98, 99, 100, 101, 102] : List UInt8).getD (bs.getD k 0 % 16).toNat 0] : List UInt8) = Go.Wr.hexL (bs.take (k + 1)) := by
  rw [dg_at' _ (dg_hi _), dg_at' _ (dg_lo _), take_snoc bs k 0 hk, Go.Wr.hexL_app]; rfl
theorem c_HexR (a : Option Addr) (n cap : Nat) (bs : List UInt8) (hl : bs.length = n) (hn : n ≤ 1099511627776) (w : World) (hv : View w a (bs.map vu8)) :
    Cs Try.prog 47 [(.slice a n cap)].toArray w (fun v w1 => v = .string (bstr (Go.Wr.hexL bs)) ∧ Chg w w1 []) := by
  refine Cs.of (n := 28) (args := [(.slice a n cap)]) Try.func47 rfl rfl rfl ?_
  have h_0 := HP.init w
  have h_00 := h_0.old (View.arg hv) (fun f hf => by cases hf)
  refine WP.seq ?_
  refine WP.reg ?_
  refine WL.q (Wn.no rfl) rfl rfl (R.assign (v := (.string (bstr ([] : List UInt8)))) rfl) ?_
  refine WL.nil ?_
  refine thn_n ?_
  refine WP.seq ?_
  refine WP.reg ?_
  refine WL.q (Wn.no rfl) rfl rfl (R.assign (v := (.slice none 0 0)) rfl) ?_
  refine WL.nil ?_
  refine thn_n ?_
  refine WP.seq ?_
  refine WP.seq ?_
  refine WP.reg ?_
  refine WL.q (Wn.no rfl) rfl rfl (R.assign (v := (vi 0)) rfl) ?_
  refine WL.nil ?_
  refine thn_n ?_
  refine WP.block ?_
  have h_1 := h_00.rowNil 5 1
  refine WP.loopG (G := Nat × Option Addr × Nat) [3, 4, 5, 6, 7, 8, 9, 10, 11, 12, 13, 14, 15, 16, 17, 18, 19, 20, 21, 22, 23, 24, 25] (fun (k, ra, rc) => [(3, (.slice ra (2 * k) rc)), (4, (vi ((k : Nat) : Int)))]) (fun (k, ra, rc) m w1 => HP w w1 [.row ra (2 * k) rc 5 1 ((Go.Wr.hexL (bs.take k)).map vu8), .view a (bs.map vu8)] ∧ (k ≤ n) ∧ m = n - k) ⟨(0, none, 0), _, ⟨rfl, rfl, trivial⟩, h_1, Nat.zero_le _, rfl⟩ ?_
  rintro ⟨k, ra, rc⟩ m_4 J_5 w_2 ⟨h_3, hk, rfl⟩
  refine WP.seq ?_
  refine WP.seq ?_
  refine WP.reg ?_
  refine WL.q (Wn.no rfl) rfl rfl (R.move (v := (vi ((k : Nat) : Int))) rfl) ?_
  refine WL.q (Wn.no rfl) rfl rfl (R.move (v := (.slice a n cap)) rfl) ?_
  refine WL.q (Wn.no rfl) rfl rfl (R.lenS (a := a) (m := n) rfl rfl Try.underlying23) ?_
  refine WL.q (Wn.no rfl) rfl rfl (R.bin (v := (.bool (decide ((((k : Nat) : Int) : Int) < ((n : Nat) : Int))))) rfl rfl (bi_lss (r := decide ((((k : Nat) : Int) : Int) < ((n : Nat) : Int))) rfl)) ?_
  refine WL.nil ?_
  refine thn_n ?_
  refine WP.cond (b := decide ((((k : Nat) : Int) : Int) < ((n : Nat) : Int))) rfl (fun c_6 => ?_) (fun c_6 => ?_)
  · have p_7 := of_decide_eq_true c_6
    refine WP.skip ?_
    refine thn_n ?_
    refine WP.seq ?_
    refine WP.block ?_
    refine WP.drawT (SL w.heap.size [.view a (bs.map vu8)]) (.q 0 (.q 1 (.q 2 (.q 3 (.q 4 (.q 5 (.q 6 (.q 7 (.q 8 (.q 9 (.q 10 (.q 11 (.q 12 (.s 13 (.s 14 (.q 15 .nil)))))))))))))))) (by kernel_rfl) (by kernel_rfl) rfl (by kernel_rfl) (fun w_8 hc_10 => (SL.cons ((h_3.same hc_10).ok _ (.tail _ (.head _))) (SL.nil _ _))) (fun w_8 hc_10 => ?_)
    have h_9 := h_3.same hc_10
    refine WT.q rfl (Wn.no rfl) rfl rfl (fun wq hS => R.move (v := (.slice ra (2 * k) rc)) rfl) ?_
    refine WT.q rfl (Wn.no rfl) rfl rfl (fun wq hS => R.move (v := (.slice a n cap)) rfl) ?_
    refine WT.q rfl (Wn.no rfl) rfl rfl (fun wq hS => R.move (v := (vi ((k : Nat) : Int))) rfl) ?_
    refine WT.q rfl (Wn.no rfl) rfl rfl (fun wq hS => R.indexS (a := a) (i := k) (off := k) (xs := bs.map vu8) rfl rfl rfl (by omega) (viewV (hS _ (.head _))) (by simp only [List.length_map]; omega) Try.underlying23 Try.sizeOf5 (Nat.mul_one _).symm) ?_
    refine WT.q rfl (Wn.no rfl) rfl rfl (fun wq hS => R.loadG (a := a) (i := k) (xs := bs.map vu8) (v := (vu8 (bs.getD k 0))) rfl (viewV (hS _ (.head _))) Try.isAgg5 (get_u8 (by omega))) ?_
    refine WT.q rfl (Wn.no rfl) rfl rfl (fun wq hS => R.bin (v := (vu8 ((bs.getD k 0) / 16))) rfl rfl (b8_quo (bs.getD k 0) 16 (by decide))) ?_
    refine WT.q rfl (Wn.no rfl) rfl rfl (fun wq hS => R.indexStrL (l := ([48, 49, 50, 51, 52, 53, 54, 55, 56, 57, 97, 98, 99, 100, 101, 102] : List UInt8)) (i := ((bs.getD k 0) / 16).toNat) rfl rfl rfl (dg_hi _) Try.underlying9) ?_
    refine WT.q rfl (Wn.no rfl) rfl rfl (fun wq hS => R.move (v := (.slice a n cap)) rfl) ?_
    refine WT.q rfl (Wn.no rfl) rfl rfl (fun wq hS => R.move (v := (vi ((k : Nat) : Int))) rfl) ?_
    refine WT.q rfl (Wn.no rfl) rfl rfl (fun wq hS => R.indexS (a := a) (i := k) (off := k) (xs := bs.map vu8) rfl rfl rfl (by omega) (viewV (hS _ (.head _))) (by simp only [List.length_map]; omega) Try.underlying23 Try.sizeOf5 (Nat.mul_one _).symm) ?_
    refine WT.q rfl (Wn.no rfl) rfl rfl (fun wq hS => R.loadG (a := a) (i := k) (xs := bs.map vu8) (v := (vu8 (bs.getD k 0))) rfl (viewV (hS _ (.head _))) Try.isAgg5 (get_u8 (by omega))) ?_
    refine WT.q rfl (Wn.no rfl) rfl rfl (fun wq hS => R.bin (v := (vu8 ((bs.getD k 0) % 16))) rfl rfl (b8_rem (bs.getD k 0) 16 (by decide))) ?_
    refine WT.q rfl (Wn.no rfl) rfl rfl (fun wq hS => R.indexStrL (l := ([48, 49, 50, 51, 52, 53, 54, 55, 56, 57, 97, 98, 99, 100, 101, 102] : List UInt8)) (i := ((bs.getD k 0) % 16).toNat) rfl rfl rfl (dg_lo _) Try.underlying9) ?_
    refine WT.s ?_
    refine Op1.one rfl (Wn.no rfl) ?_
    refine WL.buildSl (vs := [(0, (vu8 (([48, 49, 50, 51, 52, 53, 54, 55, 56, 57, 97, 98, 99, 100, 101, 102] : List UInt8).getD (((bs.getD k 0) / 16).toNat) 0))), (1, (vu8 (([48, 49, 50, 51, 52, 53, 54, 55, 56, 57, 97, 98, 99, 100, 101, 102] : List UInt8).getD (((bs.getD k 0) % 16).toNat) 0)))]) (cs := ([([48, 49, 50, 51, 52, 53, 54, 55, 56, 57, 97, 98, 99, 100, 101, 102] : List UInt8).getD (((bs.getD k 0) / 16).toNat) 0, ([48, 49, 50, 51, 52, 53, 54, 55, 56, 57, 97, 98, 99, 100, 101, 102] : List UInt8).getD (((bs.getD k 0) % 16).toNat) 0] : List UInt8).map vu8) h_9 Try.underlying23 Try.sizeOf5 (zv Try.typeInfo5 rfl) rfl rfl (by kernel_rfl) rfl (one_u8 _) rfl rfl (fun b_11 w_12 h_13 => ?_)
    refine WL.nil ?_
    refine ⟨(SL.cons (h_13.ok _ (.tail _ (.tail _ (.head _)))) (SL.nil _ _)), ?_⟩
    refine WT.s ?_
    refine Op1.one rfl (Wn.no rfl) ?_
    refine WL.append (km := 2 * k + 2) (xs := (Go.Wr.hexL (bs.take k)).map vu8) (ys := ([([48, 49, 50, 51, 52, 53, 54, 55, 56, 57, 97, 98, 99, 100, 101, 102] : List UInt8).getD (((bs.getD k 0) / 16).toNat) 0, ([48, 49, 50, 51, 52, 53, 54, 55, 56, 57, 97, 98, 99, 100, 101, 102] : List UInt8).getD (((bs.getD k 0) % 16).toNat) 0] : List UInt8).map vu8) (zs := ((Go.Wr.hexL (bs.take k)) ++ ([([48, 49, 50, 51, 52, 53, 54, 55, 56, 57, 97, 98, 99, 100, 101, 102] : List UInt8).getD (((bs.getD k 0) / 16).toNat) 0, ([48, 49, 50, 51, 52, 53, 54, 55, 56, 57, 97, 98, 99, 100, 101, 102] : List UInt8).getD (((bs.getD k 0) % 16).toNat) 0] : List UInt8)).map vu8) h_13 rfl rfl el23 (viewB (h_13.ok _ (.head _)) Sg.h) ((len_map (rfl : List.length ([([48, 49, 50, 51, 52, 53, 54, 55, 56, 57, 97, 98, 99, 100, 101, 102] : List UInt8).getD (((bs.getD k 0) / 16).toNat) 0, ([48, 49, 50, 51, 52, 53, 54, 55, 56, 57, 97, 98, 99, 100, 101, 102] : List UInt8).getD (((bs.getD k 0) % 16).toNat) 0] : List UInt8) = 2)).trans (Nat.mul_one _).symm) (one_u8 _) (by simp only [List.map_append, List.map_nil]) rfl (by omega) (by omega) (fun _ _ => (At.t At.h)) rfl (fun a_14 c_15 w_16 h_17 => ?_)
    refine WL.nil ?_
    refine ⟨(SL.cons (h_17.ok _ (.tail _ (.tail _ (.head _)))) (SL.nil _ _)), ?_⟩
    refine WT.q rfl (Wn.no rfl) rfl rfl (fun wq hS => R.assign (v := (.slice a_14 (2 * k + 2) c_15)) rfl) ?_
    refine WT.nil ?_
    refine inb_n ?_
    refine thn_n ?_
    refine WP.reg ?_
    refine WL.q (Wn.no rfl) rfl rfl (R.move (v := (vi ((k : Nat) : Int))) rfl) ?_
    refine WL.q (Wn.no rfl) rfl rfl (R.bin (v := (vi ((k + 1 : Nat) : Int))) rfl rfl (bi_add (c := ((k + 1 : Nat) : Int)) (by omega) (by omega))) ?_
    refine WL.q (Wn.no rfl) rfl rfl (R.assign (v := (vi ((k + 1 : Nat) : Int))) rfl) ?_
    refine WL.nil ?_
    refine thn_n ?_
    have h_18 := h_17.drop rfl
    rw [hex_step (by omega), show 2 * k + 2 = 2 * (k + 1) by omega] at h_18
    exact ⟨(k + 1, a_14, c_15), _, (by omega), (Ag.upd rfl (Ag.upd rfl (Ag.upd rfl (Ag.upd rfl (Ag.upd rfl (Ag.upd rfl (Ag.upd rfl (Ag.upd rfl (Ag.upd rfl (Ag.upd rfl (Ag.upd rfl (Ag.upd rfl (Ag.upd rfl (Ag.upd rfl (Ag.upd rfl (Ag.upd rfl (Ag.upd rfl (Ag.upd rfl (Ag.upd rfl (Ag.upd rfl (Ag.upd rfl (Ag.upd rfl (Ag.upd rfl (Ag.updL rfl (Ag.mix _ _ _))))))))))))))))))))))))), ⟨rfl, rfl, trivial⟩, h_18, (by omega), rfl⟩
  · have p_19 := of_decide_eq_false c_6
    refine WP.exit ?_
    refine thn_x ?_
    refine thn_x ?_
    refine inb_hit ?_
    refine thn_n ?_
    refine WP.seq ?_
    refine WP.reg ?_
    refine WL.q (Wn.no rfl) rfl rfl (R.move (v := (.slice ra (2 * k) rc)) rfl) ?_
    refine WL.q (Wn.no rfl) rfl rfl (R.toStr (bs := Go.Wr.hexL (bs.take k)) rfl Try.underlying23 Try.underlying5 Try.underlying9 (ownView (h_3.ok _ (.head _))) (by rw [Go.Wr.hexL_len, List.length_take]; omega)) ?_
    refine WL.q (Wn.no rfl) rfl rfl (R.assign (v := (.string (bstr (Go.Wr.hexL (bs.take k))))) rfl) ?_
    refine WL.nil ?_
    refine thn_n ?_
    refine WP.ret ?_
    refine ret_of Try.results47 (RV.tmp (v := (.string (bstr (Go.Wr.hexL (bs.take k))))) rfl RV.nil) ?_
    have hkn : k = n := by omega
    exact ⟨by rw [hkn, List.take_of_length_le (by omega)]; rfl, h_3.chgS⟩

theorem c_Stream_e1 (key nonce : List UInt8) (hkey : key.length = 16) (hno : nonce.length = 8) (n : Int) (h : n < 0) (w : World) :
    Cs Try.prog 53 [(.agg ⟨key.map vu8⟩), (.agg ⟨nonce.map vu8⟩), (vi n)].toArray w (fun v w1 => v = (.tuple [(.slice none 0 0), (vi 2)].toArray) ∧ Chg w w1 []) := by
  refine Cs.of (n := 49) (args := [(.agg ⟨key.map vu8⟩), (.agg ⟨nonce.map vu8⟩), (vi n)]) Try.func53 rfl rfl rfl ?_
  have h_0 := HP.init w
  refine WP.seq ?_
  refine WP.reg ?_
  refine WL.box (v := (.agg ⟨key.map vu8⟩)) (segs := [(16, key.map vu8)]) h_0 rfl rfl (SsOk.cons (SOk.u8 hkey) SsOk.nil) rfl (fun b_1 w_2 h_3 => ?_)
  refine WL.box (v := (.agg ⟨nonce.map vu8⟩)) (segs := [(8, nonce.map vu8)]) h_3 rfl rfl (SsOk.cons (SOk.u8 hno) SsOk.nil) rfl (fun b_4 w_5 h_6 => ?_)
  refine WL.q (Wn.no rfl) rfl rfl (R.assign (v := (.slice none 0 0)) rfl) ?_
  refine WL.q (Wn.no rfl) rfl rfl (R.assign (v := (vi 0)) rfl) ?_
  refine WL.nil ?_
  refine thn_n ?_
  refine WP.seq ?_
  refine WP.seq ?_
  refine WP.reg ?_
  refine WL.q (Wn.no rfl) rfl rfl (R.move (v := (vi n)) rfl) ?_
  refine WL.q (Wn.no rfl) rfl rfl (R.bin (v := (.bool (decide ((n : Int) < 0)))) rfl rfl (bi_lss (r := decide ((n : Int) < 0)) rfl)) ?_
  refine WL.q (Wn.no rfl) rfl rfl (R.move (v := (.bool (decide ((n : Int) < 0)))) rfl) ?_
  refine WL.skip rfl (congrArg Value.bool (decide_eq_true h)) rfl ?_
  refine WL.skip rfl (congrArg Value.bool (decide_eq_true h)) rfl ?_
  refine WL.q (Wn.no rfl) rfl rfl (R.pickT (v := (.bool true)) (congrArg Value.bool (decide_eq_true h)) rfl) ?_
  refine WL.nil ?_
  refine thn_n ?_
  refine WP.condT rfl ?_
  refine WP.seq ?_
  refine WP.reg ?_
  refine WL.q (Wn.no rfl) rfl rfl (R.assign (v := (.slice none 0 0)) rfl) ?_
  refine WL.q (Wn.no rfl) rfl rfl (R.assign (v := (vi 2)) rfl) ?_
  refine WL.nil ?_
  refine thn_n ?_
  refine WP.ret ?_
  refine thn_r ?_
  refine ret_of Try.results53 (RV.tmp (v := (.slice none 0 0)) rfl (RV.tmp (v := (vi 2)) rfl RV.nil)) ?_
  exact ⟨rfl, h_6.chgS⟩

theorem c_Stream_e2 (key nonce : List UInt8) (hkey : key.length = 16) (hno : nonce.length = 8) (n : Int) (h : n > 1048576) (w : World) :
    Cs Try.prog 53 [(.agg ⟨key.map vu8⟩), (.agg ⟨nonce.map vu8⟩), (vi n)].toArray w (fun v w1 => v = (.tuple [(.slice none 0 0), (vi 2)].toArray) ∧ Chg w w1 []) := by
  refine Cs.of (n := 49) (args := [(.agg ⟨key.map vu8⟩), (.agg ⟨nonce.map vu8⟩), (vi n)]) Try.func53 rfl rfl rfl ?_
  have h_0 := HP.init w
  refine WP.seq ?_
  refine WP.reg ?_
  refine WL.box (v := (.agg ⟨key.map vu8⟩)) (segs := [(16, key.map vu8)]) h_0 rfl rfl (SsOk.cons (SOk.u8 hkey) SsOk.nil) rfl (fun b_1 w_2 h_3 => ?_)
  refine WL.box (v := (.agg ⟨nonce.map vu8⟩)) (segs := [(8, nonce.map vu8)]) h_3 rfl rfl (SsOk.cons (SOk.u8 hno) SsOk.nil) rfl (fun b_4 w_5 h_6 => ?_)
  refine WL.q (Wn.no rfl) rfl rfl (R.assign (v := (.slice none 0 0)) rfl) ?_
  refine WL.q (Wn.no rfl) rfl rfl (R.assign (v := (vi 0)) rfl) ?_
  refine WL.nil ?_
  refine thn_n ?_
  refine WP.seq ?_
  refine WP.seq ?_
  refine WP.reg ?_
  refine WL.q (Wn.no rfl) rfl rfl (R.move (v := (vi n)) rfl) ?_
  refine WL.q (Wn.no rfl) rfl rfl (R.bin (v := (.bool (decide ((n : Int) < 0)))) rfl rfl (bi_lss (r := decide ((n : Int) < 0)) rfl)) ?_
  refine WL.q (Wn.no rfl) rfl rfl (R.move (v := (.bool (decide ((n : Int) < 0)))) rfl) ?_
  refine WL.want rfl (congrArg Value.bool (decide_eq_false (by omega))) ?_
  refine WL.q (Wn.no rfl) rfl rfl (R.move (v := (vi n)) rfl) ?_
  refine WL.want rfl (congrArg Value.bool (decide_eq_false (by omega))) ?_
  refine WL.q (Wn.no rfl) rfl rfl (R.bin (v := (.bool (decide ((n : Int) > 1048576)))) rfl rfl (bi_gtr (r := decide ((n : Int) > 1048576)) rfl)) ?_
  refine WL.q (Wn.no rfl) rfl rfl (R.pickF (v := (.bool (decide ((n : Int) > 1048576)))) (congrArg Value.bool (decide_eq_false (by omega))) rfl) ?_
  refine WL.nil ?_
  refine thn_n ?_
  refine WP.condT (congrArg Value.bool (decide_eq_true h)) ?_
  refine WP.seq ?_
  refine WP.reg ?_
  refine WL.q (Wn.no rfl) rfl rfl (R.assign (v := (.slice none 0 0)) rfl) ?_
  refine WL.q (Wn.no rfl) rfl rfl (R.assign (v := (vi 2)) rfl) ?_
  refine WL.nil ?_
  refine thn_n ?_
  refine WP.ret ?_
  refine thn_r ?_
  refine ret_of Try.results53 (RV.tmp (v := (.slice none 0 0)) rfl (RV.tmp (v := (vi 2)) rfl RV.nil)) ?_
  exact ⟨rfl, h_6.chgS⟩

theorem c_Stream_0 (key nonce : List UInt8) (hkey : key.length = 16) (hno : nonce.length = 8) (w : World) :
    Cs Try.prog 53 [(.agg ⟨key.map vu8⟩), (.agg ⟨nonce.map vu8⟩), (vi 0)].toArray w (fun v w1 => v = (.tuple [(.slice none 0 0), (vi 0)].toArray) ∧ Chg w w1 []) := by
  refine Cs.of (n := 49) (args := [(.agg ⟨key.map vu8⟩), (.agg ⟨nonce.map vu8⟩), (vi 0)]) Try.func53 rfl rfl rfl ?_
  have h_0 := HP.init w
  refine WP.seq ?_
  refine WP.reg ?_
  refine WL.box (v := (.agg ⟨key.map vu8⟩)) (segs := [(16, key.map vu8)]) h_0 rfl rfl (SsOk.cons (SOk.u8 hkey) SsOk.nil) rfl (fun b_1 w_2 h_3 => ?_)
  refine WL.box (v := (.agg ⟨nonce.map vu8⟩)) (segs := [(8, nonce.map vu8)]) h_3 rfl rfl (SsOk.cons (SOk.u8 hno) SsOk.nil) rfl (fun b_4 w_5 h_6 => ?_)
  refine WL.q (Wn.no rfl) rfl rfl (R.assign (v := (.slice none 0 0)) rfl) ?_
  refine WL.q (Wn.no rfl) rfl rfl (R.assign (v := (vi 0)) rfl) ?_
  refine WL.nil ?_
  refine thn_n ?_
  refine WP.seq ?_
  refine WP.seq ?_
  refine WP.reg ?_
  refine WL.q (Wn.no rfl) rfl rfl (R.move (v := (vi 0)) rfl) ?_
  refine WL.q (Wn.no rfl) rfl rfl (R.bin (v := (.bool false)) rfl rfl (bi_lss (r := false) (by decide))) ?_
  refine WL.q (Wn.no rfl) rfl rfl (R.move (v := (.bool false)) rfl) ?_
  refine WL.want rfl rfl ?_
  refine WL.q (Wn.no rfl) rfl rfl (R.move (v := (vi 0)) rfl) ?_
  refine WL.want rfl rfl ?_
  refine WL.q (Wn.no rfl) rfl rfl (R.bin (v := (.bool false)) rfl rfl (bi_gtr (r := false) (by decide))) ?_
  refine WL.q (Wn.no rfl) rfl rfl (R.pickF (v := (.bool false)) rfl rfl) ?_
  refine WL.nil ?_
  refine thn_n ?_
  refine WP.condF rfl ?_
  refine WP.skip ?_
  refine thn_n ?_
  refine WP.seq ?_
  refine WP.reg ?_
  refine WL.q (Wn.no rfl) rfl rfl (R.loadA (b := b_1) (off := 0) [] [(16, key.map vu8)] [] (cs := key.map vu8) rfl Try.isAgg66 Try.sizeOf66 (h_6.ok _ (.tail _ (.head _))) rfl rfl rfl rfl) ?_
  refine WL.call (al := [(.agg ⟨key.map vu8⟩)]) Try.call80 rfl rfl (c_open key hkey _) rfl ?_
  rintro _ w_8 ⟨b_7, rfl, hc_9, hb_10, hk_11⟩
  have h_12 := HP.gotBlk (segs := [(176, (keysL (tabL sub) key).map vu8), (256, (tabL sub).map vu8)]) h_6 hc_9 hb_10 (SsOk.cons (SOk.u8 (keysL_len ..)) (SsOk.cons (SOk.u8 (tabL_len ..)) SsOk.nil)) hk_11
  refine WL.q (Wn.no rfl) rfl rfl (R.assign (v := (.pointer (some ⟨b_7, 0, none⟩))) rfl) ?_
  refine WL.nil ?_
  refine thn_n ?_
  refine WP.seq ?_
  refine WP.reg ?_
  refine WL.q (Wn.no rfl) rfl rfl (R.assign (v := (.slice none 0 0)) rfl) ?_
  refine WL.nil ?_
  refine thn_n ?_
  refine WP.seq ?_
  refine WP.seq ?_
  refine WP.reg ?_
  refine WL.q (Wn.no rfl) rfl rfl (R.assign (v := (vu64 0)) rfl) ?_
  refine WL.nil ?_
  refine thn_n ?_
  refine WP.block ?_
  refine WP.loopU (WI.round ?_)
  refine WP.seq ?_
  refine WP.seq ?_
  refine WP.reg ?_
  refine WL.q (Wn.no rfl) rfl rfl (R.move (v := (.slice none 0 0)) rfl) ?_
  refine WL.q (Wn.no rfl) rfl rfl (R.lenS (a := none) (m := 0) rfl rfl Try.underlying23) ?_
  refine WL.q (Wn.no rfl) rfl rfl (R.move (v := (vi 0)) rfl) ?_
  refine WL.q (Wn.no rfl) rfl rfl (R.bin (v := (.bool false)) rfl rfl (bi_lss (r := false) (by decide))) ?_
  refine WL.nil ?_
  refine thn_n ?_
  refine WP.condF rfl ?_
  refine WP.exit ?_
  refine thn_x ?_
  refine thn_x ?_
  refine inb_hit ?_
  refine thn_n ?_
  refine WP.seq ?_
  refine WP.reg ?_
  refine WL.q (Wn.no rfl) rfl rfl (R.move (v := (.slice none 0 0)) rfl) ?_
  refine WL.q (Wn.no rfl) rfl rfl (R.move (v := (vi 0)) rfl) ?_
  refine WL.q (Wn.no rfl) rfl rfl (R.move (v := (vi 0)) rfl) ?_
  refine WL.q (Wn.no rfl) rfl rfl (R.sliceS3 (a := none) (len := 0) (l := 0) (h := 0) (m := 0) rfl EvB.dflt rfl rfl rfl rfl (by decide) (by decide) (by omega) Try.underlying23 Try.sizeOf5) ?_
  refine WL.q (Wn.no rfl) rfl rfl (R.assign (v := (.slice (slA none 0 0 1) (0 - 0) (0 - 0))) rfl) ?_
  refine WL.q (Wn.no rfl) rfl rfl (R.assign (v := (vi 0)) rfl) ?_
  refine WL.nil ?_
  refine thn_n ?_
  refine WP.ret ?_
  refine ret_of Try.results53 (RV.tmp (v := (.slice (slA none 0 0 1) (0 - 0) (0 - 0))) rfl (RV.tmp (v := (vi 0)) rfl RV.nil)) ?_
  exact ⟨rfl, h_12.chgS⟩

theorem c_num4 (e : Int) (be : -9223372036854775808 ≤ e ∧ e < 9223372036854775808) (w : World) :
    Cs Try.prog 54 [(vi e)].toArray w (fun v w1 => v = vi e ∧ Chg w w1 []) := by
  refine Cs.of (n := 4) (args := [(vi e)]) Try.func54 rfl rfl rfl ?_
  have h_0 := HP.init w
  refine WP.seq ?_
  refine WP.reg ?_
  refine WL.q (Wn.no rfl) rfl rfl (R.assign (v := (vi 0)) rfl) ?_
  refine WL.nil ?_
  refine thn_n ?_
  refine WP.seq ?_
  refine WP.reg ?_
  refine WL.q (Wn.no rfl) rfl rfl (R.move (v := (vi e)) rfl) ?_
  refine WL.q (Wn.no rfl) rfl rfl (R.assign (v := (vi e)) rfl) ?_
  refine WL.nil ?_
  refine thn_n ?_
  refine WP.ret ?_
  refine ret_of Try.results54 (RV.tmp (v := (vi e)) rfl RV.nil) ?_
  exact ⟨rfl, h_0.chgS⟩

theorem c_known4  (w : World) :
    Cs Try.prog 43 [].toArray w (fun v w1 => v = .bool true ∧ Chg w w1 []) := by
  refine Cs.of (n := 75) (args := []) Try.func43 rfl rfl rfl ?_
  have h_0 := HP.init w
  refine WP.seq ?_
  refine WP.reg ?_
  refine WL.q (Wn.no rfl) rfl rfl (R.assign (v := (.bool false)) rfl) ?_
  refine WL.nil ?_
  refine thn_n ?_
  refine WP.seq ?_
  refine WP.reg ?_
  refine WL.alloc (segs := [(16, (List.replicate 16 (0 : UInt8)).map vu8)]) h_0 (zv Try.typeInfo66 rfl) rfl (SsOk.cons (SOk.u8 (List.length_replicate ..)) SsOk.nil) rfl (fun b_1 w_2 h_3 => ?_)
  refine WL.alloc (segs := [(16, (List.replicate 16 (0 : UInt8)).map vu8)]) h_3 (zv Try.typeInfo66 rfl) rfl (SsOk.cons (SOk.u8 (List.length_replicate ..)) SsOk.nil) rfl (fun b_4 w_5 h_6 => ?_)
  refine WL.nil ?_
  refine thn_n ?_
  refine WP.seq ?_
  refine WP.seq ?_
  refine WP.reg ?_
  refine WL.q (Wn.no rfl) rfl rfl (R.assign (v := (vi 0)) rfl) ?_
  refine WL.nil ?_
  refine thn_n ?_
  refine WP.block ?_
  refine WP.loopU (WI.round ?_)
  refine WP.seq ?_
  refine WP.seq ?_
  refine WP.reg ?_
  refine WL.q (Wn.no rfl) rfl rfl (R.move (v := (vi 0)) rfl) ?_
  refine WL.q (Wn.no rfl) rfl rfl (R.bin (v := (.bool true)) rfl rfl (bi_lss (r := true) (by decide))) ?_
  refine WL.nil ?_
  refine thn_n ?_
  refine WP.condT rfl ?_
  refine WP.skip ?_
  refine thn_n ?_
  refine WP.seq ?_
  refine WP.block ?_
  refine WP.reg ?_
  refine WL.q (Wn.no rfl) rfl rfl (R.move (v := (vi 0)) rfl) ?_
  refine WL.q (Wn.no rfl) rfl rfl (R.move (v := (vi 0)) rfl) ?_
  refine WL.q (Wn.no rfl) rfl rfl (R.move (v := (vi 0)) rfl) ?_
  refine WL.q (Wn.no rfl) rfl rfl (R.conv (b := (0 : UInt8).toNat) rfl Try.underlying3 Try.underlying5 (by decide)) ?_
  refine WL.q (Wn.no rfl) rfl rfl (R.move (v := (vi 0)) rfl) ?_
  refine WL.q (Wn.no rfl) rfl rfl (R.bin (v := (vi 0)) rfl rfl (bi_mul (c := 0) (by omega) (by omega))) ?_
  refine WL.q (Wn.no rfl) rfl rfl (R.conv (b := (0 : UInt8).toNat) rfl Try.underlying3 Try.underlying5 (by decide)) ?_
  refine WL.q (Wn.no rfl) rfl rfl (R.indexA (b := b_1) (off := 0) (off' := 0) (i := 0) rfl rfl rfl (by decide) Try.underlying66 Try.sizeOf5 rfl) ?_
  refine WL.storeE (b := b_1) (off := 0) (i := 0) (v := (vu8 0)) (cs' := ([0, 0, 0, 0, 0, 0, 0, 0, 0, 0, 0, 0, 0, 0, 0, 0] : List UInt8).map vu8) h_6 rfl rfl Try.sizeOf5 rfl (At.t At.h) (by decide) Sg.h rfl (lt_len (K := 16) (len_map (List.length_replicate ..)) (by decide)) ((set_u8 _ _ _).trans rfl) (fun w_7 h_8 => ?_)
  refine WL.q (Wn.no rfl) rfl rfl (R.indexA (b := b_4) (off := 0) (off' := 0) (i := 0) rfl rfl rfl (by decide) Try.underlying66 Try.sizeOf5 rfl) ?_
  refine WL.storeE (b := b_4) (off := 0) (i := 0) (v := (vu8 0)) (cs' := ([0, 0, 0, 0, 0, 0, 0, 0, 0, 0, 0, 0, 0, 0, 0, 0] : List UInt8).map vu8) h_8 rfl rfl Try.sizeOf5 rfl At.h (by decide) Sg.h rfl (lt_len (K := 16) (len_map (List.length_replicate ..)) (by decide)) ((set_u8 _ _ _).trans rfl) (fun w_9 h_10 => ?_)
  refine WL.nil ?_
  refine inb_n ?_
  refine thn_n ?_
  refine WP.reg ?_
  refine WL.q (Wn.no rfl) rfl rfl (R.move (v := (vi 0)) rfl) ?_
  refine WL.q (Wn.no rfl) rfl rfl (R.bin (v := (vi 1)) rfl rfl (bi_add (c := 1) (by omega) (by omega))) ?_
  refine WL.q (Wn.no rfl) rfl rfl (R.assign (v := (vi 1)) rfl) ?_
  refine WL.nil ?_
  refine thn_n ?_
  refine WI.round ?_
  refine WP.seq ?_
  refine WP.seq ?_
  refine WP.reg ?_
  refine WL.q (Wn.no rfl) rfl rfl (R.move (v := (vi 1)) rfl) ?_
  refine WL.q (Wn.no rfl) rfl rfl (R.bin (v := (.bool true)) rfl rfl (bi_lss (r := true) (by decide))) ?_
  refine WL.nil ?_
  refine thn_n ?_
  refine WP.condT rfl ?_
  refine WP.skip ?_
  refine thn_n ?_
  refine WP.seq ?_
  refine WP.block ?_
  refine WP.reg ?_
  refine WL.q (Wn.no rfl) rfl rfl (R.move (v := (vi 1)) rfl) ?_
  refine WL.q (Wn.no rfl) rfl rfl (R.move (v := (vi 1)) rfl) ?_
  refine WL.q (Wn.no rfl) rfl rfl (R.move (v := (vi 1)) rfl) ?_
  refine WL.q (Wn.no rfl) rfl rfl (R.conv (b := (1 : UInt8).toNat) rfl Try.underlying3 Try.underlying5 (by decide)) ?_
  refine WL.q (Wn.no rfl) rfl rfl (R.move (v := (vi 1)) rfl) ?_
  refine WL.q (Wn.no rfl) rfl rfl (R.bin (v := (vi 17)) rfl rfl (bi_mul (c := 17) (by omega) (by omega))) ?_
  refine WL.q (Wn.no rfl) rfl rfl (R.conv (b := (17 : UInt8).toNat) rfl Try.underlying3 Try.underlying5 (by decide)) ?_
  refine WL.q (Wn.no rfl) rfl rfl (R.indexA (b := b_1) (off := 0) (off' := 1) (i := 1) rfl rfl rfl (by decide) Try.underlying66 Try.sizeOf5 rfl) ?_
  refine WL.storeE (b := b_1) (off := 1) (i := 1) (v := (vu8 1)) (cs' := ([0, 1, 0, 0, 0, 0, 0, 0, 0, 0, 0, 0, 0, 0, 0, 0] : List UInt8).map vu8) h_10 rfl rfl Try.sizeOf5 rfl (At.t At.h) (by decide) Sg.h rfl (lt_len (K := 16) (len_map (rfl : List.length ([0, 0, 0, 0, 0, 0, 0, 0, 0, 0, 0, 0, 0, 0, 0, 0] : List UInt8) = 16)) (by decide)) ((set_u8 _ _ _).trans rfl) (fun w_11 h_12 => ?_)
  refine WL.q (Wn.no rfl) rfl rfl (R.indexA (b := b_4) (off := 0) (off' := 1) (i := 1) rfl rfl rfl (by decide) Try.underlying66 Try.sizeOf5 rfl) ?_
  refine WL.storeE (b := b_4) (off := 1) (i := 1) (v := (vu8 17)) (cs' := ([0, 17, 0, 0, 0, 0, 0, 0, 0, 0, 0, 0, 0, 0, 0, 0] : List UInt8).map vu8) h_12 rfl rfl Try.sizeOf5 rfl At.h (by decide) Sg.h rfl (lt_len (K := 16) (len_map (rfl : List.length ([0, 0, 0, 0, 0, 0, 0, 0, 0, 0, 0, 0, 0, 0, 0, 0] : List UInt8) = 16)) (by decide)) ((set_u8 _ _ _).trans rfl) (fun w_13 h_14 => ?_)
  refine WL.nil ?_
  refine inb_n ?_
  refine thn_n ?_
  refine WP.reg ?_
  refine WL.q (Wn.no rfl) rfl rfl (R.move (v := (vi 1)) rfl) ?_
  refine WL.q (Wn.no rfl) rfl rfl (R.bin (v := (vi 2)) rfl rfl (bi_add (c := 2) (by omega) (by omega))) ?_
  refine WL.q (Wn.no rfl) rfl rfl (R.assign (v := (vi 2)) rfl) ?_
  refine WL.nil ?_
  refine thn_n ?_
  refine WI.round ?_
  refine WP.seq ?_
  refine WP.seq ?_
  refine WP.reg ?_
  refine WL.q (Wn.no rfl) rfl rfl (R.move (v := (vi 2)) rfl) ?_
  refine WL.q (Wn.no rfl) rfl rfl (R.bin (v := (.bool true)) rfl rfl (bi_lss (r := true) (by decide))) ?_
  refine WL.nil ?_
  refine thn_n ?_
  refine WP.condT rfl ?_
  refine WP.skip ?_
  refine thn_n ?_
  refine WP.seq ?_
  refine WP.block ?_
  refine WP.reg ?_
  refine WL.q (Wn.no rfl) rfl rfl (R.move (v := (vi 2)) rfl) ?_
  refine WL.q (Wn.no rfl) rfl rfl (R.move (v := (vi 2)) rfl) ?_
  refine WL.q (Wn.no rfl) rfl rfl (R.move (v := (vi 2)) rfl) ?_
  refine WL.q (Wn.no rfl) rfl rfl (R.conv (b := (2 : UInt8).toNat) rfl Try.underlying3 Try.underlying5 (by decide)) ?_
  refine WL.q (Wn.no rfl) rfl rfl (R.move (v := (vi 2)) rfl) ?_
  refine WL.q (Wn.no rfl) rfl rfl (R.bin (v := (vi 34)) rfl rfl (bi_mul (c := 34) (by omega) (by omega))) ?_
  refine WL.q (Wn.no rfl) rfl rfl (R.conv (b := (34 : UInt8).toNat) rfl Try.underlying3 Try.underlying5 (by decide)) ?_
  refine WL.q (Wn.no rfl) rfl rfl (R.indexA (b := b_1) (off := 0) (off' := 2) (i := 2) rfl rfl rfl (by decide) Try.underlying66 Try.sizeOf5 rfl) ?_
  refine WL.storeE (b := b_1) (off := 2) (i := 2) (v := (vu8 2)) (cs' := ([0, 1, 2, 0, 0, 0, 0, 0, 0, 0, 0, 0, 0, 0, 0, 0] : List UInt8).map vu8) h_14 rfl rfl Try.sizeOf5 rfl (At.t At.h) (by decide) Sg.h rfl (lt_len (K := 16) (len_map (rfl : List.length ([0, 1, 0, 0, 0, 0, 0, 0, 0, 0, 0, 0, 0, 0, 0, 0] : List UInt8) = 16)) (by decide)) ((set_u8 _ _ _).trans rfl) (fun w_15 h_16 => ?_)
  refine WL.q (Wn.no rfl) rfl rfl (R.indexA (b := b_4) (off := 0) (off' := 2) (i := 2) rfl rfl rfl (by decide) Try.underlying66 Try.sizeOf5 rfl) ?_
  refine WL.storeE (b := b_4) (off := 2) (i := 2) (v := (vu8 34)) (cs' := ([0, 17, 34, 0, 0, 0, 0, 0, 0, 0, 0, 0, 0, 0, 0, 0] : List UInt8).map vu8) h_16 rfl rfl Try.sizeOf5 rfl At.h (by decide) Sg.h rfl (lt_len (K := 16) (len_map (rfl : List.length ([0, 17, 0, 0, 0, 0, 0, 0, 0, 0, 0, 0, 0, 0, 0, 0] : List UInt8) = 16)) (by decide)) ((set_u8 _ _ _).trans rfl) (fun w_17 h_18 => ?_)
  refine WL.nil ?_
  refine inb_n ?_
  refine thn_n ?_
  refine WP.reg ?_
  refine WL.q (Wn.no rfl) rfl rfl (R.move (v := (vi 2)) rfl) ?_
  refine WL.q (Wn.no rfl) rfl rfl (R.bin (v := (vi 3)) rfl rfl (bi_add (c := 3) (by omega) (by omega))) ?_
  refine WL.q (Wn.no rfl) rfl rfl (R.assign (v := (vi 3)) rfl) ?_
  refine WL.nil ?_
  refine thn_n ?_
  refine WI.round ?_
  refine WP.seq ?_
  refine WP.seq ?_
  refine WP.reg ?_
  refine WL.q (Wn.no rfl) rfl rfl (R.move (v := (vi 3)) rfl) ?_
  refine WL.q (Wn.no rfl) rfl rfl (R.bin (v := (.bool true)) rfl rfl (bi_lss (r := true) (by decide))) ?_
  refine WL.nil ?_
  refine thn_n ?_
  refine WP.condT rfl ?_
  refine WP.skip ?_
  refine thn_n ?_
  refine WP.seq ?_
  refine WP.block ?_
  refine WP.reg ?_
  refine WL.q (Wn.no rfl) rfl rfl (R.move (v := (vi 3)) rfl) ?_
  refine WL.q (Wn.no rfl) rfl rfl (R.move (v := (vi 3)) rfl) ?_
  refine WL.q (Wn.no rfl) rfl rfl (R.move (v := (vi 3)) rfl) ?_
  refine WL.q (Wn.no rfl) rfl rfl (R.conv (b := (3 : UInt8).toNat) rfl Try.underlying3 Try.underlying5 (by decide)) ?_
  refine WL.q (Wn.no rfl) rfl rfl (R.move (v := (vi 3)) rfl) ?_
  refine WL.q (Wn.no rfl) rfl rfl (R.bin (v := (vi 51)) rfl rfl (bi_mul (c := 51) (by omega) (by omega))) ?_
  refine WL.q (Wn.no rfl) rfl rfl (R.conv (b := (51 : UInt8).toNat) rfl Try.underlying3 Try.underlying5 (by decide)) ?_
  refine WL.q (Wn.no rfl) rfl rfl (R.indexA (b := b_1) (off := 0) (off' := 3) (i := 3) rfl rfl rfl (by decide) Try.underlying66 Try.sizeOf5 rfl) ?_
  refine WL.storeE (b := b_1) (off := 3) (i := 3) (v := (vu8 3)) (cs' := ([0, 1, 2, 3, 0, 0, 0, 0, 0, 0, 0, 0, 0, 0, 0, 0] : List UInt8).map vu8) h_18 rfl rfl Try.sizeOf5 rfl (At.t At.h) (by decide) Sg.h rfl (lt_len (K := 16) (len_map (rfl : List.length ([0, 1, 2, 0, 0, 0, 0, 0, 0, 0, 0, 0, 0, 0, 0, 0] : List UInt8) = 16)) (by decide)) ((set_u8 _ _ _).trans rfl) (fun w_19 h_20 => ?_)
  refine WL.q (Wn.no rfl) rfl rfl (R.indexA (b := b_4) (off := 0) (off' := 3) (i := 3) rfl rfl rfl (by decide) Try.underlying66 Try.sizeOf5 rfl) ?_
  refine WL.storeE (b := b_4) (off := 3) (i := 3) (v := (vu8 51)) (cs' := ([0, 17, 34, 51, 0, 0, 0, 0, 0, 0, 0, 0, 0, 0, 0, 0] : List UInt8).map vu8) h_20 rfl rfl Try.sizeOf5 rfl At.h (by decide) Sg.h rfl (lt_len (K := 16) (len_map (rfl : List.length ([0, 17, 34, 0, 0, 0, 0, 0, 0, 0, 0, 0, 0, 0, 0, 0] : List UInt8) = 16)) (by decide)) ((set_u8 _ _ _).trans rfl) (fun w_21 h_22 => ?_)
  refine WL.nil ?_
  refine inb_n ?_
  refine thn_n ?_
  refine WP.reg ?_
  refine WL.q (Wn.no rfl) rfl rfl (R.move (v := (vi 3)) rfl) ?_
  refine WL.q (Wn.no rfl) rfl rfl (R.bin (v := (vi 4)) rfl rfl (bi_add (c := 4) (by omega) (by omega))) ?_
  refine WL.q (Wn.no rfl) rfl rfl (R.assign (v := (vi 4)) rfl) ?_
  refine WL.nil ?_
  refine thn_n ?_
  refine WI.round ?_
  refine WP.seq ?_
  refine WP.seq ?_
  refine WP.reg ?_
  refine WL.q (Wn.no rfl) rfl rfl (R.move (v := (vi 4)) rfl) ?_
  refine WL.q (Wn.no rfl) rfl rfl (R.bin (v := (.bool true)) rfl rfl (bi_lss (r := true) (by decide))) ?_
  refine WL.nil ?_
  refine thn_n ?_
  refine WP.condT rfl ?_
  refine WP.skip ?_
  refine thn_n ?_
  refine WP.seq ?_
  refine WP.block ?_
  refine WP.reg ?_
  refine WL.q (Wn.no rfl) rfl rfl (R.move (v := (vi 4)) rfl) ?_
  refine WL.q (Wn.no rfl) rfl rfl (R.move (v := (vi 4)) rfl) ?_
  refine WL.q (Wn.no rfl) rfl rfl (R.move (v := (vi 4)) rfl) ?_
  refine WL.q (Wn.no rfl) rfl rfl (R.conv (b := (4 : UInt8).toNat) rfl Try.underlying3 Try.underlying5 (by decide)) ?_
  refine WL.q (Wn.no rfl) rfl rfl (R.move (v := (vi 4)) rfl) ?_
  refine WL.q (Wn.no rfl) rfl rfl (R.bin (v := (vi 68)) rfl rfl (bi_mul (c := 68) (by omega) (by omega))) ?_
  refine WL.q (Wn.no rfl) rfl rfl (R.conv (b := (68 : UInt8).toNat) rfl Try.underlying3 Try.underlying5 (by decide)) ?_
  refine WL.q (Wn.no rfl) rfl rfl (R.indexA (b := b_1) (off := 0) (off' := 4) (i := 4) rfl rfl rfl (by decide) Try.underlying66 Try.sizeOf5 rfl) ?_
  refine WL.storeE (b := b_1) (off := 4) (i := 4) (v := (vu8 4)) (cs' := ([0, 1, 2, 3, 4, 0, 0, 0, 0, 0, 0, 0, 0, 0, 0, 0] : List UInt8).map vu8) h_22 rfl rfl Try.sizeOf5 rfl (At.t At.h) (by decide) Sg.h rfl (lt_len (K := 16) (len_map (rfl : List.length ([0, 1, 2, 3, 0, 0, 0, 0, 0, 0, 0, 0, 0, 0, 0, 0] : List UInt8) = 16)) (by decide)) ((set_u8 _ _ _).trans rfl) (fun w_23 h_24 => ?_)
  refine WL.q (Wn.no rfl) rfl rfl (R.indexA (b := b_4) (off := 0) (off' := 4) (i := 4) rfl rfl rfl (by decide) Try.underlying66 Try.sizeOf5 rfl) ?_
  refine WL.storeE (b := b_4) (off := 4) (i := 4) (v := (vu8 68)) (cs' := ([0, 17, 34, 51, 68, 0, 0, 0, 0, 0, 0, 0, 0, 0, 0, 0] : List UInt8).map vu8) h_24 rfl rfl Try.sizeOf5 rfl At.h (by decide) Sg.h rfl (lt_len (K := 16) (len_map (rfl : List.length ([0, 17, 34, 51, 0, 0, 0, 0, 0, 0, 0, 0, 0, 0, 0, 0] : List UInt8) = 16)) (by decide)) ((set_u8 _ _ _).trans rfl) (fun w_25 h_26 => ?_)
  refine WL.nil ?_
  refine inb_n ?_
  refine thn_n ?_
  refine WP.reg ?_
  refine WL.q (Wn.no rfl) rfl rfl (R.move (v := (vi 4)) rfl) ?_
  refine WL.q (Wn.no rfl) rfl rfl (R.bin (v := (vi 5)) rfl rfl (bi_add (c := 5) (by omega) (by omega))) ?_
  refine WL.q (Wn.no rfl) rfl rfl (R.assign (v := (vi 5)) rfl) ?_
  refine WL.nil ?_
  refine thn_n ?_
  refine WI.round ?_
  refine WP.seq ?_
  refine WP.seq ?_
  refine WP.reg ?_
  refine WL.q (Wn.no rfl) rfl rfl (R.move (v := (vi 5)) rfl) ?_
  refine WL.q (Wn.no rfl) rfl rfl (R.bin (v := (.bool true)) rfl rfl (bi_lss (r := true) (by decide))) ?_
  refine WL.nil ?_
  refine thn_n ?_
  refine WP.condT rfl ?_
  refine WP.skip ?_
  refine thn_n ?_
  refine WP.seq ?_
  refine WP.block ?_
  refine WP.reg ?_
  refine WL.q (Wn.no rfl) rfl rfl (R.move (v := (vi 5)) rfl) ?_
  refine WL.q (Wn.no rfl) rfl rfl (R.move (v := (vi 5)) rfl) ?_
  refine WL.q (Wn.no rfl) rfl rfl (R.move (v := (vi 5)) rfl) ?_
  refine WL.q (Wn.no rfl) rfl rfl (R.conv (b := (5 : UInt8).toNat) rfl Try.underlying3 Try.underlying5 (by decide)) ?_
  refine WL.q (Wn.no rfl) rfl rfl (R.move (v := (vi 5)) rfl) ?_
  refine WL.q (Wn.no rfl) rfl rfl (R.bin (v := (vi 85)) rfl rfl (bi_mul (c := 85) (by omega) (by omega))) ?_
  refine WL.q (Wn.no rfl) rfl rfl (R.conv (b := (85 : UInt8).toNat) rfl Try.underlying3 Try.underlying5 (by decide)) ?_
  refine WL.q (Wn.no rfl) rfl rfl (R.indexA (b := b_1) (off := 0) (off' := 5) (i := 5) rfl rfl rfl (by decide) Try.underlying66 Try.sizeOf5 rfl) ?_
  refine WL.storeE (b := b_1) (off := 5) (i := 5) (v := (vu8 5)) (cs' := ([0, 1, 2, 3, 4, 5, 0, 0, 0, 0, 0, 0, 0, 0, 0, 0] : List UInt8).map vu8) h_26 rfl rfl Try.sizeOf5 rfl (At.t At.h) (by decide) Sg.h rfl (lt_len (K := 16) (len_map (rfl : List.length ([0, 1, 2, 3, 4, 0, 0, 0, 0, 0, 0, 0, 0, 0, 0, 0] : List UInt8) = 16)) (by decide)) ((set_u8 _ _ _).trans rfl) (fun w_27 h_28 => ?_)
  refine WL.q (Wn.no rfl) rfl rfl (R.indexA (b := b_4) (off := 0) (off' := 5) (i := 5) rfl rfl rfl (by decide) Try.underlying66 Try.sizeOf5 rfl) ?_
  refine WL.storeE (b := b_4) (off := 5) (i := 5) (v := (vu8 85)) (cs' := ([0, 17, 34, 51, 68, 85, 0, 0, 0, 0, 0, 0, 0, 0, 0, 0] : List UInt8).map vu8) h_28 rfl rfl Try.sizeOf5 rfl At.h (by decide) Sg.h rfl (lt_len (K := 16) (len_map (rfl : List.length ([0, 17, 34, 51, 68, 0, 0, 0, 0, 0, 0, 0, 0, 0, 0, 0] : List UInt8) = 16)) (by decide)) ((set_u8 _ _ _).trans rfl) (fun w_29 h_30 => ?_)
  refine WL.nil ?_
  refine inb_n ?_
  refine thn_n ?_
  refine WP.reg ?_
  refine WL.q (Wn.no rfl) rfl rfl (R.move (v := (vi 5)) rfl) ?_
  refine WL.q (Wn.no rfl) rfl rfl (R.bin (v := (vi 6)) rfl rfl (bi_add (c := 6) (by omega) (by omega))) ?_
  refine WL.q (Wn.no rfl) rfl rfl (R.assign (v := (vi 6)) rfl) ?_
  refine WL.nil ?_
  refine thn_n ?_
  refine WI.round ?_
  refine WP.seq ?_
  refine WP.seq ?_
  refine WP.reg ?_
  refine WL.q (Wn.no rfl) rfl rfl (R.move (v := (vi 6)) rfl) ?_
  refine WL.q (Wn.no rfl) rfl rfl (R.bin (v := (.bool true)) rfl rfl (bi_lss (r := true) (by decide))) ?_
  refine WL.nil ?_
  refine thn_n ?_
  refine WP.condT rfl ?_
  refine WP.skip ?_
  refine thn_n ?_
  refine WP.seq ?_
  refine WP.block ?_
  refine WP.reg ?_
  refine WL.q (Wn.no rfl) rfl rfl (R.move (v := (vi 6)) rfl) ?_
  refine WL.q (Wn.no rfl) rfl rfl (R.move (v := (vi 6)) rfl) ?_
  refine WL.q (Wn.no rfl) rfl rfl (R.move (v := (vi 6)) rfl) ?_
  refine WL.q (Wn.no rfl) rfl rfl (R.conv (b := (6 : UInt8).toNat) rfl Try.underlying3 Try.underlying5 (by decide)) ?_
  refine WL.q (Wn.no rfl) rfl rfl (R.move (v := (vi 6)) rfl) ?_
  refine WL.q (Wn.no rfl) rfl rfl (R.bin (v := (vi 102)) rfl rfl (bi_mul (c := 102) (by omega) (by omega))) ?_
  refine WL.q (Wn.no rfl) rfl rfl (R.conv (b := (102 : UInt8).toNat) rfl Try.underlying3 Try.underlying5 (by decide)) ?_
  refine WL.q (Wn.no rfl) rfl rfl (R.indexA (b := b_1) (off := 0) (off' := 6) (i := 6) rfl rfl rfl (by decide) Try.underlying66 Try.sizeOf5 rfl) ?_
  refine WL.storeE (b := b_1) (off := 6) (i := 6) (v := (vu8 6)) (cs' := ([0, 1, 2, 3, 4, 5, 6, 0, 0, 0, 0, 0, 0, 0, 0, 0] : List UInt8).map vu8) h_30 rfl rfl Try.sizeOf5 rfl (At.t At.h) (by decide) Sg.h rfl (lt_len (K := 16) (len_map (rfl : List.length ([0, 1, 2, 3, 4, 5, 0, 0, 0, 0, 0, 0, 0, 0, 0, 0] : List UInt8) = 16)) (by decide)) ((set_u8 _ _ _).trans rfl) (fun w_31 h_32 => ?_)
  refine WL.q (Wn.no rfl) rfl rfl (R.indexA (b := b_4) (off := 0) (off' := 6) (i := 6) rfl rfl rfl (by decide) Try.underlying66 Try.sizeOf5 rfl) ?_
  refine WL.storeE (b := b_4) (off := 6) (i := 6) (v := (vu8 102)) (cs' := ([0, 17, 34, 51, 68, 85, 102, 0, 0, 0, 0, 0, 0, 0, 0, 0] : List UInt8).map vu8) h_32 rfl rfl Try.sizeOf5 rfl At.h (by decide) Sg.h rfl (lt_len (K := 16) (len_map (rfl : List.length ([0, 17, 34, 51, 68, 85, 0, 0, 0, 0, 0, 0, 0, 0, 0, 0] : List UInt8) = 16)) (by decide)) ((set_u8 _ _ _).trans rfl) (fun w_33 h_34 => ?_)
  refine WL.nil ?_
  refine inb_n ?_
  refine thn_n ?_
  refine WP.reg ?_
  refine WL.q (Wn.no rfl) rfl rfl (R.move (v := (vi 6)) rfl) ?_
  refine WL.q (Wn.no rfl) rfl rfl (R.bin (v := (vi 7)) rfl rfl (bi_add (c := 7) (by omega) (by omega))) ?_
  refine WL.q (Wn.no rfl) rfl rfl (R.assign (v := (vi 7)) rfl) ?_
  refine WL.nil ?_
  refine thn_n ?_
  refine WI.round ?_
  refine WP.seq ?_
  refine WP.seq ?_
  refine WP.reg ?_
  refine WL.q (Wn.no rfl) rfl rfl (R.move (v := (vi 7)) rfl) ?_
  refine WL.q (Wn.no rfl) rfl rfl (R.bin (v := (.bool true)) rfl rfl (bi_lss (r := true) (by decide))) ?_
  refine WL.nil ?_
  refine thn_n ?_
  refine WP.condT rfl ?_
  refine WP.skip ?_
  refine thn_n ?_
  refine WP.seq ?_
  refine WP.block ?_
  refine WP.reg ?_
  refine WL.q (Wn.no rfl) rfl rfl (R.move (v := (vi 7)) rfl) ?_
  refine WL.q (Wn.no rfl) rfl rfl (R.move (v := (vi 7)) rfl) ?_
  refine WL.q (Wn.no rfl) rfl rfl (R.move (v := (vi 7)) rfl) ?_
  refine WL.q (Wn.no rfl) rfl rfl (R.conv (b := (7 : UInt8).toNat) rfl Try.underlying3 Try.underlying5 (by decide)) ?_
  refine WL.q (Wn.no rfl) rfl rfl (R.move (v := (vi 7)) rfl) ?_
  refine WL.q (Wn.no rfl) rfl rfl (R.bin (v := (vi 119)) rfl rfl (bi_mul (c := 119) (by omega) (by omega))) ?_
  refine WL.q (Wn.no rfl) rfl rfl (R.conv (b := (119 : UInt8).toNat) rfl Try.underlying3 Try.underlying5 (by decide)) ?_
  refine WL.q (Wn.no rfl) rfl rfl (R.indexA (b := b_1) (off := 0) (off' := 7) (i := 7) rfl rfl rfl (by decide) Try.underlying66 Try.sizeOf5 rfl) ?_
  refine WL.storeE (b := b_1) (off := 7) (i := 7) (v := (vu8 7)) (cs' := ([0, 1, 2, 3, 4, 5, 6, 7, 0, 0, 0, 0, 0, 0, 0, 0] : List UInt8).map vu8) h_34 rfl rfl Try.sizeOf5 rfl (At.t At.h) (by decide) Sg.h rfl (lt_len (K := 16) (len_map (rfl : List.length ([0, 1, 2, 3, 4, 5, 6, 0, 0, 0, 0, 0, 0, 0, 0, 0] : List UInt8) = 16)) (by decide)) ((set_u8 _ _ _).trans rfl) (fun w_35 h_36 => ?_)
  refine WL.q (Wn.no rfl) rfl rfl (R.indexA (b := b_4) (off := 0) (off' := 7) (i := 7) rfl rfl rfl (by decide) Try.underlying66 Try.sizeOf5 rfl) ?_
  refine WL.storeE (b := b_4) (off := 7) (i := 7) (v := (vu8 119)) (cs' := ([0, 17, 34, 51, 68, 85, 102, 119, 0, 0, 0, 0, 0, 0, 0, 0] : List UInt8).map vu8) h_36 rfl rfl Try.sizeOf5 rfl At.h (by decide) Sg.h rfl (lt_len (K := 16) (len_map (rfl : List.length ([0, 17, 34, 51, 68, 85, 102, 0, 0, 0, 0, 0, 0, 0, 0, 0] : List UInt8) = 16)) (by decide)) ((set_u8 _ _ _).trans rfl) (fun w_37 h_38 => ?_)
  refine WL.nil ?_
  refine inb_n ?_
  refine thn_n ?_
  refine WP.reg ?_
  refine WL.q (Wn.no rfl) rfl rfl (R.move (v := (vi 7)) rfl) ?_
  refine WL.q (Wn.no rfl) rfl rfl (R.bin (v := (vi 8)) rfl rfl (bi_add (c := 8) (by omega) (by omega))) ?_
  refine WL.q (Wn.no rfl) rfl rfl (R.assign (v := (vi 8)) rfl) ?_
  refine WL.nil ?_
  refine thn_n ?_
  refine WI.round ?_
  refine WP.seq ?_
  refine WP.seq ?_
  refine WP.reg ?_
  refine WL.q (Wn.no rfl) rfl rfl (R.move (v := (vi 8)) rfl) ?_
  refine WL.q (Wn.no rfl) rfl rfl (R.bin (v := (.bool true)) rfl rfl (bi_lss (r := true) (by decide))) ?_
  refine WL.nil ?_
  refine thn_n ?_
  refine WP.condT rfl ?_
  refine WP.skip ?_
  refine thn_n ?_
  refine WP.seq ?_
  refine WP.block ?_
  refine WP.reg ?_
  refine WL.q (Wn.no rfl) rfl rfl (R.move (v := (vi 8)) rfl) ?_
  refine WL.q (Wn.no rfl) rfl rfl (R.move (v := (vi 8)) rfl) ?_
  refine WL.q (Wn.no rfl) rfl rfl (R.move (v := (vi 8)) rfl) ?_
  refine WL.q (Wn.no rfl) rfl rfl (R.conv (b := (8 : UInt8).toNat) rfl Try.underlying3 Try.underlying5 (by decide)) ?_
  refine WL.q (Wn.no rfl) rfl rfl (R.move (v := (vi 8)) rfl) ?_
  refine WL.q (Wn.no rfl) rfl rfl (R.bin (v := (vi 136)) rfl rfl (bi_mul (c := 136) (by omega) (by omega))) ?_
  refine WL.q (Wn.no rfl) rfl rfl (R.conv (b := (136 : UInt8).toNat) rfl Try.underlying3 Try.underlying5 (by decide)) ?_
  refine WL.q (Wn.no rfl) rfl rfl (R.indexA (b := b_1) (off := 0) (off' := 8) (i := 8) rfl rfl rfl (by decide) Try.underlying66 Try.sizeOf5 rfl) ?_
  refine WL.storeE (b := b_1) (off := 8) (i := 8) (v := (vu8 8)) (cs' := ([0, 1, 2, 3, 4, 5, 6, 7, 8, 0, 0, 0, 0, 0, 0, 0] : List UInt8).map vu8) h_38 rfl rfl Try.sizeOf5 rfl (At.t At.h) (by decide) Sg.h rfl (lt_len (K := 16) (len_map (rfl : List.length ([0, 1, 2, 3, 4, 5, 6, 7, 0, 0, 0, 0, 0, 0, 0, 0] : List UInt8) = 16)) (by decide)) ((set_u8 _ _ _).trans rfl) (fun w_39 h_40 => ?_)
  refine WL.q (Wn.no rfl) rfl rfl (R.indexA (b := b_4) (off := 0) (off' := 8) (i := 8) rfl rfl rfl (by decide) Try.underlying66 Try.sizeOf5 rfl) ?_
  refine WL.storeE (b := b_4) (off := 8) (i := 8) (v := (vu8 136)) (cs' := ([0, 17, 34, 51, 68, 85, 102, 119, 136, 0, 0, 0, 0, 0, 0, 0] : List UInt8).map vu8) h_40 rfl rfl Try.sizeOf5 rfl At.h (by decide) Sg.h rfl (lt_len (K := 16) (len_map (rfl : List.length ([0, 17, 34, 51, 68, 85, 102, 119, 0, 0, 0, 0, 0, 0, 0, 0] : List UInt8) = 16)) (by decide)) ((set_u8 _ _ _).trans rfl) (fun w_41 h_42 => ?_)
  refine WL.nil ?_
  refine inb_n ?_
  refine thn_n ?_
  refine WP.reg ?_
  refine WL.q (Wn.no rfl) rfl rfl (R.move (v := (vi 8)) rfl) ?_
  refine WL.q (Wn.no rfl) rfl rfl (R.bin (v := (vi 9)) rfl rfl (bi_add (c := 9) (by omega) (by omega))) ?_
  refine WL.q (Wn.no rfl) rfl rfl (R.assign (v := (vi 9)) rfl) ?_
  refine WL.nil ?_
  refine thn_n ?_
  refine WI.round ?_
  refine WP.seq ?_
  refine WP.seq ?_
  refine WP.reg ?_
  refine WL.q (Wn.no rfl) rfl rfl (R.move (v := (vi 9)) rfl) ?_
  refine WL.q (Wn.no rfl) rfl rfl (R.bin (v := (.bool true)) rfl rfl (bi_lss (r := true) (by decide))) ?_
  refine WL.nil ?_
  refine thn_n ?_
  refine WP.condT rfl ?_
  refine WP.skip ?_
  refine thn_n ?_
  refine WP.seq ?_
  refine WP.block ?_
  refine WP.reg ?_
  refine WL.q (Wn.no rfl) rfl rfl (R.move (v := (vi 9)) rfl) ?_
  refine WL.q (Wn.no rfl) rfl rfl (R.move (v := (vi 9)) rfl) ?_
  refine WL.q (Wn.no rfl) rfl rfl (R.move (v := (vi 9)) rfl) ?_
  refine WL.q (Wn.no rfl) rfl rfl (R.conv (b := (9 : UInt8).toNat) rfl Try.underlying3 Try.underlying5 (by decide)) ?_
  refine WL.q (Wn.no rfl) rfl rfl (R.move (v := (vi 9)) rfl) ?_
  refine WL.q (Wn.no rfl) rfl rfl (R.bin (v := (vi 153)) rfl rfl (bi_mul (c := 153) (by omega) (by omega))) ?_
  refine WL.q (Wn.no rfl) rfl rfl (R.conv (b := (153 : UInt8).toNat) rfl Try.underlying3 Try.underlying5 (by decide)) ?_
  refine WL.q (Wn.no rfl) rfl rfl (R.indexA (b := b_1) (off := 0) (off' := 9) (i := 9) rfl rfl rfl (by decide) Try.underlying66 Try.sizeOf5 rfl) ?_
  refine WL.storeE (b := b_1) (off := 9) (i := 9) (v := (vu8 9)) (cs' := ([0, 1, 2, 3, 4, 5, 6, 7, 8, 9, 0, 0, 0, 0, 0, 0] : List UInt8).map vu8) h_42 rfl rfl Try.sizeOf5 rfl (At.t At.h) (by decide) Sg.h rfl (lt_len (K := 16) (len_map (rfl : List.length ([0, 1, 2, 3, 4, 5, 6, 7, 8, 0, 0, 0, 0, 0, 0, 0] : List UInt8) = 16)) (by decide)) ((set_u8 _ _ _).trans rfl) (fun w_43 h_44 => ?_)
  refine WL.q (Wn.no rfl) rfl rfl (R.indexA (b := b_4) (off := 0) (off' := 9) (i := 9) rfl rfl rfl (by decide) Try.underlying66 Try.sizeOf5 rfl) ?_
  refine WL.storeE (b := b_4) (off := 9) (i := 9) (v := (vu8 153)) (cs' := ([0, 17, 34, 51, 68, 85, 102, 119, 136, 153, 0, 0, 0, 0, 0, 0] : List UInt8).map vu8) h_44 rfl rfl Try.sizeOf5 rfl At.h (by decide) Sg.h rfl (lt_len (K := 16) (len_map (rfl : List.length ([0, 17, 34, 51, 68, 85, 102, 119, 136, 0, 0, 0, 0, 0, 0, 0] : List UInt8) = 16)) (by decide)) ((set_u8 _ _ _).trans rfl) (fun w_45 h_46 => ?_)
  refine WL.nil ?_
  refine inb_n ?_
  refine thn_n ?_
  refine WP.reg ?_
  refine WL.q (Wn.no rfl) rfl rfl (R.move (v := (vi 9)) rfl) ?_
  refine WL.q (Wn.no rfl) rfl rfl (R.bin (v := (vi 10)) rfl rfl (bi_add (c := 10) (by omega) (by omega))) ?_
  refine WL.q (Wn.no rfl) rfl rfl (R.assign (v := (vi 10)) rfl) ?_
  refine WL.nil ?_
  refine thn_n ?_
  refine WI.round ?_
  refine WP.seq ?_
  refine WP.seq ?_
  refine WP.reg ?_
  refine WL.q (Wn.no rfl) rfl rfl (R.move (v := (vi 10)) rfl) ?_
  refine WL.q (Wn.no rfl) rfl rfl (R.bin (v := (.bool true)) rfl rfl (bi_lss (r := true) (by decide))) ?_
  refine WL.nil ?_
  refine thn_n ?_
  refine WP.condT rfl ?_
  refine WP.skip ?_
  refine thn_n ?_
  refine WP.seq ?_
  refine WP.block ?_
  refine WP.reg ?_
  refine WL.q (Wn.no rfl) rfl rfl (R.move (v := (vi 10)) rfl) ?_
  refine WL.q (Wn.no rfl) rfl rfl (R.move (v := (vi 10)) rfl) ?_
  refine WL.q (Wn.no rfl) rfl rfl (R.move (v := (vi 10)) rfl) ?_
  refine WL.q (Wn.no rfl) rfl rfl (R.conv (b := (10 : UInt8).toNat) rfl Try.underlying3 Try.underlying5 (by decide)) ?_
  refine WL.q (Wn.no rfl) rfl rfl (R.move (v := (vi 10)) rfl) ?_
  refine WL.q (Wn.no rfl) rfl rfl (R.bin (v := (vi 170)) rfl rfl (bi_mul (c := 170) (by omega) (by omega))) ?_
  refine WL.q (Wn.no rfl) rfl rfl (R.conv (b := (170 : UInt8).toNat) rfl Try.underlying3 Try.underlying5 (by decide)) ?_
  refine WL.q (Wn.no rfl) rfl rfl (R.indexA (b := b_1) (off := 0) (off' := 10) (i := 10) rfl rfl rfl (by decide) Try.underlying66 Try.sizeOf5 rfl) ?_
  refine WL.storeE (b := b_1) (off := 10) (i := 10) (v := (vu8 10)) (cs' := ([0, 1, 2, 3, 4, 5, 6, 7, 8, 9, 10, 0, 0, 0, 0, 0] : List UInt8).map vu8) h_46 rfl rfl Try.sizeOf5 rfl (At.t At.h) (by decide) Sg.h rfl (lt_len (K := 16) (len_map (rfl : List.length ([0, 1, 2, 3, 4, 5, 6, 7, 8, 9, 0, 0, 0, 0, 0, 0] : List UInt8) = 16)) (by decide)) ((set_u8 _ _ _).trans rfl) (fun w_47 h_48 => ?_)
  refine WL.q (Wn.no rfl) rfl rfl (R.indexA (b := b_4) (off := 0) (off' := 10) (i := 10) rfl rfl rfl (by decide) Try.underlying66 Try.sizeOf5 rfl) ?_
  refine WL.storeE (b := b_4) (off := 10) (i := 10) (v := (vu8 170)) (cs' := ([0, 17, 34, 51, 68, 85, 102, 119, 136, 153, 170, 0, 0, 0, 0, 0] : List UInt8).map vu8) h_48 rfl rfl Try.sizeOf5 rfl At.h (by decide) Sg.h rfl (lt_len (K := 16) (len_map (rfl : List.length ([0, 17, 34, 51, 68, 85, 102, 119, 136, 153, 0, 0, 0, 0, 0, 0] : List UInt8) = 16)) (by decide)) ((set_u8 _ _ _).trans rfl) (fun w_49 h_50 => ?_)
  refine WL.nil ?_
  refine inb_n ?_
  refine thn_n ?_
  refine WP.reg ?_
  refine WL.q (Wn.no rfl) rfl rfl (R.move (v := (vi 10)) rfl) ?_
  refine WL.q (Wn.no rfl) rfl rfl (R.bin (v := (vi 11)) rfl rfl (bi_add (c := 11) (by omega) (by omega))) ?_
  refine WL.q (Wn.no rfl) rfl rfl (R.assign (v := (vi 11)) rfl) ?_
  refine WL.nil ?_
  refine thn_n ?_
  refine WI.round ?_
  refine WP.seq ?_
  refine WP.seq ?_
  refine WP.reg ?_
  refine WL.q (Wn.no rfl) rfl rfl (R.move (v := (vi 11)) rfl) ?_
  refine WL.q (Wn.no rfl) rfl rfl (R.bin (v := (.bool true)) rfl rfl (bi_lss (r := true) (by decide))) ?_
  refine WL.nil ?_
  refine thn_n ?_
  refine WP.condT rfl ?_
  refine WP.skip ?_
  refine thn_n ?_
  refine WP.seq ?_
  refine WP.block ?_
  refine WP.reg ?_
  refine WL.q (Wn.no rfl) rfl rfl (R.move (v := (vi 11)) rfl) ?_
  refine WL.q (Wn.no rfl) rfl rfl (R.move (v := (vi 11)) rfl) ?_
  refine WL.q (Wn.no rfl) rfl rfl (R.move (v := (vi 11)) rfl) ?_
  refine WL.q (Wn.no rfl) rfl rfl (R.conv (b := (11 : UInt8).toNat) rfl Try.underlying3 Try.underlying5 (by decide)) ?_
  refine WL.q (Wn.no rfl) rfl rfl (R.move (v := (vi 11)) rfl) ?_
  refine WL.q (Wn.no rfl) rfl rfl (R.bin (v := (vi 187)) rfl rfl (bi_mul (c := 187) (by omega) (by omega))) ?_
  refine WL.q (Wn.no rfl) rfl rfl (R.conv (b := (187 : UInt8).toNat) rfl Try.underlying3 Try.underlying5 (by decide)) ?_
  refine WL.q (Wn.no rfl) rfl rfl (R.indexA (b := b_1) (off := 0) (off' := 11) (i := 11) rfl rfl rfl (by decide) Try.underlying66 Try.sizeOf5 rfl) ?_
  refine WL.storeE (b := b_1) (off := 11) (i := 11) (v := (vu8 11)) (cs' := ([0, 1, 2, 3, 4, 5, 6, 7, 8, 9, 10, 11, 0, 0, 0, 0] : List UInt8).map vu8) h_50 rfl rfl Try.sizeOf5 rfl (At.t At.h) (by decide) Sg.h rfl (lt_len (K := 16) (len_map (rfl : List.length ([0, 1, 2, 3, 4, 5, 6, 7, 8, 9, 10, 0, 0, 0, 0, 0] : List UInt8) = 16)) (by decide)) ((set_u8 _ _ _).trans rfl) (fun w_51 h_52 => ?_)
  refine WL.q (Wn.no rfl) rfl rfl (R.indexA (b := b_4) (off := 0) (off' := 11) (i := 11) rfl rfl rfl (by decide) Try.underlying66 Try.sizeOf5 rfl) ?_
  refine WL.storeE (b := b_4) (off := 11) (i := 11) (v := (vu8 187)) (cs' := ([0, 17, 34, 51, 68, 85, 102, 119, 136, 153, 170, 187, 0, 0, 0, 0] : List UInt8).map vu8) h_52 rfl rfl Try.sizeOf5 rfl At.h (by decide) Sg.h rfl (lt_len (K := 16) (len_map (rfl : List.length ([0, 17, 34, 51, 68, 85, 102, 119, 136, 153, 170, 0, 0, 0, 0, 0] : List UInt8) = 16)) (by decide)) ((set_u8 _ _ _).trans rfl) (fun w_53 h_54 => ?_)
  refine WL.nil ?_
  refine inb_n ?_
  refine thn_n ?_
  refine WP.reg ?_
  refine WL.q (Wn.no rfl) rfl rfl (R.move (v := (vi 11)) rfl) ?_
  refine WL.q (Wn.no rfl) rfl rfl (R.bin (v := (vi 12)) rfl rfl (bi_add (c := 12) (by omega) (by omega))) ?_
  refine WL.q (Wn.no rfl) rfl rfl (R.assign (v := (vi 12)) rfl) ?_
  refine WL.nil ?_
  refine thn_n ?_
  refine WI.round ?_
  refine WP.seq ?_
  refine WP.seq ?_
  refine WP.reg ?_
  refine WL.q (Wn.no rfl) rfl rfl (R.move (v := (vi 12)) rfl) ?_
  refine WL.q (Wn.no rfl) rfl rfl (R.bin (v := (.bool true)) rfl rfl (bi_lss (r := true) (by decide))) ?_
  refine WL.nil ?_
  refine thn_n ?_
  refine WP.condT rfl ?_
  refine WP.skip ?_
  refine thn_n ?_
  refine WP.seq ?_
  refine WP.block ?_
  refine WP.reg ?_
  refine WL.q (Wn.no rfl) rfl rfl (R.move (v := (vi 12)) rfl) ?_
  refine WL.q (Wn.no rfl) rfl rfl (R.move (v := (vi 12)) rfl) ?_
  refine WL.q (Wn.no rfl) rfl rfl (R.move (v := (vi 12)) rfl) ?_
  refine WL.q (Wn.no rfl) rfl rfl (R.conv (b := (12 : UInt8).toNat) rfl Try.underlying3 Try.underlying5 (by decide)) ?_
  refine WL.q (Wn.no rfl) rfl rfl (R.move (v := (vi 12)) rfl) ?_
  refine WL.q (Wn.no rfl) rfl rfl (R.bin (v := (vi 204)) rfl rfl (bi_mul (c := 204) (by omega) (by omega))) ?_
  refine WL.q (Wn.no rfl) rfl rfl (R.conv (b := (204 : UInt8).toNat) rfl Try.underlying3 Try.underlying5 (by decide)) ?_
  refine WL.q (Wn.no rfl) rfl rfl (R.indexA (b := b_1) (off := 0) (off' := 12) (i := 12) rfl rfl rfl (by decide) Try.underlying66 Try.sizeOf5 rfl) ?_
  refine WL.storeE (b := b_1) (off := 12) (i := 12) (v := (vu8 12)) (cs' := ([0, 1, 2, 3, 4, 5, 6, 7, 8, 9, 10, 11, 12, 0, 0, 0] : List UInt8).map vu8) h_54 rfl rfl Try.sizeOf5 rfl (At.t At.h) (by decide) Sg.h rfl (lt_len (K := 16) (len_map (rfl : List.length ([0, 1, 2, 3, 4, 5, 6, 7, 8, 9, 10, 11, 0, 0, 0, 0] : List UInt8) = 16)) (by decide)) ((set_u8 _ _ _).trans rfl) (fun w_55 h_56 => ?_)
  refine WL.q (Wn.no rfl) rfl rfl (R.indexA (b := b_4) (off := 0) (off' := 12) (i := 12) rfl rfl rfl (by decide) Try.underlying66 Try.sizeOf5 rfl) ?_
  refine WL.storeE (b := b_4) (off := 12) (i := 12) (v := (vu8 204)) (cs' := ([0, 17, 34, 51, 68, 85, 102, 119, 136, 153, 170, 187, 204, 0, 0, 0] : List UInt8).map vu8) h_56 rfl rfl Try.sizeOf5 rfl At.h (by decide) Sg.h rfl (lt_len (K := 16) (len_map (rfl : List.length ([0, 17, 34, 51, 68, 85, 102, 119, 136, 153, 170, 187, 0, 0, 0, 0] : List UInt8) = 16)) (by decide)) ((set_u8 _ _ _).trans rfl) (fun w_57 h_58 => ?_)
  refine WL.nil ?_
  refine inb_n ?_
  refine thn_n ?_
  refine WP.reg ?_
  refine WL.q (Wn.no rfl) rfl rfl (R.move (v := (vi 12)) rfl) ?_
  refine WL.q (Wn.no rfl) rfl rfl (R.bin (v := (vi 13)) rfl rfl (bi_add (c := 13) (by omega) (by omega))) ?_
  refine WL.q (Wn.no rfl) rfl rfl (R.assign (v := (vi 13)) rfl) ?_
  refine WL.nil ?_
  refine thn_n ?_
  refine WI.round ?_
  refine WP.seq ?_
  refine WP.seq ?_
  refine WP.reg ?_
  refine WL.q (Wn.no rfl) rfl rfl (R.move (v := (vi 13)) rfl) ?_
  refine WL.q (Wn.no rfl) rfl rfl (R.bin (v := (.bool true)) rfl rfl (bi_lss (r := true) (by decide))) ?_
  refine WL.nil ?_
  refine thn_n ?_
  refine WP.condT rfl ?_
  refine WP.skip ?_
  refine thn_n ?_
  refine WP.seq ?_
  refine WP.block ?_
  refine WP.reg ?_
  refine WL.q (Wn.no rfl) rfl rfl (R.move (v := (vi 13)) rfl) ?_
  refine WL.q (Wn.no rfl) rfl rfl (R.move (v := (vi 13)) rfl) ?_
  refine WL.q (Wn.no rfl) rfl rfl (R.move (v := (vi 13)) rfl) ?_
  refine WL.q (Wn.no rfl) rfl rfl (R.conv (b := (13 : UInt8).toNat) rfl Try.underlying3 Try.underlying5 (by decide)) ?_
  refine WL.q (Wn.no rfl) rfl rfl (R.move (v := (vi 13)) rfl) ?_
  refine WL.q (Wn.no rfl) rfl rfl (R.bin (v := (vi 221)) rfl rfl (bi_mul (c := 221) (by omega) (by omega))) ?_
  refine WL.q (Wn.no rfl) rfl rfl (R.conv (b := (221 : UInt8).toNat) rfl Try.underlying3 Try.underlying5 (by decide)) ?_
  refine WL.q (Wn.no rfl) rfl rfl (R.indexA (b := b_1) (off := 0) (off' := 13) (i := 13) rfl rfl rfl (by decide) Try.underlying66 Try.sizeOf5 rfl) ?_
  refine WL.storeE (b := b_1) (off := 13) (i := 13) (v := (vu8 13)) (cs' := ([0, 1, 2, 3, 4, 5, 6, 7, 8, 9, 10, 11, 12, 13, 0, 0] : List UInt8).map vu8) h_58 rfl rfl Try.sizeOf5 rfl (At.t At.h) (by decide) Sg.h rfl (lt_len (K := 16) (len_map (rfl : List.length ([0, 1, 2, 3, 4, 5, 6, 7, 8, 9, 10, 11, 12, 0, 0, 0] : List UInt8) = 16)) (by decide)) ((set_u8 _ _ _).trans rfl) (fun w_59 h_60 => ?_)
  refine WL.q (Wn.no rfl) rfl rfl (R.indexA (b := b_4) (off := 0) (off' := 13) (i := 13) rfl rfl rfl (by decide) Try.underlying66 Try.sizeOf5 rfl) ?_
  refine WL.storeE (b := b_4) (off := 13) (i := 13) (v := (vu8 221)) (cs' := ([0, 17, 34, 51, 68, 85, 102, 119, 136, 153, 170, 187, 204, 221, 0, 0] : List UInt8).map vu8) h_60 rfl rfl Try.sizeOf5 rfl At.h (by decide) Sg.h rfl (lt_len (K := 16) (len_map (rfl : List.length ([0, 17, 34, 51, 68, 85, 102, 119, 136, 153, 170, 187, 204, 0, 0, 0] : List UInt8) = 16)) (by decide)) ((set_u8 _ _ _).trans rfl) (fun w_61 h_62 => ?_)
  refine WL.nil ?_
  refine inb_n ?_
  refine thn_n ?_
  refine WP.reg ?_
  refine WL.q (Wn.no rfl) rfl rfl (R.move (v := (vi 13)) rfl) ?_
  refine WL.q (Wn.no rfl) rfl rfl (R.bin (v := (vi 14)) rfl rfl (bi_add (c := 14) (by omega) (by omega))) ?_
  refine WL.q (Wn.no rfl) rfl rfl (R.assign (v := (vi 14)) rfl) ?_
  refine WL.nil ?_
  refine thn_n ?_
  refine WI.round ?_
  refine WP.seq ?_
  refine WP.seq ?_
  refine WP.reg ?_
  refine WL.q (Wn.no rfl) rfl rfl (R.move (v := (vi 14)) rfl) ?_
  refine WL.q (Wn.no rfl) rfl rfl (R.bin (v := (.bool true)) rfl rfl (bi_lss (r := true) (by decide))) ?_
  refine WL.nil ?_
  refine thn_n ?_
  refine WP.condT rfl ?_
  refine WP.skip ?_
  refine thn_n ?_
  refine WP.seq ?_
  refine WP.block ?_
  refine WP.reg ?_
  refine WL.q (Wn.no rfl) rfl rfl (R.move (v := (vi 14)) rfl) ?_
  refine WL.q (Wn.no rfl) rfl rfl (R.move (v := (vi 14)) rfl) ?_
  refine WL.q (Wn.no rfl) rfl rfl (R.move (v := (vi 14)) rfl) ?_
  refine WL.q (Wn.no rfl) rfl rfl (R.conv (b := (14 : UInt8).toNat) rfl Try.underlying3 Try.underlying5 (by decide)) ?_
  refine WL.q (Wn.no rfl) rfl rfl (R.move (v := (vi 14)) rfl) ?_
  refine WL.q (Wn.no rfl) rfl rfl (R.bin (v := (vi 238)) rfl rfl (bi_mul (c := 238) (by omega) (by omega))) ?_
  refine WL.q (Wn.no rfl) rfl rfl (R.conv (b := (238 : UInt8).toNat) rfl Try.underlying3 Try.underlying5 (by decide)) ?_
  refine WL.q (Wn.no rfl) rfl rfl (R.indexA (b := b_1) (off := 0) (off' := 14) (i := 14) rfl rfl rfl (by decide) Try.underlying66 Try.sizeOf5 rfl) ?_
  refine WL.storeE (b := b_1) (off := 14) (i := 14) (v := (vu8 14)) (cs' := ([0, 1, 2, 3, 4, 5, 6, 7, 8, 9, 10, 11, 12, 13, 14, 0] : List UInt8).map vu8) h_62 rfl rfl Try.sizeOf5 rfl (At.t At.h) (by decide) Sg.h rfl (lt_len (K := 16) (len_map (rfl : List.length ([0, 1, 2, 3, 4, 5, 6, 7, 8, 9, 10, 11, 12, 13, 0, 0] : List UInt8) = 16)) (by decide)) ((set_u8 _ _ _).trans rfl) (fun w_63 h_64 => ?_)
  refine WL.q (Wn.no rfl) rfl rfl (R.indexA (b := b_4) (off := 0) (off' := 14) (i := 14) rfl rfl rfl (by decide) Try.underlying66 Try.sizeOf5 rfl) ?_
  refine WL.storeE (b := b_4) (off := 14) (i := 14) (v := (vu8 238)) (cs' := ([0, 17, 34, 51, 68, 85, 102, 119, 136, 153, 170, 187, 204, 221, 238, 0] : List UInt8).map vu8) h_64 rfl rfl Try.sizeOf5 rfl At.h (by decide) Sg.h rfl (lt_len (K := 16) (len_map (rfl : List.length ([0, 17, 34, 51, 68, 85, 102, 119, 136, 153, 170, 187, 204, 221, 0, 0] : List UInt8) = 16)) (by decide)) ((set_u8 _ _ _).trans rfl) (fun w_65 h_66 => ?_)
  refine WL.nil ?_
  refine inb_n ?_
  refine thn_n ?_
  refine WP.reg ?_
  refine WL.q (Wn.no rfl) rfl rfl (R.move (v := (vi 14)) rfl) ?_
  refine WL.q (Wn.no rfl) rfl rfl (R.bin (v := (vi 15)) rfl rfl (bi_add (c := 15) (by omega) (by omega))) ?_
  refine WL.q (Wn.no rfl) rfl rfl (R.assign (v := (vi 15)) rfl) ?_
  refine WL.nil ?_
  refine thn_n ?_
  refine WI.round ?_
  refine WP.seq ?_
  refine WP.seq ?_
  refine WP.reg ?_
  refine WL.q (Wn.no rfl) rfl rfl (R.move (v := (vi 15)) rfl) ?_
  refine WL.q (Wn.no rfl) rfl rfl (R.bin (v := (.bool true)) rfl rfl (bi_lss (r := true) (by decide))) ?_
  refine WL.nil ?_
  refine thn_n ?_
  refine WP.condT rfl ?_
  refine WP.skip ?_
  refine thn_n ?_
  refine WP.seq ?_
  refine WP.block ?_
  refine WP.reg ?_
  refine WL.q (Wn.no rfl) rfl rfl (R.move (v := (vi 15)) rfl) ?_
  refine WL.q (Wn.no rfl) rfl rfl (R.move (v := (vi 15)) rfl) ?_
  refine WL.q (Wn.no rfl) rfl rfl (R.move (v := (vi 15)) rfl) ?_
  refine WL.q (Wn.no rfl) rfl rfl (R.conv (b := (15 : UInt8).toNat) rfl Try.underlying3 Try.underlying5 (by decide)) ?_
  refine WL.q (Wn.no rfl) rfl rfl (R.move (v := (vi 15)) rfl) ?_
  refine WL.q (Wn.no rfl) rfl rfl (R.bin (v := (vi 255)) rfl rfl (bi_mul (c := 255) (by omega) (by omega))) ?_
  refine WL.q (Wn.no rfl) rfl rfl (R.conv (b := (255 : UInt8).toNat) rfl Try.underlying3 Try.underlying5 (by decide)) ?_
  refine WL.q (Wn.no rfl) rfl rfl (R.indexA (b := b_1) (off := 0) (off' := 15) (i := 15) rfl rfl rfl (by decide) Try.underlying66 Try.sizeOf5 rfl) ?_
  refine WL.storeE (b := b_1) (off := 15) (i := 15) (v := (vu8 15)) (cs' := ([0, 1, 2, 3, 4, 5, 6, 7, 8, 9, 10, 11, 12, 13, 14, 15] : List UInt8).map vu8) h_66 rfl rfl Try.sizeOf5 rfl (At.t At.h) (by decide) Sg.h rfl (lt_len (K := 16) (len_map (rfl : List.length ([0, 1, 2, 3, 4, 5, 6, 7, 8, 9, 10, 11, 12, 13, 14, 0] : List UInt8) = 16)) (by decide)) ((set_u8 _ _ _).trans rfl) (fun w_67 h_68 => ?_)
  refine WL.q (Wn.no rfl) rfl rfl (R.indexA (b := b_4) (off := 0) (off' := 15) (i := 15) rfl rfl rfl (by decide) Try.underlying66 Try.sizeOf5 rfl) ?_
  refine WL.storeE (b := b_4) (off := 15) (i := 15) (v := (vu8 255)) (cs' := ([0, 17, 34, 51, 68, 85, 102, 119, 136, 153, 170, 187, 204, 221, 238, 255] : List UInt8).map vu8) h_68 rfl rfl Try.sizeOf5 rfl At.h (by decide) Sg.h rfl (lt_len (K := 16) (len_map (rfl : List.length ([0, 17, 34, 51, 68, 85, 102, 119, 136, 153, 170, 187, 204, 221, 238, 0] : List UInt8) = 16)) (by decide)) ((set_u8 _ _ _).trans rfl) (fun w_69 h_70 => ?_)
  refine WL.nil ?_
  refine inb_n ?_
  refine thn_n ?_
  refine WP.reg ?_
  refine WL.q (Wn.no rfl) rfl rfl (R.move (v := (vi 15)) rfl) ?_
  refine WL.q (Wn.no rfl) rfl rfl (R.bin (v := (vi 16)) rfl rfl (bi_add (c := 16) (by omega) (by omega))) ?_
  refine WL.q (Wn.no rfl) rfl rfl (R.assign (v := (vi 16)) rfl) ?_
  refine WL.nil ?_
  refine thn_n ?_
  refine WI.round ?_
  refine WP.seq ?_
  refine WP.seq ?_
  refine WP.reg ?_
  refine WL.q (Wn.no rfl) rfl rfl (R.move (v := (vi 16)) rfl) ?_
  refine WL.q (Wn.no rfl) rfl rfl (R.bin (v := (.bool false)) rfl rfl (bi_lss (r := false) (by decide))) ?_
  refine WL.nil ?_
  refine thn_n ?_
  refine WP.condF rfl ?_
  refine WP.exit ?_
  refine thn_x ?_
  refine thn_x ?_
  refine inb_hit ?_
  refine thn_n ?_
  refine WP.seq ?_
  refine WP.reg ?_
  refine WL.q (Wn.no rfl) rfl rfl (R.loadA (b := b_1) (off := 0) [] [(16, ([0, 1, 2, 3, 4, 5, 6, 7, 8, 9, 10, 11, 12, 13, 14, 15] : List UInt8).map vu8)] [] (cs := ([0, 1, 2, 3, 4, 5, 6, 7, 8, 9, 10, 11, 12, 13, 14, 15] : List UInt8).map vu8) rfl Try.isAgg66 Try.sizeOf66 (h_70.ok _ (.tail _ (.head _))) rfl rfl rfl rfl) ?_
  refine WL.q (Wn.no rfl) rfl rfl (R.loadA (b := b_4) (off := 0) [] [(16, ([0, 17, 34, 51, 68, 85, 102, 119, 136, 153, 170, 187, 204, 221, 238, 255] : List UInt8).map vu8)] [] (cs := ([0, 17, 34, 51, 68, 85, 102, 119, 136, 153, 170, 187, 204, 221, 238, 255] : List UInt8).map vu8) rfl Try.isAgg66 Try.sizeOf66 (h_70.ok _ (.head _)) rfl rfl rfl rfl) ?_
  refine WL.call (al := [(.agg ⟨([0, 1, 2, 3, 4, 5, 6, 7, 8, 9, 10, 11, 12, 13, 14, 15] : List UInt8).map vu8⟩), (.agg ⟨([0, 17, 34, 51, 68, 85, 102, 119, 136, 153, 170, 187, 204, 221, 238, 255] : List UInt8).map vu8⟩)]) Try.call60 rfl rfl (c_Encipher ([0, 1, 2, 3, 4, 5, 6, 7, 8, 9, 10, 11, 12, 13, 14, 15] : List UInt8) ([0, 17, 34, 51, 68, 85, 102, 119, 136, 153, 170, 187, 204, 221, 238, 255] : List UInt8) (rfl : List.length ([0, 1, 2, 3, 4, 5, 6, 7, 8, 9, 10, 11, 12, 13, 14, 15] : List UInt8) = 16) (rfl : List.length ([0, 17, 34, 51, 68, 85, 102, 119, 136, 153, 170, 187, 204, 221, 238, 255] : List UInt8) = 16) _ ) rfl ?_
  rintro _ w_72 ⟨rfl, hc_71⟩
  have h_73 := h_70.same hc_71
  refine WL.alloc (segs := [(16, (List.replicate 16 (0 : UInt8)).map vu8)]) h_73 (zv Try.typeInfo66 rfl) rfl (SsOk.cons (SOk.u8 (List.length_replicate ..)) SsOk.nil) rfl (fun b_74 w_75 h_76 => ?_)
  refine WL.storeA (b := b_74) (off := 0) [] [(16, (List.replicate 16 (0 : UInt8)).map vu8)] [(16, (enc ([0, 1, 2, 3, 4, 5, 6, 7, 8, 9, 10, 11, 12, 13, 14, 15] : List UInt8) ([0, 17, 34, 51, 68, 85, 102, 119, 136, 153, 170, 187, 204, 221, 238, 255] : List UInt8)).map vu8)] [] (ys := (enc ([0, 1, 2, 3, 4, 5, 6, 7, 8, 9, 10, 11, 12, 13, 14, 15] : List UInt8) ([0, 17, 34, 51, 68, 85, 102, 119, 136, 153, 170, 187, 204, 221, 238, 255] : List UInt8)).map vu8) h_76 rfl rfl Try.sizeOf66 At.h (by decide) rfl rfl rfl rfl rfl rfl (SsOk.cons (SOk.u8 (enc_len (rfl : List.length ([0, 17, 34, 51, 68, 85, 102, 119, 136, 153, 170, 187, 204, 221, 238, 255] : List UInt8) = 16))) SsOk.nil) (fun w_77 h_78 => ?_)
  refine WL.nil ?_
  refine thn_n ?_
  refine WP.seq ?_
  refine WP.reg ?_
  refine WL.q (Wn.no rfl) rfl rfl (R.loadA (b := b_1) (off := 0) [] [(16, ([0, 1, 2, 3, 4, 5, 6, 7, 8, 9, 10, 11, 12, 13, 14, 15] : List UInt8).map vu8)] [] (cs := ([0, 1, 2, 3, 4, 5, 6, 7, 8, 9, 10, 11, 12, 13, 14, 15] : List UInt8).map vu8) rfl Try.isAgg66 Try.sizeOf66 (h_78.ok _ (.tail _ (.tail _ (.head _)))) rfl rfl rfl rfl) ?_
  refine WL.q (Wn.no rfl) rfl rfl (R.buildA (vs := []) (cs := (List.replicate 8 (0 : UInt8)).map vu8) Try.underlying67 Try.sizeOf5 (zv Try.typeInfo67 rfl) rfl rfl) ?_
  refine WL.call (al := [(.agg ⟨([0, 1, 2, 3, 4, 5, 6, 7, 8, 9, 10, 11, 12, 13, 14, 15] : List UInt8).map vu8⟩), (.agg ⟨(List.replicate 8 (0 : UInt8)).map vu8⟩), (vi (-1))]) Try.call53 rfl rfl (c_Stream_e1 ([0, 1, 2, 3, 4, 5, 6, 7, 8, 9, 10, 11, 12, 13, 14, 15] : List UInt8) (List.replicate 8 (0 : UInt8)) (rfl : List.length ([0, 1, 2, 3, 4, 5, 6, 7, 8, 9, 10, 11, 12, 13, 14, 15] : List UInt8) = 16) (List.length_replicate ..) (-1) (by omega) _ ) rfl ?_
  rintro _ w_80 ⟨rfl, hc_79⟩
  have h_81 := h_78.same hc_79
  refine WL.q (Wn.no rfl) rfl rfl (R.move (v := (.tuple [(.slice none 0 0), (vi 2)].toArray)) rfl) ?_
  refine WL.q (Wn.no rfl) rfl rfl (R.extract (l := [(.slice none 0 0), (vi 2)]) (v := (.slice none 0 0)) rfl rfl) ?_
  refine WL.q (Wn.no rfl) rfl rfl (R.extract (l := [(.slice none 0 0), (vi 2)]) (v := (vi 2)) rfl rfl) ?_
  refine WL.q (Wn.no rfl) rfl rfl (R.assign (v := (.slice none 0 0)) rfl) ?_
  refine WL.q (Wn.no rfl) rfl rfl (R.assign (v := (vi 2)) rfl) ?_
  refine WL.nil ?_
  refine thn_n ?_
  refine WP.seq ?_
  refine WP.reg ?_
  refine WL.q (Wn.no rfl) rfl rfl (R.loadA (b := b_1) (off := 0) [] [(16, ([0, 1, 2, 3, 4, 5, 6, 7, 8, 9, 10, 11, 12, 13, 14, 15] : List UInt8).map vu8)] [] (cs := ([0, 1, 2, 3, 4, 5, 6, 7, 8, 9, 10, 11, 12, 13, 14, 15] : List UInt8).map vu8) rfl Try.isAgg66 Try.sizeOf66 (h_81.ok _ (.tail _ (.tail _ (.head _)))) rfl rfl rfl rfl) ?_
  refine WL.q (Wn.no rfl) rfl rfl (R.buildA (vs := []) (cs := (List.replicate 8 (0 : UInt8)).map vu8) Try.underlying67 Try.sizeOf5 (zv Try.typeInfo67 rfl) rfl rfl) ?_
  refine WL.call (al := [(.agg ⟨([0, 1, 2, 3, 4, 5, 6, 7, 8, 9, 10, 11, 12, 13, 14, 15] : List UInt8).map vu8⟩), (.agg ⟨(List.replicate 8 (0 : UInt8)).map vu8⟩), (vi 0)]) Try.call53 rfl rfl (c_Stream_0 ([0, 1, 2, 3, 4, 5, 6, 7, 8, 9, 10, 11, 12, 13, 14, 15] : List UInt8) (List.replicate 8 (0 : UInt8)) (rfl : List.length ([0, 1, 2, 3, 4, 5, 6, 7, 8, 9, 10, 11, 12, 13, 14, 15] : List UInt8) = 16) (List.length_replicate ..) _ ) rfl ?_
  rintro _ w_83 ⟨rfl, hc_82⟩
  have h_84 := h_81.same hc_82
  refine WL.q (Wn.no rfl) rfl rfl (R.move (v := (.tuple [(.slice none 0 0), (vi 0)].toArray)) rfl) ?_
  refine WL.q (Wn.no rfl) rfl rfl (R.extract (l := [(.slice none 0 0), (vi 0)]) (v := (.slice none 0 0)) rfl rfl) ?_
  refine WL.q (Wn.no rfl) rfl rfl (R.extract (l := [(.slice none 0 0), (vi 0)]) (v := (vi 0)) rfl rfl) ?_
  refine WL.q (Wn.no rfl) rfl rfl (R.assign (v := (.slice none 0 0)) rfl) ?_
  refine WL.q (Wn.no rfl) rfl rfl (R.assign (v := (vi 0)) rfl) ?_
  refine WL.nil ?_
  refine thn_n ?_
  refine WP.seq ?_
  refine WP.reg ?_
  refine WL.call (al := [(vu8 87), (vu8 19)]) Try.call35 rfl rfl (c_Times (87 : UInt8) (19 : UInt8) _ ) rfl ?_
  rintro _ w_86 ⟨rfl, hc_85⟩
  have h_87 := h_84.same hc_85
  refine WL.q (Wn.no rfl) rfl rfl (R.bin (v := (.bool true)) rfl rfl (b8_eql (tm (87 : UInt8) (19 : UInt8)) 254 (r := true) (by decide +kernel))) ?_
  refine WL.q (Wn.no rfl) rfl rfl (R.move (v := (.bool true)) rfl) ?_
  refine WL.want rfl rfl ?_
  refine WL.call (al := [(vu8 83)]) Try.call37 rfl rfl (c_Inverse (83 : UInt8) _ ) rfl ?_
  rintro _ w_89 ⟨rfl, hc_88⟩
  have h_90 := h_87.same hc_88
  refine WL.want rfl rfl ?_
  refine WL.q (Wn.no rfl) rfl rfl (R.bin (v := (.bool true)) rfl rfl (b8_eql (inv (83 : UInt8)) 202 (r := true) (by decide +kernel))) ?_
  refine WL.q (Wn.no rfl) rfl rfl (R.pickT (v := (.bool true)) rfl rfl) ?_
  refine WL.q (Wn.no rfl) rfl rfl (R.move (v := (.bool true)) rfl) ?_
  refine WL.want rfl rfl ?_
  refine WL.call (al := [(vu8 0)]) Try.call39 rfl rfl (c_Sub (0 : UInt8) _ ) rfl ?_
  rintro _ w_92 ⟨rfl, hc_91⟩
  have h_93 := h_90.same hc_91
  refine WL.want rfl rfl ?_
  refine WL.q (Wn.no rfl) rfl rfl (R.bin (v := (.bool true)) rfl rfl (b8_eql (sub (0 : UInt8)) 99 (r := true) (by decide +kernel))) ?_
  refine WL.q (Wn.no rfl) rfl rfl (R.pickT (v := (.bool true)) rfl rfl) ?_
  refine WL.q (Wn.no rfl) rfl rfl (R.move (v := (.bool true)) rfl) ?_
  refine WL.want rfl rfl ?_
  refine WL.call (al := [(vu8 83)]) Try.call39 rfl rfl (c_Sub (83 : UInt8) _ ) rfl ?_
  rintro _ w_95 ⟨rfl, hc_94⟩
  have h_96 := h_93.same hc_94
  refine WL.want rfl rfl ?_
  refine WL.q (Wn.no rfl) rfl rfl (R.bin (v := (.bool true)) rfl rfl (b8_eql (sub (83 : UInt8)) 237 (r := true) (by decide +kernel))) ?_
  refine WL.q (Wn.no rfl) rfl rfl (R.pickT (v := (.bool true)) rfl rfl) ?_
  refine WL.q (Wn.no rfl) rfl rfl (R.move (v := (.bool true)) rfl) ?_
  refine WL.want rfl rfl ?_
  refine WL.call (al := [(vu8 237)]) Try.call41 rfl rfl (c_Unsub (237 : UInt8) _ ) rfl ?_
  rintro _ w_98 ⟨rfl, hc_97⟩
  have h_99 := h_96.same hc_97
  refine WL.want rfl rfl ?_
  refine WL.q (Wn.no rfl) rfl rfl (R.bin (v := (.bool true)) rfl rfl (b8_eql (unsub (237 : UInt8)) 83 (r := true) (by decide +kernel))) ?_
  refine WL.q (Wn.no rfl) rfl rfl (R.pickT (v := (.bool true)) rfl rfl) ?_
  refine WL.q (Wn.no rfl) rfl rfl (R.move (v := (.bool true)) rfl) ?_
  refine WL.want rfl rfl ?_
  refine WL.q (Wn.no rfl) rfl rfl (R.sliceA (b := b_74) (off := 0) (off' := 0) (l := 0) (h := 16) rfl EvB.dflt EvB.dflt (by decide) (by decide) Try.underlying66 Try.sizeOf5 rfl) ?_
  refine WL.want rfl rfl ?_
  refine WL.call (al := [(.slice (some ⟨b_74, 0, none⟩) 16 16)]) Try.call47 rfl rfl (c_HexR (some ⟨b_74, 0, none⟩) 16 16 (enc ([0, 1, 2, 3, 4, 5, 6, 7, 8, 9, 10, 11, 12, 13, 14, 15] : List UInt8) ([0, 17, 34, 51, 68, 85, 102, 119, 136, 153, 170, 187, 204, 221, 238, 255] : List UInt8)) (enc_len (rfl : List.length ([0, 17, 34, 51, 68, 85, 102, 119, 136, 153, 170, 187, 204, 221, 238, 255] : List UInt8) = 16)) (by omega) _ (viewB (h_99.ok _ (.head _)) Sg.h)) rfl ?_
  rintro _ w_101 ⟨rfl, hc_100⟩
  have h_102 := h_99.same hc_100
  refine WL.want rfl rfl ?_
  refine WL.q (Wn.no rfl) rfl rfl (R.eqStr (a := Go.Wr.hexL (enc ([0, 1, 2, 3, 4, 5, 6, 7, 8, 9, 10, 11, 12, 13, 14, 15] : List UInt8) ([0, 17, 34, 51, 68, 85, 102, 119, 136, 153, 170, 187, 204, 221, 238, 255] : List UInt8))) (b := ([54, 57, 99, 52, 101, 48, 100, 56, 54, 97, 55, 98, 48, 52, 51, 48, 100, 56, 99, 100, 98, 55, 56, 48, 55, 48, 98, 52, 99, 53, 53, 97] : List UInt8)) (r := true) rfl rfl (by rw [enc0]; decide +kernel)) ?_
  refine WL.q (Wn.no rfl) rfl rfl (R.pickT (v := (.bool true)) rfl rfl) ?_
  refine WL.q (Wn.no rfl) rfl rfl (R.move (v := (.bool true)) rfl) ?_
  refine WL.want rfl rfl ?_
  refine WL.q (Wn.no rfl) rfl rfl (R.move (v := (vi 2)) rfl) ?_
  refine WL.want rfl rfl ?_
  refine WL.call (al := [(vi 2)]) Try.call54 rfl rfl (c_num4 2 (by omega) _ ) rfl ?_
  rintro _ w_104 ⟨rfl, hc_103⟩
  have h_105 := h_102.same hc_103
  refine WL.want rfl rfl ?_
  refine WL.q (Wn.no rfl) rfl rfl (R.bin (v := (.bool true)) rfl rfl (bi_eql (r := true) (by decide))) ?_
  refine WL.q (Wn.no rfl) rfl rfl (R.pickT (v := (.bool true)) rfl rfl) ?_
  refine WL.q (Wn.no rfl) rfl rfl (R.move (v := (.bool true)) rfl) ?_
  refine WL.want rfl rfl ?_
  refine WL.q (Wn.no rfl) rfl rfl (R.move (v := (.slice none 0 0)) rfl) ?_
  refine WL.want rfl rfl ?_
  refine WL.q (Wn.no rfl) rfl rfl (R.lenS (a := none) (m := 0) rfl rfl Try.underlying23) ?_
  refine WL.want rfl rfl ?_
  refine WL.q (Wn.no rfl) rfl rfl (R.bin (v := (.bool true)) rfl rfl (bi_eql (r := true) (by decide))) ?_
  refine WL.q (Wn.no rfl) rfl rfl (R.pickT (v := (.bool true)) rfl rfl) ?_
  refine WL.q (Wn.no rfl) rfl rfl (R.move (v := (.bool true)) rfl) ?_
  refine WL.want rfl rfl ?_
  refine WL.q (Wn.no rfl) rfl rfl (R.move (v := (vi 0)) rfl) ?_
  refine WL.want rfl rfl ?_
  refine WL.call (al := [(vi 0)]) Try.call54 rfl rfl (c_num4 0 (by omega) _ ) rfl ?_
  rintro _ w_107 ⟨rfl, hc_106⟩
  have h_108 := h_105.same hc_106
  refine WL.want rfl rfl ?_
  refine WL.q (Wn.no rfl) rfl rfl (R.bin (v := (.bool true)) rfl rfl (bi_eql (r := true) (by decide))) ?_
  refine WL.q (Wn.no rfl) rfl rfl (R.pickT (v := (.bool true)) rfl rfl) ?_
  refine WL.q (Wn.no rfl) rfl rfl (R.assign (v := (.bool true)) rfl) ?_
  refine WL.nil ?_
  refine thn_n ?_
  refine WP.ret ?_
  refine ret_of Try.results43 (RV.tmp (v := (.bool true)) rfl RV.nil) ?_
  exact ⟨rfl, h_108.chgS⟩
end Go.Proofs.Ytcmgadjnammahaa
