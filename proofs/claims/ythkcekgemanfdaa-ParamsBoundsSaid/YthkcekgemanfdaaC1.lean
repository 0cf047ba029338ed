/- Contracts of package params and of its reference: what each call returns. Conditions: those that each theorem states. -/
import Derived.Test.YthkcekgemanfdaaRows
import Derived.Test.YthkcekgemanfdaaVcY
namespace Go.Proofs.Ythkcekgemanfdaa
open Go.Vc Go.RowKit
set_option linter.unusedVariables false
set_option linter.unusedSimpArgs false
set_option maxRecDepth 20000
theorem aggT45 : aggB Try.prog 45 = true := by unfold aggB; rw [Try.underlying45]
theorem aggT51 : aggB Try.prog 51 = true := by unfold aggB; rw [Try.underlying51]
theorem aggT53 : aggB Try.prog 53 = true := by unfold aggB; rw [Try.underlying53]
theorem ce4 : Try.prog.cellsOf 4 = 1 := by kernel_rfl
theorem ce5 : Try.prog.cellsOf 5 = 1 := by kernel_rfl
theorem ce22 : Try.prog.cellsOf 22 = 1 := by kernel_rfl
theorem ce23 : Try.prog.cellsOf 23 = 8 := by kernel_rfl
theorem ce45 : Try.prog.cellsOf 45 = 10 := by kernel_rfl
theorem ce49 : Try.prog.cellsOf 49 = 32 := by kernel_rfl
theorem ce51 : Try.prog.cellsOf 51 = 33 := by kernel_rfl
theorem ce53 : Try.prog.cellsOf 53 = 128 := by kernel_rfl
theorem el90 : ElT Try.prog 90 5 1 1 := ElT.mk' Try.underlying90 (i := Try.t5) rfl rfl rfl rfl rfl rfl
theorem el98 : ElT Try.prog 98 90 1 24 := ElT.mk' Try.underlying98 (i := Try.t90) rfl rfl rfl rfl rfl rfl
theorem kt45 : Try.prog.keyTypeAt 3 45 = true := by kernel_rfl
theorem ag45 : aggB Try.prog 45 = true := by unfold aggB; rw [Try.underlying45]
theorem kt51 : Try.prog.keyTypeAt 3 51 = true := by kernel_rfl
theorem ag51 : aggB Try.prog 51 = true := by unfold aggB; rw [Try.underlying51]
theorem kt53 : Try.prog.keyTypeAt 2 53 = true := by kernel_rfl
theorem ag53 : aggB Try.prog 53 = true := by unfold aggB; rw [Try.underlying53]
theorem pl45 : ∀ fs, Try.prog.underlying 45 = some (.struct fs) → Places Try.prog fs [(0, 1), (1, 8), (9, 1)] := by
  intro fs h w; rw [Try.underlying45] at h; cases h; simp
theorem pl51 : ∀ fs, Try.prog.underlying 51 = some (.struct fs) → Places Try.prog fs [(0, 32), (32, 1)] := by
  intro fs h w; rw [Try.underlying51] at h; cases h; simp
def mayRealm (nd : UInt64) : Bool := decide (nd % 128 = 0) && decide (nd / 128 ≤ 4032)
def mayRec (pc : UInt64) : Bool := decide (pc % 8 = 0)
theorem div_step (x : UInt64) (k : Nat) : UInt64.ofNat (x.toNat / 256 ^ k) / 256 = UInt64.ofNat (x.toNat / 256 ^ (k + 1)) := by
  have hx := x.toNat_lt
  have h1 : x.toNat / 256 ^ k ≤ x.toNat := Nat.div_le_self _ _
  have h2 : x.toNat / 256 ^ (k + 1) ≤ x.toNat := Nat.div_le_self _ _
  apply UInt64.toNat_inj.1
  have h3 : (UInt64.ofNat (x.toNat / 256 ^ k)).toNat = x.toNat / 256 ^ k := by simp; omega
  have h4 : (UInt64.ofNat (x.toNat / 256 ^ (k + 1))).toNat = x.toNat / 256 ^ (k + 1) := by simp; omega
  have e : (256 : UInt64).toNat = 256 := rfl
  rw [UInt64.toNat_div, h3, h4, e, Nat.div_div_eq_div_mul, ← Nat.pow_succ]
theorem byte_step (x : UInt64) (k : Nat) : UInt8.ofNat (UInt64.ofNat (x.toNat / 256 ^ k) % 256).toNat = UInt8.ofNat (x.toNat / 256 ^ k) := by
  have hx := x.toNat_lt
  have h1 : x.toNat / 256 ^ k ≤ x.toNat := Nat.div_le_self _ _
  have h3 : (UInt64.ofNat (x.toNat / 256 ^ k)).toNat = x.toNat / 256 ^ k := by simp; omega
  have e : (256 : UInt64).toNat = 256 := rfl
  apply UInt8.toNat_inj.1
  rw [UInt64.toNat_mod, h3, e]
  simp
theorem mul_byte {l : List UInt8} (b : UInt8) (h : l.length < 8) : UInt64.ofNat (natLE l) * 256 + UInt64.ofNat b.toNat = UInt64.ofNat (natLE (b :: l)) := by
  have h1 := natLE_lt l
  have h2 : 256 ^ l.length ≤ 256 ^ 7 := Nat.pow_le_pow_right (by omega) (by omega)
  have h3 : (256 : Nat) ^ 7 = 72057594037927936 := by decide
  have hb := b.toNat_lt
  have h4 : (UInt64.ofNat (natLE l)).toNat = natLE l := natLE_u64 (by omega)
  have e : (256 : UInt64).toNat = 256 := rfl
  apply UInt64.toNat_inj.1
  rw [UInt64.toNat_add, UInt64.toNat_mul, h4, e]
  simp [natLE]; omega
theorem win_lt {bs : List UInt8} {m k : Nat} (hk : 1 ≤ k) (hk8 : k ≤ 8) (h : m + (k - 1) < bs.length) : (bs.drop (m + (k - 1))).take (8 - (k - 1)) = bs.getD (m + (k - 1)) 0 :: (bs.drop (m + k)).take (8 - k) := by
  rw [List.drop_eq_getElem_cons h, show 8 - (k - 1) = 8 - k + 1 by omega, List.take_succ_cons, show m + (k - 1) + 1 = m + k by omega]
  simp [h]
theorem win_ge {bs : List UInt8} {m k : Nat} (h : bs.length ≤ m) : (bs.drop m).take k = [] := by
  rw [List.drop_of_length_le h, List.take_nil]
theorem flat_take {ls : List (List UInt8)} {k : Nat} (h : k < ls.length) : (ls.take (k + 1)).flatten = (ls.take k).flatten ++ ls.getD k [] := by
  rw [take_snoc ls k [] h, List.flatten_append]; simp
theorem flat_take_le (ls : List (List UInt8)) (k : Nat) : ((ls.take k).flatten).length ≤ ls.flatten.length := by
  have h : ls.flatten = (ls.take k).flatten ++ (ls.drop k).flatten := by rw [← List.flatten_append, List.take_append_drop]
  rw [h, List.length_append]; omega
theorem gr_B {C : List UInt8} (h : C.length ≤ 128) : ovr (List.replicate 128 (0 : UInt8)) 0 C = C ++ List.replicate (128 - C.length) (0 : UInt8) := by
  rw [ovr, List.take_zero, List.nil_append, Nat.zero_add, List.drop_replicate]
theorem gr_P {A B : List UInt8} (hA : A.length ≤ 8) (hB : B.length ≤ 120) : ovr (ovr (List.replicate 128 (0 : UInt8)) 0 A) 8 B = (A ++ List.replicate (8 - A.length) (0 : UInt8)) ++ B ++ List.replicate (120 - B.length) (0 : UInt8) := by
  have e : List.replicate (128 - A.length) (0 : UInt8) = List.replicate (8 - A.length) (0 : UInt8) ++ List.replicate 120 (0 : UInt8) := by
    rw [List.replicate_append_replicate]; congr 1; omega
  have l8 : (A ++ List.replicate (8 - A.length) (0 : UInt8)).length = 8 := by rw [List.length_append, List.length_replicate]; omega
  rw [gr_B (by omega), e, ← List.append_assoc, ovr]
  conv => lhs; rw [show ((A ++ List.replicate (8 - A.length) (0 : UInt8)) ++ List.replicate 120 (0 : UInt8)).take 8 = (A ++ List.replicate (8 - A.length) (0 : UInt8)) from List.take_left' l8]
  rw [← List.drop_drop, List.drop_left' l8, List.drop_replicate]
  simp only [List.append_assoc]
def realmB (vl : List UInt8) (nd : UInt64) : List UInt8 := ovr (List.replicate 128 (0 : UInt8)) 0 [(([114, 101, 97, 108, 109] : List UInt8) ++ List.replicate (8 - 5) (0 : UInt8)), vl, leN 8 nd.toNat].flatten
theorem realmB_fl {vl : List UInt8} {nd : UInt64} (h : vl.length = 32) : ([(([114, 101, 97, 108, 109] : List UInt8) ++ List.replicate (8 - 5) (0 : UInt8)), vl, leN 8 nd.toNat].flatten).length = 48 := by
  simp [leN_len, h]
theorem realmB_len {vl : List UInt8} {nd : UInt64} (h : vl.length = 32) : (realmB vl nd).length = 128 := ovr_len (List.length_replicate ..) (by rw [realmB_fl h]; decide)
theorem ovr_ovr {α : Type} {g A B : List α} {i : Nat} (h : i + A.length + B.length ≤ g.length) : ovr (ovr g i A) (i + A.length) B = ovr g i (A ++ B) := by
  have h1 : (g.take i ++ A).length = i + A.length := by rw [List.length_append, List.length_take]; omega
  have e : ovr g i A = (g.take i ++ A) ++ g.drop (i + A.length) := by rw [ovr, List.append_assoc]
  rw [e, ovr, ← h1, List.take_left, List.drop_append, h1, List.drop_of_length_le (by omega), List.nil_append, List.drop_drop, ovr]
  simp only [List.append_assoc, List.length_append]
  congr 4; omega
def realmP (vl : List UInt8) (nd : UInt64) : List UInt8 := ovr (ovr (List.replicate 128 (0 : UInt8)) 0 ([114, 101, 97, 108, 109] : List UInt8)) 8 [vl, leN 8 nd.toNat].flatten
theorem realmP_fl {vl : List UInt8} {nd : UInt64} (h : vl.length = 32) : ([vl, leN 8 nd.toNat].flatten).length = 40 := by
  simp [leN_len, h]
theorem realm_eq {vl : List UInt8} {nd : UInt64} (h : vl.length = 32) : realmP vl nd = realmB vl nd := by
  rw [realmP, realmB, gr_P (by decide) (by rw [realmP_fl h]; decide), gr_B (by rw [realmB_fl h]; decide), realmP_fl h, realmB_fl h]
  simp [← List.append_assoc]
def recL (pc : UInt64) (rg : List UInt64) (run : Bool) : List (List UInt8) := [leN 8 pc.toNat, leN 8 (rg.getD 0 0).toNat, leN 8 (rg.getD 1 0).toNat, leN 8 (rg.getD 2 0).toNat, leN 8 (rg.getD 3 0).toNat, leN 8 (rg.getD 4 0).toNat, leN 8 (rg.getD 5 0).toNat, leN 8 (rg.getD 6 0).toNat, leN 8 (rg.getD 7 0).toNat] ++ (bif run then [[1]] else [])
def recP (pc : UInt64) (rg : List UInt64) (run : Bool) : List UInt8 := ovr (ovr (List.replicate 128 (0 : UInt8)) 0 ([114, 101, 99] : List UInt8)) 8 (recL pc rg run).flatten
def regsB (rg : List UInt64) : List UInt8 := ((((((((([] : List UInt8) ++ leN 8 (rg.getD 0 0).toNat) ++ leN 8 (rg.getD 1 0).toNat) ++ leN 8 (rg.getD 2 0).toNat) ++ leN 8 (rg.getD 3 0).toNat) ++ leN 8 (rg.getD 4 0).toNat) ++ leN 8 (rg.getD 5 0).toNat) ++ leN 8 (rg.getD 6 0).toNat) ++ leN 8 (rg.getD 7 0).toNat)
theorem regsB_len (rg : List UInt64) : (regsB rg).length = 64 := by simp [regsB, leN_len]
def recB (pc : UInt64) (rg : List UInt64) (run : Bool) : List UInt8 := ovr (List.replicate 128 (0 : UInt8)) 0 [(([114, 101, 99] : List UInt8) ++ List.replicate (8 - 3) (0 : UInt8)), leN 8 pc.toNat, regsB rg, [bif run then 1 else 0]].flatten
theorem recB_fl (pc : UInt64) (rg : List UInt64) (run : Bool) : ([(([114, 101, 99] : List UInt8) ++ List.replicate (8 - 3) (0 : UInt8)), leN 8 pc.toNat, regsB rg, [bif run then 1 else 0]].flatten).length = 81 := by
  simp [leN_len, regsB_len]
theorem recB_len (pc : UInt64) (rg : List UInt64) (run : Bool) : (recB pc rg run).length = 128 := ovr_len (List.length_replicate ..) (by rw [recB_fl]; decide)
theorem recP_fl (pc : UInt64) (rg : List UInt64) (run : Bool) : ((recL pc rg run).flatten).length = 72 + run.toNat := by
  cases run <;> simp [recL, leN_len]
theorem rec_eq (pc : UInt64) (rg : List UInt64) (run : Bool) : recP pc rg run = recB pc rg run := by
  rw [recP, recB, gr_P (by decide) (by rw [recP_fl]; cases run <;> decide), gr_B (by rw [recB_fl]; decide), recP_fl, recB_fl]
  cases run <;> simp [recL, regsB]
theorem c_get (a : Option Addr) (n cap : Nat) (bs : List UInt8) (hl : bs.length = n) (h8 : n ≤ 8) (w : World) (hv : View w a (bs.map vu8)) :
    Cs Try.prog 58 [(.slice a n cap)].toArray w (fun v w1 => v = vu64 (UInt64.ofNat (natLE bs)) ∧ Chg w w1 []) := by
  refine Cs.of (n := 22) (args := [(.slice a n cap)]) Try.func58 rfl rfl rfl ?_
  have h_0 := HP.init w
  have h_00 := h_0.old (View.arg hv) (fun f hf => by cases hf)
  refine WP.seq ?_
  refine WP.reg ?_
  refine WL.q (Wn.no rfl) rfl rfl (R.assign (v := (vu64 0)) rfl) ?_
  refine WL.nil ?_
  refine thn_n ?_
  refine WP.seq ?_
  refine WP.reg ?_
  refine WL.q (Wn.no rfl) rfl rfl (R.assign (v := (vu64 0)) rfl) ?_
  refine WL.nil ?_
  refine thn_n ?_
  refine WP.seq ?_
  refine WP.seq ?_
  refine WP.reg ?_
  refine WL.q (Wn.no rfl) rfl rfl (R.move (v := (.slice a n cap)) rfl) ?_
  refine WL.q (Wn.no rfl) rfl rfl (R.lenS (a := a) (m := n) rfl rfl Try.underlying90) ?_
  refine WL.q (Wn.no rfl) rfl rfl (R.move (v := (vi 0)) rfl) ?_
  refine WL.nil ?_
  refine thn_n ?_
  refine WP.block ?_
  refine WP.loopG (G := Nat) [3, 4, 5, 8, 9, 10, 11, 12, 13, 14, 15, 16, 17, 18, 19, 20] (fun k => [(3, (vu64 (UInt64.ofNat (natLE (bs.take k))))), (8, (vi ((k : Nat) : Int)))]) (fun k m w1 => HP w w1 [.view a (bs.map vu8)] ∧ (k ≤ n) ∧ m = n - k) ⟨0, _, ⟨rfl, rfl, trivial⟩, h_00, Nat.zero_le _, rfl⟩ ?_
  rintro k m_3 J_4 w_1 ⟨h_2, hk, rfl⟩
  refine WP.seq ?_
  refine WP.reg ?_
  refine WL.q (Wn.no rfl) rfl rfl (R.bin (v := (.bool (decide ((((k : Nat) : Int) : Int) < ((n : Nat) : Int))))) rfl rfl (bi_lss (r := decide ((((k : Nat) : Int) : Int) < ((n : Nat) : Int))) rfl)) ?_
  refine WL.nil ?_
  refine thn_n ?_
  refine WP.seq ?_
  refine WP.cond (b := decide ((((k : Nat) : Int) : Int) < ((n : Nat) : Int))) rfl (fun c_5 => ?_) (fun c_5 => ?_)
  · have p_6 := of_decide_eq_true c_5
    refine WP.skip ?_
    refine thn_n ?_
    refine WP.seq ?_
    refine WP.block ?_
    refine WP.seq ?_
    refine WP.reg ?_
    refine WL.q (Wn.no rfl) rfl rfl (R.move (v := (vi ((k : Nat) : Int))) rfl) ?_
    refine WL.q (Wn.no rfl) rfl rfl (R.indexS (a := a) (i := k) (off := k) (xs := bs.map vu8) rfl rfl rfl (by omega) (viewV (h_2.ok _ (.head _))) (by simp only [List.length_map]; omega) Try.underlying90 Try.sizeOf5 (Nat.mul_one _).symm) ?_
    refine WL.q (Wn.no rfl) rfl rfl (R.loadG (a := a) (i := k) (xs := bs.map vu8) (v := (vu8 (bs.getD k 0))) rfl (viewV (h_2.ok _ (.head _))) Try.isAgg5 (get_u8 (by omega))) ?_
    refine WL.q (Wn.no rfl) rfl rfl (R.assign (v := (vi ((k : Nat) : Int))) rfl) ?_
    refine WL.q (Wn.no rfl) rfl rfl (R.assign (v := (vu8 (bs.getD k 0))) rfl) ?_
    refine WL.nil ?_
    refine thn_n ?_
    refine WP.reg ?_
    refine WL.q (Wn.no rfl) rfl rfl (R.move (v := (vu64 (UInt64.ofNat (natLE (bs.take k))))) rfl) ?_
    refine WL.q (Wn.no rfl) rfl rfl (R.move (v := (vu8 (bs.getD k 0))) rfl) ?_
    refine WL.q (Wn.no rfl) rfl rfl (R.conv (b := ((UInt64.ofNat ((bs.getD k 0).toNat)) : UInt64).toNat) rfl Try.underlying5 Try.underlying22 (w64_nat ((bs.getD k 0).toNat))) ?_
    refine WL.q (Wn.no rfl) rfl rfl (R.move (v := (vi ((k : Nat) : Int))) rfl) ?_
    refine WL.q (Wn.no rfl) rfl rfl (R.bin (v := (vi ((8 * k : Nat) : Int))) rfl rfl (bi_mul (c := ((8 * k : Nat) : Int)) (by omega) (by omega))) ?_
    refine WL.q (Wn.no rfl) rfl rfl (R.binR (v := vu64 (shl64 (UInt64.ofNat ((bs.getD k 0).toNat)) (8 * k))) rfl rfl (run_shl64 _ _ _ (UInt64.ofNat ((bs.getD k 0).toNat)) _ (8 * k))) ?_
    refine WL.q (Wn.no rfl) rfl rfl (R.bin (v := (vu64 ((UInt64.ofNat (natLE (bs.take k))) ||| (shl64 (UInt64.ofNat ((bs.getD k 0).toNat)) (8 * k))))) rfl rfl (b64_or (UInt64.ofNat (natLE (bs.take k))) (shl64 (UInt64.ofNat ((bs.getD k 0).toNat)) (8 * k)))) ?_
    refine WL.q (Wn.no rfl) rfl rfl (R.assign (v := (vu64 ((UInt64.ofNat (natLE (bs.take k))) ||| (shl64 (UInt64.ofNat ((bs.getD k 0).toNat)) (8 * k))))) rfl) ?_
    refine WL.nil ?_
    refine inb_n ?_
    refine thn_n ?_
    refine WP.reg ?_
    refine WL.q (Wn.no rfl) rfl rfl (R.bin (v := (vi ((k + 1 : Nat) : Int))) rfl rfl (bi_add (c := ((k + 1 : Nat) : Int)) (by omega) (by omega))) ?_
    refine WL.q (Wn.no rfl) rfl rfl (R.move (v := (vi ((k + 1 : Nat) : Int))) rfl) ?_
    refine WL.nil ?_
    refine thn_n ?_
    exact ⟨k + 1, _, (by omega), (Ag.upd rfl (Ag.upd rfl (Ag.upd rfl (Ag.upd rfl (Ag.upd rfl (Ag.upd rfl (Ag.upd rfl (Ag.upd rfl (Ag.upd rfl (Ag.upd rfl (Ag.upd rfl (Ag.upd rfl (Ag.upd rfl (Ag.upd rfl (Ag.upd rfl (Ag.upd rfl (Ag.updL rfl (Ag.mix _ _ _)))))))))))))))))), ⟨congrArg (fun x : UInt64 => vu64 x) (by rw [natLE_take bs k (by omega)]; exact or_shl (by have := natLE_lt (bs.take k); rwa [List.length_take, Nat.min_eq_left (by omega)] at this) (by omega) (UInt8.toNat_lt _)), rfl, trivial⟩, h_2, (by omega), rfl⟩
  · have p_7 := of_decide_eq_false c_5
    refine WP.exit ?_
    refine thn_x ?_
    refine thn_x ?_
    refine inb_hit ?_
    refine thn_n ?_
    refine WP.seq ?_
    refine WP.reg ?_
    refine WL.q (Wn.no rfl) rfl rfl (R.move (v := (vu64 (UInt64.ofNat (natLE (bs.take k))))) rfl) ?_
    refine WL.q (Wn.no rfl) rfl rfl (R.assign (v := (vu64 (UInt64.ofNat (natLE (bs.take k))))) rfl) ?_
    refine WL.nil ?_
    refine thn_n ?_
    refine WP.ret ?_
    refine ret_of Try.results58 (RV.tmp (v := (vu64 (UInt64.ofNat (natLE (bs.take k))))) rfl RV.nil) ?_
    have hkn : k = n := by omega
    subst hkn
    exact ⟨by rw [List.take_of_length_le (by omega)]; rfl, h_2.chgS⟩

theorem shr_zero (x : UInt64) (k : Nat) : shr64 x (8 * k) = 0 ↔ x.toNat < 256 ^ k := by
  have hx := x.toNat_lt
  have h1 : x.toNat / 2 ^ (8 * k) ≤ x.toNat := Nat.div_le_self _ _
  rw [← UInt64.toNat_inj, shr64, pow256]
  have h2 : (UInt64.ofNat (x.toNat / 2 ^ (8 * k))).toNat = x.toNat / 2 ^ (8 * k) := by simp; omega
  rw [h2]
  show x.toNat / 2 ^ (8 * k) = 0 ↔ _
  rw [Nat.div_eq_zero_iff]
  have : 0 < 2 ^ (8 * k) := Nat.pow_pos (by omega)
  omega

theorem c_Put_a (x : UInt64) (n : Nat) (h1 : 1 ≤ n) (h8 : n < 8) (hx : x.toNat < 256 ^ n) (w : World) :
    Cs Try.prog 59 [(vu64 x), (vi ((n : Nat) : Int))].toArray w (fun v w1 => ∃ a cap, v = .tuple [.slice a n cap, vi 0].toArray ∧ Chg w w1 [] ∧ Own w.heap.size w1 5 1 a n cap ((leN n x.toNat).map vu8)) := by
  refine Cs.of (n := 39) (args := [(vu64 x), (vi ((n : Nat) : Int))]) Try.func59 rfl rfl rfl ?_
  have h_0 := HP.init w
  refine WP.seq ?_
  refine WP.reg ?_
  refine WL.q (Wn.no rfl) rfl rfl (R.assign (v := (.slice none 0 0)) rfl) ?_
  refine WL.q (Wn.no rfl) rfl rfl (R.assign (v := (vi 0)) rfl) ?_
  refine WL.nil ?_
  refine thn_n ?_
  refine WP.seq ?_
  refine WP.seq ?_
  refine WP.reg ?_
  refine WL.q (Wn.no rfl) rfl rfl (R.move (v := (vi ((n : Nat) : Int))) rfl) ?_
  refine WL.q (Wn.no rfl) rfl rfl (R.bin (v := (.bool (decide ((((n : Nat) : Int) : Int) < 1)))) rfl rfl (bi_lss (r := decide ((((n : Nat) : Int) : Int) < 1)) rfl)) ?_
  refine WL.q (Wn.no rfl) rfl rfl (R.move (v := (.bool (decide ((((n : Nat) : Int) : Int) < 1)))) rfl) ?_
  refine WL.want rfl (congrArg Value.bool (decide_eq_false (by omega))) ?_
  refine WL.q (Wn.no rfl) rfl rfl (R.move (v := (vi ((n : Nat) : Int))) rfl) ?_
  refine WL.want rfl (congrArg Value.bool (decide_eq_false (by omega))) ?_
  refine WL.q (Wn.no rfl) rfl rfl (R.bin (v := (.bool (decide ((((n : Nat) : Int) : Int) > 8)))) rfl rfl (bi_gtr (r := decide ((((n : Nat) : Int) : Int) > 8)) rfl)) ?_
  refine WL.q (Wn.no rfl) rfl rfl (R.pickF (v := (.bool (decide ((((n : Nat) : Int) : Int) > 8)))) (congrArg Value.bool (decide_eq_false (by omega))) rfl) ?_
  refine WL.q (Wn.no rfl) rfl rfl (R.move (v := (.bool (decide ((((n : Nat) : Int) : Int) > 8)))) rfl) ?_
  refine WL.want rfl (congrArg Value.bool (decide_eq_false (by omega))) ?_
  refine WL.q (Wn.no rfl) rfl rfl (R.move (v := (vi ((n : Nat) : Int))) rfl) ?_
  refine WL.want rfl (congrArg Value.bool (decide_eq_false (by omega))) ?_
  refine WL.q (Wn.no rfl) rfl rfl (R.bin (v := (.bool (decide ((((n : Nat) : Int) : Int) < 8)))) rfl rfl (bi_lss (r := decide ((((n : Nat) : Int) : Int) < 8)) rfl)) ?_
  refine WL.want rfl (congrArg Value.bool (decide_eq_false (by omega))) ?_
  refine WL.q (Wn.no rfl) rfl rfl (R.move (v := (.bool (decide ((((n : Nat) : Int) : Int) < 8)))) rfl) ?_
  refine WL.want rfl (congrArg Value.bool (decide_eq_true (by omega))) ?_
  refine WL.q (Wn.no rfl) rfl rfl (R.move (v := (vu64 x)) rfl) ?_
  refine WL.want rfl (congrArg Value.bool (decide_eq_true (by omega))) ?_
  refine WL.q (Wn.no rfl) rfl rfl (R.move (v := (vi ((n : Nat) : Int))) rfl) ?_
  refine WL.want rfl (congrArg Value.bool (decide_eq_true (by omega))) ?_
  refine WL.q (Wn.no rfl) rfl rfl (R.bin (v := (vi ((8 * n : Nat) : Int))) rfl rfl (bi_mul (c := ((8 * n : Nat) : Int)) (by omega) (by omega))) ?_
  refine WL.want rfl (congrArg Value.bool (decide_eq_true (by omega))) ?_
  refine WL.q (Wn.no rfl) rfl rfl (R.binR (v := vu64 (shr64 x (8 * n))) rfl rfl (run_shr64 _ _ _ x _ (8 * n))) ?_
  refine WL.want rfl (congrArg Value.bool (decide_eq_true (by omega))) ?_
  refine WL.q (Wn.no rfl) rfl rfl (R.bin (v := (.bool (decide ((shr64 x (8 * n) : UInt64) ≠ 0)))) rfl rfl (b64_neq (shr64 x (8 * n)) 0 (r := decide ((shr64 x (8 * n) : UInt64) ≠ 0)) rfl)) ?_
  refine WL.want rfl (congrArg Value.bool (decide_eq_false (by omega))) ?_
  refine WL.q (Wn.no rfl) rfl rfl (R.pickT (v := (.bool (decide ((shr64 x (8 * n) : UInt64) ≠ 0)))) (congrArg Value.bool (decide_eq_true (by omega))) rfl) ?_
  refine WL.q (Wn.no rfl) rfl rfl (R.pickF (v := (.bool (decide ((shr64 x (8 * n) : UInt64) ≠ 0)))) (congrArg Value.bool (decide_eq_false (by omega))) rfl) ?_
  refine WL.nil ?_
  refine thn_n ?_
  refine WP.condF (congrArg Value.bool (decide_eq_false (fun h => h ((shr_zero x n).2 hx)))) ?_
  refine WP.skip ?_
  refine thn_n ?_
  refine WP.seq ?_
  refine WP.reg ?_
  refine WL.q (Wn.no rfl) rfl rfl (R.assign (v := (.slice none 0 0)) rfl) ?_
  refine WL.nil ?_
  refine thn_n ?_
  refine WP.seq ?_
  refine WP.seq ?_
  refine WP.reg ?_
  refine WL.q (Wn.no rfl) rfl rfl (R.move (v := (vi ((n : Nat) : Int))) rfl) ?_
  refine WL.q (Wn.no rfl) rfl rfl (R.move (v := (vi 0)) rfl) ?_
  refine WL.nil ?_
  refine thn_n ?_
  refine WP.block ?_
  have h_1 := h_0.rowNil 5 1
  refine WP.loopG (G := Nat × Option Addr × Nat) [6, 7, 26, 27, 28, 29, 30, 31, 32, 33, 34, 35, 36, 37] (fun (k, a, cap) => [(6, (.slice a k cap)), (26, (vi ((k : Nat) : Int)))]) (fun (k, a, cap) m w1 => HP w w1 [.row a k cap 5 1 ((leN k x.toNat).map vu8)] ∧ (k ≤ n) ∧ m = n - k) ⟨(0, none, 0), _, ⟨rfl, rfl, trivial⟩, h_1, Nat.zero_le _, rfl⟩ ?_
  rintro ⟨k, a, cap⟩ m_4 J_5 w_2 ⟨h_3, hk, rfl⟩
  refine WP.seq ?_
  refine WP.reg ?_
  refine WL.q (Wn.no rfl) rfl rfl (R.bin (v := (.bool (decide ((((k : Nat) : Int) : Int) < ((n : Nat) : Int))))) rfl rfl (bi_lss (r := decide ((((k : Nat) : Int) : Int) < ((n : Nat) : Int))) rfl)) ?_
  refine WL.nil ?_
  refine thn_n ?_
  refine WP.seq ?_
  refine WP.cond (b := decide ((((k : Nat) : Int) : Int) < ((n : Nat) : Int))) rfl (fun c_6 => ?_) (fun c_6 => ?_)
  · have p_7 := of_decide_eq_true c_6
    refine WP.skip ?_
    refine thn_n ?_
    refine WP.seq ?_
    refine WP.block ?_
    refine WP.seq ?_
    refine WP.reg ?_
    refine WL.q (Wn.no rfl) rfl rfl (R.move (v := (vi ((k : Nat) : Int))) rfl) ?_
    refine WL.q (Wn.no rfl) rfl rfl (R.assign (v := (vi ((k : Nat) : Int))) rfl) ?_
    refine WL.nil ?_
    refine thn_n ?_
    refine WP.reg ?_
    refine WL.q (Wn.no rfl) rfl rfl (R.move (v := (.slice a k cap)) rfl) ?_
    refine WL.q (Wn.no rfl) rfl rfl (R.move (v := (vu64 x)) rfl) ?_
    refine WL.q (Wn.no rfl) rfl rfl (R.move (v := (vi ((k : Nat) : Int))) rfl) ?_
    refine WL.q (Wn.no rfl) rfl rfl (R.bin (v := (vi ((8 * k : Nat) : Int))) rfl rfl (bi_mul (c := ((8 * k : Nat) : Int)) (by omega) (by omega))) ?_
    refine WL.q (Wn.no rfl) rfl rfl (R.binR (v := vu64 (shr64 x (8 * k))) rfl rfl (run_shr64 _ _ _ x _ (8 * k))) ?_
    refine WL.q (Wn.no rfl) rfl rfl (R.conv (b := ((UInt8.ofNat ((shr64 x (8 * k)).toNat)) : UInt8).toNat) rfl Try.underlying22 Try.underlying5 (w8_nat ((shr64 x (8 * k)).toNat))) ?_
    refine WL.buildSl (vs := [(0, (vu8 (UInt8.ofNat ((shr64 x (8 * k)).toNat))))]) (cs := ([UInt8.ofNat ((shr64 x (8 * k)).toNat)] : List UInt8).map vu8) h_3 Try.underlying90 Try.sizeOf5 (zv Try.typeInfo5 rfl) rfl rfl (by kernel_rfl) rfl (one_u8 _) rfl rfl (fun b_8 w_9 h_10 => ?_)
    refine WL.append (km := k + 1) (xs := (leN k x.toNat).map vu8) (ys := ([UInt8.ofNat ((shr64 x (8 * k)).toNat)] : List UInt8).map vu8) (zs := ((leN k x.toNat).map vu8) ++ (([UInt8.ofNat ((shr64 x (8 * k)).toNat)] : List UInt8).map vu8)) h_10 rfl rfl el90 (viewB (h_10.ok _ (.head _)) Sg.h) ((len_map (rfl : List.length ([UInt8.ofNat ((shr64 x (8 * k)).toNat)] : List UInt8) = 1)).trans (Nat.mul_one _).symm) (one_u8 _) rfl rfl (by omega) (by omega) (fun _ _ => (At.t At.h)) rfl (fun a_11 c_12 w_13 h_14 => ?_)
    refine WL.q (Wn.no rfl) rfl rfl (R.assign (v := (.slice a_11 (k + 1) c_12)) rfl) ?_
    refine WL.nil ?_
    refine inb_n ?_
    refine thn_n ?_
    refine WP.reg ?_
    refine WL.q (Wn.no rfl) rfl rfl (R.bin (v := (vi ((k + 1 : Nat) : Int))) rfl rfl (bi_add (c := ((k + 1 : Nat) : Int)) (by omega) (by omega))) ?_
    refine WL.q (Wn.no rfl) rfl rfl (R.move (v := (vi ((k + 1 : Nat) : Int))) rfl) ?_
    refine WL.nil ?_
    refine thn_n ?_
    have h_15 := h_14.drop rfl
    have e : leN k x.toNat ++ ([UInt8.ofNat (shr64 x (8 * k)).toNat] : List UInt8) = leN (k + 1) x.toNat := by rw [leN_snoc, shr_byte]
    rw [show ((leN k x.toNat).map vu8) ++ (([UInt8.ofNat ((shr64 x (8 * k)).toNat)] : List UInt8).map vu8) = (leN (k + 1) x.toNat).map vu8 from by rw [← e, List.map_append]] at h_15
    exact ⟨(k + 1, a_11, c_12), _, (by omega), (Ag.upd rfl (Ag.upd rfl (Ag.upd rfl (Ag.upd rfl (Ag.upd rfl (Ag.upd rfl (Ag.upd rfl (Ag.upd rfl (Ag.upd rfl (Ag.upd rfl (Ag.upd rfl (Ag.upd rfl (Ag.upd rfl (Ag.upd rfl (Ag.updL rfl (Ag.mix _ _ _)))))))))))))))), ⟨rfl, rfl, trivial⟩, h_15, (by omega), rfl⟩
  · have p_17 := of_decide_eq_false c_6
    refine WP.exit ?_
    refine thn_x ?_
    refine thn_x ?_
    refine inb_hit ?_
    refine thn_n ?_
    refine WP.seq ?_
    refine WP.reg ?_
    refine WL.q (Wn.no rfl) rfl rfl (R.move (v := (.slice a k cap)) rfl) ?_
    refine WL.q (Wn.no rfl) rfl rfl (R.assign (v := (.slice a k cap)) rfl) ?_
    refine WL.q (Wn.no rfl) rfl rfl (R.assign (v := (vi 0)) rfl) ?_
    refine WL.nil ?_
    refine thn_n ?_
    refine WP.ret ?_
    refine ret_of Try.results59 (RV.tmp (v := (.slice a k cap)) rfl (RV.tmp (v := (vi 0)) rfl RV.nil)) ?_
    have hkn : k = n := by omega
    subst hkn
    exact ⟨_, _, rfl, h_3.chgS, h_3.ok _ (.head _)⟩

theorem c_Put_b (x : UInt64) (n : Nat) (h8 : n = 8) (w : World) :
    Cs Try.prog 59 [(vu64 x), (vi ((n : Nat) : Int))].toArray w (fun v w1 => ∃ a cap, v = .tuple [.slice a n cap, vi 0].toArray ∧ Chg w w1 [] ∧ Own w.heap.size w1 5 1 a n cap ((leN n x.toNat).map vu8)) := by
  refine Cs.of (n := 39) (args := [(vu64 x), (vi ((n : Nat) : Int))]) Try.func59 rfl rfl rfl ?_
  have h_0 := HP.init w
  refine WP.seq ?_
  refine WP.reg ?_
  refine WL.q (Wn.no rfl) rfl rfl (R.assign (v := (.slice none 0 0)) rfl) ?_
  refine WL.q (Wn.no rfl) rfl rfl (R.assign (v := (vi 0)) rfl) ?_
  refine WL.nil ?_
  refine thn_n ?_
  refine WP.seq ?_
  refine WP.seq ?_
  refine WP.reg ?_
  refine WL.q (Wn.no rfl) rfl rfl (R.move (v := (vi ((n : Nat) : Int))) rfl) ?_
  refine WL.q (Wn.no rfl) rfl rfl (R.bin (v := (.bool (decide ((((n : Nat) : Int) : Int) < 1)))) rfl rfl (bi_lss (r := decide ((((n : Nat) : Int) : Int) < 1)) rfl)) ?_
  refine WL.q (Wn.no rfl) rfl rfl (R.move (v := (.bool (decide ((((n : Nat) : Int) : Int) < 1)))) rfl) ?_
  refine WL.want rfl (congrArg Value.bool (decide_eq_false (by omega))) ?_
  refine WL.q (Wn.no rfl) rfl rfl (R.move (v := (vi ((n : Nat) : Int))) rfl) ?_
  refine WL.want rfl (congrArg Value.bool (decide_eq_false (by omega))) ?_
  refine WL.q (Wn.no rfl) rfl rfl (R.bin (v := (.bool (decide ((((n : Nat) : Int) : Int) > 8)))) rfl rfl (bi_gtr (r := decide ((((n : Nat) : Int) : Int) > 8)) rfl)) ?_
  refine WL.q (Wn.no rfl) rfl rfl (R.pickF (v := (.bool (decide ((((n : Nat) : Int) : Int) > 8)))) (congrArg Value.bool (decide_eq_false (by omega))) rfl) ?_
  refine WL.q (Wn.no rfl) rfl rfl (R.move (v := (.bool (decide ((((n : Nat) : Int) : Int) > 8)))) rfl) ?_
  refine WL.want rfl (congrArg Value.bool (decide_eq_false (by omega))) ?_
  refine WL.q (Wn.no rfl) rfl rfl (R.move (v := (vi ((n : Nat) : Int))) rfl) ?_
  refine WL.want rfl (congrArg Value.bool (decide_eq_false (by omega))) ?_
  refine WL.q (Wn.no rfl) rfl rfl (R.bin (v := (.bool (decide ((((n : Nat) : Int) : Int) < 8)))) rfl rfl (bi_lss (r := decide ((((n : Nat) : Int) : Int) < 8)) rfl)) ?_
  refine WL.want rfl (congrArg Value.bool (decide_eq_false (by omega))) ?_
  refine WL.q (Wn.no rfl) rfl rfl (R.move (v := (.bool (decide ((((n : Nat) : Int) : Int) < 8)))) rfl) ?_
  refine WL.skip rfl (congrArg Value.bool (decide_eq_false (by omega))) rfl ?_
  refine WL.skip rfl (congrArg Value.bool (decide_eq_false (by omega))) rfl ?_
  refine WL.skip rfl (congrArg Value.bool (decide_eq_false (by omega))) rfl ?_
  refine WL.skip rfl (congrArg Value.bool (decide_eq_false (by omega))) rfl ?_
  refine WL.skip rfl (congrArg Value.bool (decide_eq_false (by omega))) rfl ?_
  refine WL.want rfl (congrArg Value.bool (decide_eq_false (by omega))) ?_
  refine WL.q (Wn.no rfl) rfl rfl (R.pickF (v := (.bool false)) (congrArg Value.bool (decide_eq_false (by omega))) rfl) ?_
  refine WL.q (Wn.no rfl) rfl rfl (R.pickF (v := (.bool false)) (congrArg Value.bool (decide_eq_false (by omega))) rfl) ?_
  refine WL.nil ?_
  refine thn_n ?_
  refine WP.condF rfl ?_
  refine WP.skip ?_
  refine thn_n ?_
  refine WP.seq ?_
  refine WP.reg ?_
  refine WL.q (Wn.no rfl) rfl rfl (R.assign (v := (.slice none 0 0)) rfl) ?_
  refine WL.nil ?_
  refine thn_n ?_
  refine WP.seq ?_
  refine WP.seq ?_
  refine WP.reg ?_
  refine WL.q (Wn.no rfl) rfl rfl (R.move (v := (vi ((n : Nat) : Int))) rfl) ?_
  refine WL.q (Wn.no rfl) rfl rfl (R.move (v := (vi 0)) rfl) ?_
  refine WL.nil ?_
  refine thn_n ?_
  refine WP.block ?_
  have h_1 := h_0.rowNil 5 1
  refine WP.loopG (G := Nat × Option Addr × Nat) [6, 7, 26, 27, 28, 29, 30, 31, 32, 33, 34, 35, 36, 37] (fun (k, a, cap) => [(6, (.slice a k cap)), (26, (vi ((k : Nat) : Int)))]) (fun (k, a, cap) m w1 => HP w w1 [.row a k cap 5 1 ((leN k x.toNat).map vu8)] ∧ (k ≤ n) ∧ m = n - k) ⟨(0, none, 0), _, ⟨rfl, rfl, trivial⟩, h_1, Nat.zero_le _, rfl⟩ ?_
  rintro ⟨k, a, cap⟩ m_4 J_5 w_2 ⟨h_3, hk, rfl⟩
  refine WP.seq ?_
  refine WP.reg ?_
  refine WL.q (Wn.no rfl) rfl rfl (R.bin (v := (.bool (decide ((((k : Nat) : Int) : Int) < ((n : Nat) : Int))))) rfl rfl (bi_lss (r := decide ((((k : Nat) : Int) : Int) < ((n : Nat) : Int))) rfl)) ?_
  refine WL.nil ?_
  refine thn_n ?_
  refine WP.seq ?_
  refine WP.cond (b := decide ((((k : Nat) : Int) : Int) < ((n : Nat) : Int))) rfl (fun c_6 => ?_) (fun c_6 => ?_)
  · have p_7 := of_decide_eq_true c_6
    refine WP.skip ?_
    refine thn_n ?_
    refine WP.seq ?_
    refine WP.block ?_
    refine WP.seq ?_
    refine WP.reg ?_
    refine WL.q (Wn.no rfl) rfl rfl (R.move (v := (vi ((k : Nat) : Int))) rfl) ?_
    refine WL.q (Wn.no rfl) rfl rfl (R.assign (v := (vi ((k : Nat) : Int))) rfl) ?_
    refine WL.nil ?_
    refine thn_n ?_
    refine WP.reg ?_
    refine WL.q (Wn.no rfl) rfl rfl (R.move (v := (.slice a k cap)) rfl) ?_
    refine WL.q (Wn.no rfl) rfl rfl (R.move (v := (vu64 x)) rfl) ?_
    refine WL.q (Wn.no rfl) rfl rfl (R.move (v := (vi ((k : Nat) : Int))) rfl) ?_
    refine WL.q (Wn.no rfl) rfl rfl (R.bin (v := (vi ((8 * k : Nat) : Int))) rfl rfl (bi_mul (c := ((8 * k : Nat) : Int)) (by omega) (by omega))) ?_
    refine WL.q (Wn.no rfl) rfl rfl (R.binR (v := vu64 (shr64 x (8 * k))) rfl rfl (run_shr64 _ _ _ x _ (8 * k))) ?_
    refine WL.q (Wn.no rfl) rfl rfl (R.conv (b := ((UInt8.ofNat ((shr64 x (8 * k)).toNat)) : UInt8).toNat) rfl Try.underlying22 Try.underlying5 (w8_nat ((shr64 x (8 * k)).toNat))) ?_
    refine WL.buildSl (vs := [(0, (vu8 (UInt8.ofNat ((shr64 x (8 * k)).toNat))))]) (cs := ([UInt8.ofNat ((shr64 x (8 * k)).toNat)] : List UInt8).map vu8) h_3 Try.underlying90 Try.sizeOf5 (zv Try.typeInfo5 rfl) rfl rfl (by kernel_rfl) rfl (one_u8 _) rfl rfl (fun b_8 w_9 h_10 => ?_)
    refine WL.append (km := k + 1) (xs := (leN k x.toNat).map vu8) (ys := ([UInt8.ofNat ((shr64 x (8 * k)).toNat)] : List UInt8).map vu8) (zs := ((leN k x.toNat).map vu8) ++ (([UInt8.ofNat ((shr64 x (8 * k)).toNat)] : List UInt8).map vu8)) h_10 rfl rfl el90 (viewB (h_10.ok _ (.head _)) Sg.h) ((len_map (rfl : List.length ([UInt8.ofNat ((shr64 x (8 * k)).toNat)] : List UInt8) = 1)).trans (Nat.mul_one _).symm) (one_u8 _) rfl rfl (by omega) (by omega) (fun _ _ => (At.t At.h)) rfl (fun a_11 c_12 w_13 h_14 => ?_)
    refine WL.q (Wn.no rfl) rfl rfl (R.assign (v := (.slice a_11 (k + 1) c_12)) rfl) ?_
    refine WL.nil ?_
    refine inb_n ?_
    refine thn_n ?_
    refine WP.reg ?_
    refine WL.q (Wn.no rfl) rfl rfl (R.bin (v := (vi ((k + 1 : Nat) : Int))) rfl rfl (bi_add (c := ((k + 1 : Nat) : Int)) (by omega) (by omega))) ?_
    refine WL.q (Wn.no rfl) rfl rfl (R.move (v := (vi ((k + 1 : Nat) : Int))) rfl) ?_
    refine WL.nil ?_
    refine thn_n ?_
    have h_15 := h_14.drop rfl
    have e : leN k x.toNat ++ ([UInt8.ofNat (shr64 x (8 * k)).toNat] : List UInt8) = leN (k + 1) x.toNat := by rw [leN_snoc, shr_byte]
    rw [show ((leN k x.toNat).map vu8) ++ (([UInt8.ofNat ((shr64 x (8 * k)).toNat)] : List UInt8).map vu8) = (leN (k + 1) x.toNat).map vu8 from by rw [← e, List.map_append]] at h_15
    exact ⟨(k + 1, a_11, c_12), _, (by omega), (Ag.upd rfl (Ag.upd rfl (Ag.upd rfl (Ag.upd rfl (Ag.upd rfl (Ag.upd rfl (Ag.upd rfl (Ag.upd rfl (Ag.upd rfl (Ag.upd rfl (Ag.upd rfl (Ag.upd rfl (Ag.upd rfl (Ag.upd rfl (Ag.updL rfl (Ag.mix _ _ _)))))))))))))))), ⟨rfl, rfl, trivial⟩, h_15, (by omega), rfl⟩
  · have p_17 := of_decide_eq_false c_6
    refine WP.exit ?_
    refine thn_x ?_
    refine thn_x ?_
    refine inb_hit ?_
    refine thn_n ?_
    refine WP.seq ?_
    refine WP.reg ?_
    refine WL.q (Wn.no rfl) rfl rfl (R.move (v := (.slice a k cap)) rfl) ?_
    refine WL.q (Wn.no rfl) rfl rfl (R.assign (v := (.slice a k cap)) rfl) ?_
    refine WL.q (Wn.no rfl) rfl rfl (R.assign (v := (vi 0)) rfl) ?_
    refine WL.nil ?_
    refine thn_n ?_
    refine WP.ret ?_
    refine ret_of Try.results59 (RV.tmp (v := (.slice a k cap)) rfl (RV.tmp (v := (vi 0)) rfl RV.nil)) ?_
    have hkn : k = n := by omega
    subst hkn
    exact ⟨_, _, rfl, h_3.chgS, h_3.ok _ (.head _)⟩

theorem c_Word (a : Option Addr) (n cap : Nat) (bs : List UInt8) (hl : bs.length = n) (i : Nat) (hn : n ≤ 9007199254740992) (w : World) (hv : View w a (bs.map vu8)) (hcap : n ≤ cap) :
    Cs Try.prog 48 [(.slice a n cap), (vi ((i : Nat) : Int))].toArray w (fun v w1 => v = vu64 (wordB bs i) ∧ Chg w w1 []) := by
  refine Cs.of (n := 28) (args := [(.slice a n cap), (vi ((i : Nat) : Int))]) Try.func48 rfl rfl rfl ?_
  have h_0 := HP.init w
  have h_00 := h_0.old (View.arg hv) (fun f hf => by cases hf)
  refine WP.seq ?_
  refine WP.reg ?_
  refine WL.q (Wn.no rfl) rfl rfl (R.assign (v := (vu64 0)) rfl) ?_
  refine WL.nil ?_
  refine thn_n ?_
  refine WP.seq ?_
  refine WP.seq ?_
  refine WP.reg ?_
  refine WL.q (Wn.no rfl) rfl rfl (R.move (v := (vi ((i : Nat) : Int))) rfl) ?_
  refine WL.q (Wn.no rfl) rfl rfl (R.bin (v := (.bool (decide ((((i : Nat) : Int) : Int) < 0)))) rfl rfl (bi_lss (r := decide ((((i : Nat) : Int) : Int) < 0)) rfl)) ?_
  refine WL.q (Wn.no rfl) rfl rfl (R.move (v := (.bool (decide ((((i : Nat) : Int) : Int) < 0)))) rfl) ?_
  refine WL.want rfl (congrArg Value.bool (decide_eq_false (by omega))) ?_
  refine WL.q (Wn.no rfl) rfl rfl (R.move (v := (vi ((i : Nat) : Int))) rfl) ?_
  refine WL.want rfl (congrArg Value.bool (decide_eq_false (by omega))) ?_
  refine WL.q (Wn.no rfl) rfl rfl (R.move (v := (.slice a n cap)) rfl) ?_
  refine WL.want rfl (congrArg Value.bool (decide_eq_false (by omega))) ?_
  refine WL.q (Wn.no rfl) rfl rfl (R.lenS (a := a) (m := n) rfl rfl Try.underlying90) ?_
  refine WL.want rfl (congrArg Value.bool (decide_eq_false (by omega))) ?_
  refine WL.q (Wn.no rfl) rfl rfl (R.bin (v := (.bool (decide ((((i : Nat) : Int) : Int) ≥ ((n : Nat) : Int))))) rfl rfl (bi_geq (r := decide ((((i : Nat) : Int) : Int) ≥ ((n : Nat) : Int))) rfl)) ?_
  refine WL.q (Wn.no rfl) rfl rfl (R.pickF (v := (.bool (decide ((((i : Nat) : Int) : Int) ≥ ((n : Nat) : Int))))) (congrArg Value.bool (decide_eq_false (by omega))) rfl) ?_
  refine WL.nil ?_
  refine thn_n ?_
  refine WP.cond (b := decide ((((i : Nat) : Int) : Int) ≥ ((n : Nat) : Int))) rfl (fun c_1 => ?_) (fun c_1 => ?_)
  · have p_2 := of_decide_eq_true c_1
    refine WP.seq ?_
    refine WP.reg ?_
    refine WL.q (Wn.no rfl) rfl rfl (R.assign (v := (vu64 0)) rfl) ?_
    refine WL.nil ?_
    refine thn_n ?_
    refine WP.ret ?_
    refine thn_r ?_
    refine ret_of Try.results48 (RV.tmp (v := (vu64 0)) rfl RV.nil) ?_
    exact ⟨by rw [word_none hl (by omega)]; rfl, h_00.chgS⟩
  · have p_3 := of_decide_eq_false c_1
    refine WP.skip ?_
    refine thn_n ?_
    refine WP.seq ?_
    refine WP.reg ?_
    refine WL.q (Wn.no rfl) rfl rfl (R.move (v := (vi ((i : Nat) : Int))) rfl) ?_
    refine WL.q (Wn.no rfl) rfl rfl (R.bin (v := (vi ((8 * i : Nat) : Int))) rfl rfl (bi_mul (c := ((8 * i : Nat) : Int)) (by omega) (by omega))) ?_
    refine WL.q (Wn.no rfl) rfl rfl (R.move (v := (.slice a n cap)) rfl) ?_
    refine WL.q (Wn.no rfl) rfl rfl (R.lenS (a := a) (m := n) rfl rfl Try.underlying90) ?_
    refine WL.q (Wn.no rfl) rfl rfl (R.minI (c := ((min (8 * i) n : Nat) : Int)) rfl rfl (by split <;> omega)) ?_
    refine WL.q (Wn.no rfl) rfl rfl (R.assign (v := (vi ((min (8 * i) n : Nat) : Int))) rfl) ?_
    refine WL.nil ?_
    refine thn_n ?_
    refine WP.seq ?_
    refine WP.reg ?_
    refine WL.q (Wn.no rfl) rfl rfl (R.move (v := (.slice a n cap)) rfl) ?_
    refine WL.q (Wn.no rfl) rfl rfl (R.move (v := (vi ((min (8 * i) n : Nat) : Int))) rfl) ?_
    refine WL.q (Wn.no rfl) rfl rfl (R.move (v := (vi ((min (8 * i) n : Nat) : Int))) rfl) ?_
    refine WL.q (Wn.no rfl) rfl rfl (R.bin (v := (vi ((min (8 * i) n + 8 : Nat) : Int))) rfl rfl (bi_add (c := ((min (8 * i) n + 8 : Nat) : Int)) (by omega) (by omega))) ?_
    refine WL.q (Wn.no rfl) rfl rfl (R.move (v := (.slice a n cap)) rfl) ?_
    refine WL.q (Wn.no rfl) rfl rfl (R.lenS (a := a) (m := n) rfl rfl Try.underlying90) ?_
    refine WL.q (Wn.no rfl) rfl rfl (R.minI (c := ((min (min (8 * i) n + 8) n : Nat) : Int)) rfl rfl (by split <;> omega)) ?_
    refine WL.q (Wn.no rfl) rfl rfl (R.sliceS (a := a) (len := n) (l := min (8 * i) n) (h := min (min (8 * i) n + 8) n) rfl (EvB.it (l := min (8 * i) n) rfl rfl) (EvB.it (l := min (min (8 * i) n + 8) n) rfl rfl) (by omega) (by omega) Try.underlying90 Try.sizeOf5) ?_
    refine WL.call (al := [(.slice (slA a (min (8 * i) n) cap 1) (min (min (8 * i) n + 8) n - (min (8 * i) n)) (cap - (min (8 * i) n)))]) Try.call58 rfl rfl (c_get (slA a (min (8 * i) n) cap 1) (min (min (8 * i) n + 8) n - (min (8 * i) n)) (cap - (min (8 * i) n)) ((bs.drop (min (8 * i) n)).take (min (min (8 * i) n + 8) n - (min (8 * i) n))) (by simp only [List.length_take, List.length_drop, hl]; omega) (by omega) _ (View.slM (viewV (h_00.ok _ (.head _))) (by omega))) rfl ?_
    rintro _ w_5 ⟨rfl, hc_4⟩
    have h_6 := h_00.same hc_4
    refine WL.q (Wn.no rfl) rfl rfl (R.assign (v := (vu64 (UInt64.ofNat (natLE ((bs.drop (min (8 * i) n)).take (min (min (8 * i) n + 8) n - (min (8 * i) n))))))) rfl) ?_
    refine WL.nil ?_
    refine thn_n ?_
    refine WP.ret ?_
    refine ret_of Try.results48 (RV.tmp (v := (vu64 (UInt64.ofNat (natLE ((bs.drop (min (8 * i) n)).take (min (min (8 * i) n + 8) n - (min (8 * i) n))))))) rfl RV.nil) ?_
    exact ⟨by rw [wordB, ← word_cut hl]; rfl, h_6.chgS⟩

theorem c_MayRealm (vl : List UInt8) (hvl : vl.length = 32) (nd : UInt64) (w : World) :
    Cs Try.prog 19 [(.agg ⟨flat [(32, vl.map vu8), (1, [(vu64 nd)])]⟩)].toArray w (fun v w1 => v = .bool (mayRealm nd) ∧ Chg w w1 []) := by
  refine Cs.of (n := 13) (args := [(.agg ⟨flat [(32, vl.map vu8), (1, [(vu64 nd)])]⟩)]) Try.func19 rfl rfl rfl ?_
  have h_0 := HP.init w
  refine WP.seq ?_
  refine WP.reg ?_
  refine WL.box (v := (.agg ⟨flat [(32, vl.map vu8), (1, [(vu64 nd)])]⟩)) (segs := [(32, vl.map vu8), (1, [(vu64 nd)])]) h_0 rfl rfl (SsOk.cons (SOk.u8 hvl) (SsOk.cons (SOk.v rfl) SsOk.nil)) rfl (fun b_1 w_2 h_3 => ?_)
  refine WL.q (Wn.no rfl) rfl rfl (R.assign (v := (.bool false)) rfl) ?_
  refine WL.nil ?_
  refine thn_n ?_
  refine WP.seq ?_
  refine WP.reg ?_
  refine WL.q (Wn.no rfl) rfl rfl (R.fieldAddr (b := b_1) (off := 0) (off' := 32) rfl Try.underlying51 rfl Try.sizeOf22 rfl rfl) ?_
  refine WL.q (Wn.no rfl) rfl rfl (R.load1 (b := b_1) (off := 32) (v := (vu64 nd)) rfl Try.isAgg22 (h_3.ok _ (.head _)) (Sg.t rfl Sg.h)) ?_
  refine WL.q (Wn.no rfl) rfl rfl (R.bin (v := (vu64 (nd % 128))) rfl rfl (b64_rem nd 128 (by decide))) ?_
  refine WL.q (Wn.no rfl) rfl rfl (R.bin (v := (.bool (decide ((nd % 128 : UInt64) = 0)))) rfl rfl (b64_eql (nd % 128) 0 (r := decide ((nd % 128 : UInt64) = 0)) rfl)) ?_
  refine WL.q (Wn.no rfl) rfl rfl (R.move (v := (.bool (decide ((nd % 128 : UInt64) = 0)))) rfl) ?_
  rcases Bool.eq_false_or_eq_true (decide ((nd % 128 : UInt64) = 0)) with c_4 | c_4
  · have p_5 := of_decide_eq_true c_4
    refine WL.want rfl (congrArg Value.bool c_4) ?_
    refine WL.q (Wn.no rfl) rfl rfl (R.fieldAddr (b := b_1) (off := 0) (off' := 32) rfl Try.underlying51 rfl Try.sizeOf22 rfl rfl) ?_
    refine WL.want rfl (congrArg Value.bool c_4) ?_
    refine WL.q (Wn.no rfl) rfl rfl (R.load1 (b := b_1) (off := 32) (v := (vu64 nd)) rfl Try.isAgg22 (h_3.ok _ (.head _)) (Sg.t rfl Sg.h)) ?_
    refine WL.want rfl (congrArg Value.bool c_4) ?_
    refine WL.q (Wn.no rfl) rfl rfl (R.bin (v := (vu64 (nd / 128))) rfl rfl (b64_quo nd 128 (by decide))) ?_
    refine WL.want rfl (congrArg Value.bool c_4) ?_
    refine WL.q (Wn.no rfl) rfl rfl (R.bin (v := (.bool (decide ((nd / 128 : UInt64) ≤ 4032)))) rfl rfl (b64_leq (nd / 128) 4032 (r := decide ((nd / 128 : UInt64) ≤ 4032)) rfl)) ?_
    refine WL.q (Wn.no rfl) rfl rfl (R.pickT (v := (.bool (decide ((nd / 128 : UInt64) ≤ 4032)))) (congrArg Value.bool c_4) rfl) ?_
    refine WL.q (Wn.no rfl) rfl rfl (R.assign (v := (.bool (decide ((nd / 128 : UInt64) ≤ 4032)))) rfl) ?_
    refine WL.nil ?_
    refine thn_n ?_
    refine WP.ret ?_
    refine ret_of Try.results19 (RV.tmp (v := (.bool (decide ((nd / 128 : UInt64) ≤ 4032)))) rfl RV.nil) ?_
    refine ⟨congrArg Value.bool ?_, h_3.chgS⟩
    show (decide ((nd / 128 : UInt64) ≤ 4032)) = mayRealm nd
    unfold mayRealm
    simp_all
  · have p_6 := of_decide_eq_false c_4
    refine WL.skip rfl (congrArg Value.bool c_4) rfl ?_
    refine WL.skip rfl (congrArg Value.bool c_4) rfl ?_
    refine WL.skip rfl (congrArg Value.bool c_4) rfl ?_
    refine WL.skip rfl (congrArg Value.bool c_4) rfl ?_
    refine WL.q (Wn.no rfl) rfl rfl (R.pickF (v := (.bool false)) (congrArg Value.bool c_4) rfl) ?_
    refine WL.q (Wn.no rfl) rfl rfl (R.assign (v := (.bool false)) rfl) ?_
    refine WL.nil ?_
    refine thn_n ?_
    refine WP.ret ?_
    refine ret_of Try.results19 (RV.tmp (v := (.bool false)) rfl RV.nil) ?_
    refine ⟨congrArg Value.bool ?_, h_3.chgS⟩
    show false = mayRealm nd
    unfold mayRealm
    simp_all

theorem c_MayRealmR (vl : List UInt8) (hvl : vl.length = 32) (nd : UInt64) (w : World) :
    Cs Try.prog 20 [(.agg ⟨flat [(32, vl.map vu8), (1, [(vu64 nd)])]⟩)].toArray w (fun v w1 => v = .bool (mayRealm nd) ∧ Chg w w1 []) := by
  refine Cs.of (n := 13) (args := [(.agg ⟨flat [(32, vl.map vu8), (1, [(vu64 nd)])]⟩)]) Try.func20 rfl rfl rfl ?_
  have h_0 := HP.init w
  refine WP.seq ?_
  refine WP.reg ?_
  refine WL.box (v := (.agg ⟨flat [(32, vl.map vu8), (1, [(vu64 nd)])]⟩)) (segs := [(32, vl.map vu8), (1, [(vu64 nd)])]) h_0 rfl rfl (SsOk.cons (SOk.u8 hvl) (SsOk.cons (SOk.v rfl) SsOk.nil)) rfl (fun b_1 w_2 h_3 => ?_)
  refine WL.q (Wn.no rfl) rfl rfl (R.assign (v := (.bool false)) rfl) ?_
  refine WL.nil ?_
  refine thn_n ?_
  refine WP.seq ?_
  refine WP.reg ?_
  refine WL.q (Wn.no rfl) rfl rfl (R.fieldAddr (b := b_1) (off := 0) (off' := 32) rfl Try.underlying51 rfl Try.sizeOf22 rfl rfl) ?_
  refine WL.q (Wn.no rfl) rfl rfl (R.load1 (b := b_1) (off := 32) (v := (vu64 nd)) rfl Try.isAgg22 (h_3.ok _ (.head _)) (Sg.t rfl Sg.h)) ?_
  refine WL.q (Wn.no rfl) rfl rfl (R.bin (v := (vu64 (nd % 128))) rfl rfl (b64_rem nd 128 (by decide))) ?_
  refine WL.q (Wn.no rfl) rfl rfl (R.bin (v := (.bool (decide ((nd % 128 : UInt64) = 0)))) rfl rfl (b64_eql (nd % 128) 0 (r := decide ((nd % 128 : UInt64) = 0)) rfl)) ?_
  refine WL.q (Wn.no rfl) rfl rfl (R.move (v := (.bool (decide ((nd % 128 : UInt64) = 0)))) rfl) ?_
  rcases Bool.eq_false_or_eq_true (decide ((nd % 128 : UInt64) = 0)) with c_4 | c_4
  · have p_5 := of_decide_eq_true c_4
    refine WL.want rfl (congrArg Value.bool c_4) ?_
    refine WL.q (Wn.no rfl) rfl rfl (R.fieldAddr (b := b_1) (off := 0) (off' := 32) rfl Try.underlying51 rfl Try.sizeOf22 rfl rfl) ?_
    refine WL.want rfl (congrArg Value.bool c_4) ?_
    refine WL.q (Wn.no rfl) rfl rfl (R.load1 (b := b_1) (off := 32) (v := (vu64 nd)) rfl Try.isAgg22 (h_3.ok _ (.head _)) (Sg.t rfl Sg.h)) ?_
    refine WL.want rfl (congrArg Value.bool c_4) ?_
    refine WL.q (Wn.no rfl) rfl rfl (R.bin (v := (vu64 (nd / 128))) rfl rfl (b64_quo nd 128 (by decide))) ?_
    refine WL.want rfl (congrArg Value.bool c_4) ?_
    refine WL.q (Wn.no rfl) rfl rfl (R.bin (v := (.bool (decide ((nd / 128 : UInt64) ≤ 4032)))) rfl rfl (b64_leq (nd / 128) 4032 (r := decide ((nd / 128 : UInt64) ≤ 4032)) rfl)) ?_
    refine WL.q (Wn.no rfl) rfl rfl (R.pickT (v := (.bool (decide ((nd / 128 : UInt64) ≤ 4032)))) (congrArg Value.bool c_4) rfl) ?_
    refine WL.q (Wn.no rfl) rfl rfl (R.assign (v := (.bool (decide ((nd / 128 : UInt64) ≤ 4032)))) rfl) ?_
    refine WL.nil ?_
    refine thn_n ?_
    refine WP.ret ?_
    refine ret_of Try.results20 (RV.tmp (v := (.bool (decide ((nd / 128 : UInt64) ≤ 4032)))) rfl RV.nil) ?_
    refine ⟨congrArg Value.bool ?_, h_3.chgS⟩
    show (decide ((nd / 128 : UInt64) ≤ 4032)) = mayRealm nd
    unfold mayRealm
    simp_all
  · have p_6 := of_decide_eq_false c_4
    refine WL.skip rfl (congrArg Value.bool c_4) rfl ?_
    refine WL.skip rfl (congrArg Value.bool c_4) rfl ?_
    refine WL.skip rfl (congrArg Value.bool c_4) rfl ?_
    refine WL.skip rfl (congrArg Value.bool c_4) rfl ?_
    refine WL.q (Wn.no rfl) rfl rfl (R.pickF (v := (.bool false)) (congrArg Value.bool c_4) rfl) ?_
    refine WL.q (Wn.no rfl) rfl rfl (R.assign (v := (.bool false)) rfl) ?_
    refine WL.nil ?_
    refine thn_n ?_
    refine WP.ret ?_
    refine ret_of Try.results20 (RV.tmp (v := (.bool false)) rfl RV.nil) ?_
    refine ⟨congrArg Value.bool ?_, h_3.chgS⟩
    show false = mayRealm nd
    unfold mayRealm
    simp_all

theorem c_MayRec (pc : UInt64) (rg : List UInt64) (hrg : rg.length = 8) (run : Bool) (w : World) :
    Cs Try.prog 25 [(.agg ⟨flat [(1, [(vu64 pc)]), (8, rg.map vu64), (1, [(.bool run)])]⟩)].toArray w (fun v w1 => v = .bool (mayRec pc) ∧ Chg w w1 []) := by
  refine Cs.of (n := 7) (args := [(.agg ⟨flat [(1, [(vu64 pc)]), (8, rg.map vu64), (1, [(.bool run)])]⟩)]) Try.func25 rfl rfl rfl ?_
  have h_0 := HP.init w
  refine WP.seq ?_
  refine WP.reg ?_
  refine WL.box (v := (.agg ⟨flat [(1, [(vu64 pc)]), (8, rg.map vu64), (1, [(.bool run)])]⟩)) (segs := [(1, [(vu64 pc)]), (8, rg.map vu64), (1, [(.bool run)])]) h_0 rfl rfl (SsOk.cons (SOk.v rfl) (SsOk.cons (SOk.u64 hrg) (SsOk.cons (SOk.v rfl) SsOk.nil))) rfl (fun b_1 w_2 h_3 => ?_)
  refine WL.q (Wn.no rfl) rfl rfl (R.assign (v := (.bool false)) rfl) ?_
  refine WL.nil ?_
  refine thn_n ?_
  refine WP.seq ?_
  refine WP.reg ?_
  refine WL.q (Wn.no rfl) rfl rfl (R.fieldAddr (b := b_1) (off := 0) (off' := 0) rfl Try.underlying45 rfl Try.sizeOf22 rfl rfl) ?_
  refine WL.q (Wn.no rfl) rfl rfl (R.load1 (b := b_1) (off := 0) (v := (vu64 pc)) rfl Try.isAgg22 (h_3.ok _ (.head _)) Sg.h) ?_
  refine WL.q (Wn.no rfl) rfl rfl (R.bin (v := (vu64 (pc % 8))) rfl rfl (b64_rem pc 8 (by decide))) ?_
  refine WL.q (Wn.no rfl) rfl rfl (R.bin (v := (.bool (decide ((pc % 8 : UInt64) = 0)))) rfl rfl (b64_eql (pc % 8) 0 (r := decide ((pc % 8 : UInt64) = 0)) rfl)) ?_
  refine WL.q (Wn.no rfl) rfl rfl (R.assign (v := (.bool (decide ((pc % 8 : UInt64) = 0)))) rfl) ?_
  refine WL.nil ?_
  refine thn_n ?_
  refine WP.ret ?_
  refine ret_of Try.results25 (RV.tmp (v := (.bool (decide ((pc % 8 : UInt64) = 0)))) rfl RV.nil) ?_
  refine ⟨congrArg Value.bool ?_, h_3.chgS⟩
  show (decide ((pc % 8 : UInt64) = 0)) = mayRec pc
  unfold mayRec
  simp_all

theorem c_MayRecR (pc : UInt64) (rg : List UInt64) (hrg : rg.length = 8) (run : Bool) (w : World) :
    Cs Try.prog 26 [(.agg ⟨flat [(1, [(vu64 pc)]), (8, rg.map vu64), (1, [(.bool run)])]⟩)].toArray w (fun v w1 => v = .bool (mayRec pc) ∧ Chg w w1 []) := by
  refine Cs.of (n := 7) (args := [(.agg ⟨flat [(1, [(vu64 pc)]), (8, rg.map vu64), (1, [(.bool run)])]⟩)]) Try.func26 rfl rfl rfl ?_
  have h_0 := HP.init w
  refine WP.seq ?_
  refine WP.reg ?_
  refine WL.box (v := (.agg ⟨flat [(1, [(vu64 pc)]), (8, rg.map vu64), (1, [(.bool run)])]⟩)) (segs := [(1, [(vu64 pc)]), (8, rg.map vu64), (1, [(.bool run)])]) h_0 rfl rfl (SsOk.cons (SOk.v rfl) (SsOk.cons (SOk.u64 hrg) (SsOk.cons (SOk.v rfl) SsOk.nil))) rfl (fun b_1 w_2 h_3 => ?_)
  refine WL.q (Wn.no rfl) rfl rfl (R.assign (v := (.bool false)) rfl) ?_
  refine WL.nil ?_
  refine thn_n ?_
  refine WP.seq ?_
  refine WP.reg ?_
  refine WL.q (Wn.no rfl) rfl rfl (R.fieldAddr (b := b_1) (off := 0) (off' := 0) rfl Try.underlying45 rfl Try.sizeOf22 rfl rfl) ?_
  refine WL.q (Wn.no rfl) rfl rfl (R.load1 (b := b_1) (off := 0) (v := (vu64 pc)) rfl Try.isAgg22 (h_3.ok _ (.head _)) Sg.h) ?_
  refine WL.q (Wn.no rfl) rfl rfl (R.bin (v := (vu64 (pc % 8))) rfl rfl (b64_rem pc 8 (by decide))) ?_
  refine WL.q (Wn.no rfl) rfl rfl (R.bin (v := (.bool (decide ((pc % 8 : UInt64) = 0)))) rfl rfl (b64_eql (pc % 8) 0 (r := decide ((pc % 8 : UInt64) = 0)) rfl)) ?_
  refine WL.q (Wn.no rfl) rfl rfl (R.assign (v := (.bool (decide ((pc % 8 : UInt64) = 0)))) rfl) ?_
  refine WL.nil ?_
  refine thn_n ?_
  refine WP.ret ?_
  refine ret_of Try.results26 (RV.tmp (v := (.bool (decide ((pc % 8 : UInt64) = 0)))) rfl RV.nil) ?_
  refine ⟨congrArg Value.bool ?_, h_3.chgS⟩
  show (decide ((pc % 8 : UInt64) = 0)) = mayRec pc
  unfold mayRec
  simp_all

theorem c_num10 (e : Int) (be : -9223372036854775808 ≤ e ∧ e < 9223372036854775808) (w : World) :
    Cs Try.prog 21 [(vi e)].toArray w (fun v w1 => v = vi e ∧ Chg w w1 []) := by
  refine Cs.of (n := 4) (args := [(vi e)]) Try.func21 rfl rfl rfl ?_
  have h_0 := HP.init w
  refine WP.seq ?_
  refine WP.reg ?_
  refine WL.q (Wn.no rfl) rfl rfl (R.assign (v := (vi 0)) rfl) ?_
  refine WL.nil ?_
  refine thn_n ?_
  refine WP.seq ?_
  refine WP.reg ?_
  refine WL.q (Wn.no rfl) rfl rfl (R.move (v := (vi e)) rfl) ?_
  refine WL.q (Wn.no rfl) rfl rfl (R.assign (v := (vi e)) rfl) ?_
  refine WL.nil ?_
  refine thn_n ?_
  refine WP.ret ?_
  refine ret_of Try.results21 (RV.tmp (v := (vi e)) rfl RV.nil) ?_
  exact ⟨rfl, h_0.chgS⟩

theorem c_pword (x : UInt64) (w : World) :
    Cs Try.prog 55 [(vu64 x)].toArray w (fun v w1 => ∃ a cap, v = .slice a 8 cap ∧ Chg w w1 [] ∧ Own w.heap.size w1 5 1 a 8 cap ((leN 8 x.toNat).map vu8)) := by
  refine Cs.of (n := 11) (args := [(vu64 x)]) Try.func55 rfl rfl rfl ?_
  have h_0 := HP.init w
  refine WP.seq ?_
  refine WP.reg ?_
  refine WL.q (Wn.no rfl) rfl rfl (R.assign (v := (.slice none 0 0)) rfl) ?_
  refine WL.nil ?_
  refine thn_n ?_
  refine WP.seq ?_
  refine WP.reg ?_
  refine WL.q (Wn.no rfl) rfl rfl (R.move (v := (vu64 x)) rfl) ?_
  refine WL.call (al := [(vu64 x), (vi 8)]) Try.call59 rfl rfl (c_Put_b x 8 rfl _) rfl ?_
  rintro _ w_3 ⟨a_1, cap_2, rfl, hc_4, ho_5⟩
  have h_6 := h_0.gotRow hc_4 ho_5
  refine WL.q (Wn.no rfl) rfl rfl (R.move (v := (.tuple [(.slice a_1 8 cap_2), (vi 0)].toArray)) rfl) ?_
  refine WL.q (Wn.no rfl) rfl rfl (R.extract (l := [(.slice a_1 8 cap_2), (vi 0)]) (v := (.slice a_1 8 cap_2)) rfl rfl) ?_
  refine WL.q (Wn.no rfl) rfl rfl (R.extract (l := [(.slice a_1 8 cap_2), (vi 0)]) (v := (vi 0)) rfl rfl) ?_
  refine WL.q (Wn.no rfl) rfl rfl (R.assign (v := (.slice a_1 8 cap_2)) rfl) ?_
  refine WL.q (Wn.no rfl) rfl rfl (R.assign (v := (vi 0)) rfl) ?_
  refine WL.nil ?_
  refine thn_n ?_
  refine WP.seq ?_
  refine WP.reg ?_
  refine WL.q (Wn.no rfl) rfl rfl (R.move (v := (.slice a_1 8 cap_2)) rfl) ?_
  refine WL.q (Wn.no rfl) rfl rfl (R.assign (v := (.slice a_1 8 cap_2)) rfl) ?_
  refine WL.nil ?_
  refine thn_n ?_
  refine WP.ret ?_
  refine ret_of Try.results55 (RV.tmp (v := (.slice a_1 8 cap_2)) rfl RV.nil) ?_
  exact ⟨_, _, rfl, h_6.chgS, h_6.ok _ (.head _)⟩

theorem c_PutR (x : UInt64) (n : Nat) (hn : n ≤ 1099511627776) (w : World) :
    Cs Try.prog 57 [(vu64 x), (vi ((n : Nat) : Int))].toArray w (fun v w1 => ∃ a cap, v = .slice a n cap ∧ Chg w w1 [] ∧ Own w.heap.size w1 5 1 a n cap ((leN n x.toNat).map vu8)) := by
  refine Cs.of (n := 21) (args := [(vu64 x), (vi ((n : Nat) : Int))]) Try.func57 rfl rfl rfl ?_
  have h_0 := HP.init w
  refine WP.seq ?_
  refine WP.reg ?_
  refine WL.q (Wn.no rfl) rfl rfl (R.assign (v := (.slice none 0 0)) rfl) ?_
  refine WL.nil ?_
  refine thn_n ?_
  refine WP.seq ?_
  refine WP.reg ?_
  refine WL.q (Wn.no rfl) rfl rfl (R.assign (v := (.slice none 0 0)) rfl) ?_
  refine WL.nil ?_
  refine thn_n ?_
  refine WP.seq ?_
  refine WP.seq ?_
  refine WP.reg ?_
  refine WL.q (Wn.no rfl) rfl rfl (R.assign (v := (vi 0)) rfl) ?_
  refine WL.nil ?_
  refine thn_n ?_
  refine WP.block ?_
  have h_1 := h_0.rowNil 5 1
  refine WP.loopG (G := Nat × Option Addr × Nat) [0, 5, 6, 7, 8, 9, 10, 11, 12, 13, 14, 15, 16, 17, 18, 19] (fun (k, a, cap) => [(0, (vu64 (UInt64.ofNat (x.toNat / 256 ^ k)))), (5, (.slice a k cap)), (6, (vi ((k : Nat) : Int)))]) (fun (k, a, cap) m w1 => HP w w1 [.row a k cap 5 1 ((leN k x.toNat).map vu8)] ∧ (k ≤ n) ∧ m = n - k) ⟨(0, none, 0), _, ⟨congrArg (fun x : UInt64 => vu64 x) (by rw [Nat.pow_zero, Nat.div_one]; exact (u64_nat x).symm), rfl, rfl, trivial⟩, h_1, Nat.zero_le _, rfl⟩ ?_
  rintro ⟨k, a, cap⟩ m_4 J_5 w_2 ⟨h_3, hk, rfl⟩
  refine WP.seq ?_
  refine WP.seq ?_
  refine WP.reg ?_
  refine WL.q (Wn.no rfl) rfl rfl (R.move (v := (vi ((k : Nat) : Int))) rfl) ?_
  refine WL.q (Wn.no rfl) rfl rfl (R.move (v := (vi ((n : Nat) : Int))) rfl) ?_
  refine WL.q (Wn.no rfl) rfl rfl (R.bin (v := (.bool (decide ((((k : Nat) : Int) : Int) < ((n : Nat) : Int))))) rfl rfl (bi_lss (r := decide ((((k : Nat) : Int) : Int) < ((n : Nat) : Int))) rfl)) ?_
  refine WL.nil ?_
  refine thn_n ?_
  refine WP.cond (b := decide ((((k : Nat) : Int) : Int) < ((n : Nat) : Int))) rfl (fun c_6 => ?_) (fun c_6 => ?_)
  · have p_7 := of_decide_eq_true c_6
    refine WP.skip ?_
    refine thn_n ?_
    refine WP.seq ?_
    refine WP.block ?_
    refine WP.seq ?_
    refine WP.reg ?_
    refine WL.q (Wn.no rfl) rfl rfl (R.move (v := (.slice a k cap)) rfl) ?_
    refine WL.q (Wn.no rfl) rfl rfl (R.move (v := (vu64 (UInt64.ofNat (x.toNat / 256 ^ k)))) rfl) ?_
    refine WL.q (Wn.no rfl) rfl rfl (R.bin (v := (vu64 ((UInt64.ofNat (x.toNat / 256 ^ k)) % 256))) rfl rfl (b64_rem (UInt64.ofNat (x.toNat / 256 ^ k)) 256 (by decide))) ?_
    refine WL.q (Wn.no rfl) rfl rfl (R.conv (b := ((UInt8.ofNat (((UInt64.ofNat (x.toNat / 256 ^ k)) % 256).toNat)) : UInt8).toNat) rfl Try.underlying22 Try.underlying5 (w8_nat (((UInt64.ofNat (x.toNat / 256 ^ k)) % 256).toNat))) ?_
    refine WL.buildSl (vs := [(0, (vu8 (UInt8.ofNat (((UInt64.ofNat (x.toNat / 256 ^ k)) % 256).toNat))))]) (cs := ([UInt8.ofNat (((UInt64.ofNat (x.toNat / 256 ^ k)) % 256).toNat)] : List UInt8).map vu8) h_3 Try.underlying90 Try.sizeOf5 (zv Try.typeInfo5 rfl) rfl rfl (by kernel_rfl) rfl (one_u8 _) rfl rfl (fun b_8 w_9 h_10 => ?_)
    refine WL.append (km := k + 1) (xs := (leN k x.toNat).map vu8) (ys := ([UInt8.ofNat (((UInt64.ofNat (x.toNat / 256 ^ k)) % 256).toNat)] : List UInt8).map vu8) (zs := ((leN k x.toNat).map vu8) ++ (([UInt8.ofNat (((UInt64.ofNat (x.toNat / 256 ^ k)) % 256).toNat)] : List UInt8).map vu8)) h_10 rfl rfl el90 (viewB (h_10.ok _ (.head _)) Sg.h) ((len_map (rfl : List.length ([UInt8.ofNat (((UInt64.ofNat (x.toNat / 256 ^ k)) % 256).toNat)] : List UInt8) = 1)).trans (Nat.mul_one _).symm) (one_u8 _) rfl rfl (by omega) (by omega) (fun _ _ => (At.t At.h)) rfl (fun a_11 c_12 w_13 h_14 => ?_)
    refine WL.q (Wn.no rfl) rfl rfl (R.assign (v := (.slice a_11 (k + 1) c_12)) rfl) ?_
    refine WL.nil ?_
    refine thn_n ?_
    refine WP.reg ?_
    refine WL.q (Wn.no rfl) rfl rfl (R.move (v := (vu64 (UInt64.ofNat (x.toNat / 256 ^ k)))) rfl) ?_
    refine WL.q (Wn.no rfl) rfl rfl (R.bin (v := (vu64 ((UInt64.ofNat (x.toNat / 256 ^ k)) / 256))) rfl rfl (b64_quo (UInt64.ofNat (x.toNat / 256 ^ k)) 256 (by decide))) ?_
    refine WL.q (Wn.no rfl) rfl rfl (R.assign (v := (vu64 ((UInt64.ofNat (x.toNat / 256 ^ k)) / 256))) rfl) ?_
    refine WL.nil ?_
    refine inb_n ?_
    refine thn_n ?_
    refine WP.reg ?_
    refine WL.q (Wn.no rfl) rfl rfl (R.move (v := (vi ((k : Nat) : Int))) rfl) ?_
    refine WL.q (Wn.no rfl) rfl rfl (R.bin (v := (vi ((k + 1 : Nat) : Int))) rfl rfl (bi_add (c := ((k + 1 : Nat) : Int)) (by omega) (by omega))) ?_
    refine WL.q (Wn.no rfl) rfl rfl (R.assign (v := (vi ((k + 1 : Nat) : Int))) rfl) ?_
    refine WL.nil ?_
    refine thn_n ?_
    have h_15 := h_14.drop rfl
    have e : leN k x.toNat ++ ([UInt8.ofNat (UInt64.ofNat (x.toNat / 256 ^ k) % 256).toNat] : List UInt8) = leN (k + 1) x.toNat := by rw [leN_snoc, byte_step]
    rw [show ((leN k x.toNat).map vu8) ++ (([UInt8.ofNat (((UInt64.ofNat (x.toNat / 256 ^ k)) % 256).toNat)] : List UInt8).map vu8) = (leN (k + 1) x.toNat).map vu8 from by rw [← e, List.map_append]] at h_15
    exact ⟨(k + 1, a_11, c_12), _, (by omega), (Ag.upd rfl (Ag.upd rfl (Ag.upd rfl (Ag.upd rfl (Ag.upd rfl (Ag.upd rfl (Ag.upd rfl (Ag.upd rfl (Ag.upd rfl (Ag.upd rfl (Ag.upd rfl (Ag.upd rfl (Ag.upd rfl (Ag.upd rfl (Ag.upd rfl (Ag.upd rfl (Ag.updL rfl (Ag.mix _ _ _)))))))))))))))))), ⟨congrArg (fun x : UInt64 => vu64 x) (div_step x k), rfl, rfl, trivial⟩, h_15, (by omega), rfl⟩
  · have p_16 := of_decide_eq_false c_6
    refine WP.exit ?_
    refine thn_x ?_
    refine thn_x ?_
    refine inb_hit ?_
    refine thn_n ?_
    refine WP.seq ?_
    refine WP.reg ?_
    refine WL.q (Wn.no rfl) rfl rfl (R.move (v := (.slice a k cap)) rfl) ?_
    refine WL.q (Wn.no rfl) rfl rfl (R.assign (v := (.slice a k cap)) rfl) ?_
    refine WL.nil ?_
    refine thn_n ?_
    refine WP.ret ?_
    refine ret_of Try.results57 (RV.tmp (v := (.slice a k cap)) rfl RV.nil) ?_
    have hkn : k = n := by omega
    subst hkn
    exact ⟨_, _, rfl, h_3.chgS, h_3.ok _ (.head _)⟩

theorem c_rword (x : UInt64) (w : World) :
    Cs Try.prog 46 [(vu64 x)].toArray w (fun v w1 => ∃ a cap, v = .slice a 8 cap ∧ Chg w w1 [] ∧ Own w.heap.size w1 5 1 a 8 cap ((leN 8 x.toNat).map vu8)) := by
  refine Cs.of (n := 5) (args := [(vu64 x)]) Try.func46 rfl rfl rfl ?_
  have h_0 := HP.init w
  refine WP.seq ?_
  refine WP.reg ?_
  refine WL.q (Wn.no rfl) rfl rfl (R.assign (v := (.slice none 0 0)) rfl) ?_
  refine WL.nil ?_
  refine thn_n ?_
  refine WP.seq ?_
  refine WP.reg ?_
  refine WL.q (Wn.no rfl) rfl rfl (R.move (v := (vu64 x)) rfl) ?_
  refine WL.call (al := [(vu64 x), (vi 8)]) Try.call57 rfl rfl (c_PutR x 8 (by omega) _) rfl ?_
  rintro _ w_3 ⟨a_1, cap_2, rfl, hc_4, ho_5⟩
  have h_6 := h_0.gotRow hc_4 ho_5
  refine WL.q (Wn.no rfl) rfl rfl (R.assign (v := (.slice a_1 8 cap_2)) rfl) ?_
  refine WL.nil ?_
  refine thn_n ?_
  refine WP.ret ?_
  refine ret_of Try.results46 (RV.tmp (v := (.slice a_1 8 cap_2)) rfl RV.nil) ?_
  exact ⟨_, _, rfl, h_6.chgS, h_6.ok _ (.head _)⟩

theorem c_WordR (a : Option Addr) (n cap : Nat) (bs : List UInt8) (hl : bs.length = n) (i : Nat) (hn : n ≤ 9007199254740992) (w : World) (hv : View w a (bs.map vu8)) :
    Cs Try.prog 51 [(.slice a n cap), (vi ((i : Nat) : Int))].toArray w (fun v w1 => v = vu64 (wordB bs i) ∧ Chg w w1 []) := by
  refine Cs.of (n := 39) (args := [(.slice a n cap), (vi ((i : Nat) : Int))]) Try.func51 rfl rfl rfl ?_
  have h_0 := HP.init w
  have h_00 := h_0.old (View.arg hv) (fun f hf => by cases hf)
  refine WP.seq ?_
  refine WP.reg ?_
  refine WL.q (Wn.no rfl) rfl rfl (R.assign (v := (vu64 0)) rfl) ?_
  refine WL.nil ?_
  refine thn_n ?_
  refine WP.seq ?_
  refine WP.seq ?_
  refine WP.reg ?_
  refine WL.q (Wn.no rfl) rfl rfl (R.move (v := (vi ((i : Nat) : Int))) rfl) ?_
  refine WL.q (Wn.no rfl) rfl rfl (R.bin (v := (.bool (decide ((((i : Nat) : Int) : Int) < 0)))) rfl rfl (bi_lss (r := decide ((((i : Nat) : Int) : Int) < 0)) rfl)) ?_
  refine WL.q (Wn.no rfl) rfl rfl (R.move (v := (.bool (decide ((((i : Nat) : Int) : Int) < 0)))) rfl) ?_
  refine WL.want rfl (congrArg Value.bool (decide_eq_false (by omega))) ?_
  refine WL.q (Wn.no rfl) rfl rfl (R.move (v := (vi ((i : Nat) : Int))) rfl) ?_
  refine WL.want rfl (congrArg Value.bool (decide_eq_false (by omega))) ?_
  refine WL.q (Wn.no rfl) rfl rfl (R.move (v := (.slice a n cap)) rfl) ?_
  refine WL.want rfl (congrArg Value.bool (decide_eq_false (by omega))) ?_
  refine WL.q (Wn.no rfl) rfl rfl (R.lenS (a := a) (m := n) rfl rfl Try.underlying90) ?_
  refine WL.want rfl (congrArg Value.bool (decide_eq_false (by omega))) ?_
  refine WL.q (Wn.no rfl) rfl rfl (R.bin (v := (.bool (decide ((((i : Nat) : Int) : Int) ≥ ((n : Nat) : Int))))) rfl rfl (bi_geq (r := decide ((((i : Nat) : Int) : Int) ≥ ((n : Nat) : Int))) rfl)) ?_
  refine WL.q (Wn.no rfl) rfl rfl (R.pickF (v := (.bool (decide ((((i : Nat) : Int) : Int) ≥ ((n : Nat) : Int))))) (congrArg Value.bool (decide_eq_false (by omega))) rfl) ?_
  refine WL.nil ?_
  refine thn_n ?_
  refine WP.cond (b := decide ((((i : Nat) : Int) : Int) ≥ ((n : Nat) : Int))) rfl (fun c_1 => ?_) (fun c_1 => ?_)
  · have p_2 := of_decide_eq_true c_1
    refine WP.seq ?_
    refine WP.reg ?_
    refine WL.q (Wn.no rfl) rfl rfl (R.assign (v := (vu64 0)) rfl) ?_
    refine WL.nil ?_
    refine thn_n ?_
    refine WP.ret ?_
    refine thn_r ?_
    refine ret_of Try.results51 (RV.tmp (v := (vu64 0)) rfl RV.nil) ?_
    exact ⟨by rw [word_none hl (by omega)]; rfl, h_00.chgS⟩
  · have p_3 := of_decide_eq_false c_1
    refine WP.skip ?_
    refine thn_n ?_
    refine WP.seq ?_
    refine WP.reg ?_
    refine WL.q (Wn.no rfl) rfl rfl (R.assign (v := (vu64 0)) rfl) ?_
    refine WL.nil ?_
    refine thn_n ?_
    refine WP.seq ?_
    refine WP.seq ?_
    refine WP.reg ?_
    refine WL.q (Wn.no rfl) rfl rfl (R.assign (v := (vi 7)) rfl) ?_
    refine WL.nil ?_
    refine thn_n ?_
    refine WP.block ?_
    refine WP.loopG (G := Nat) [5, 6, 15, 16, 17, 18, 19, 20, 21, 22, 23, 24, 25, 26, 27, 28, 29, 30, 31, 32, 33, 34, 35, 36, 37] (fun k => [(5, (vu64 (UInt64.ofNat (natLE ((bs.drop (8 * i + k)).take (8 - k)))))), (6, (vi (((k : Nat) : Int) - 1)))]) (fun k m w1 => HP w w1 [.view a (bs.map vu8)] ∧ (k ≤ 8) ∧ m = 8 + k) ⟨8, _, ⟨congrArg (fun x : UInt64 => vu64 x) (by rw [Nat.sub_self, List.take_zero]; rfl), rfl, trivial⟩, h_00, (Nat.le_refl 8), rfl⟩ ?_
    rintro k m_6 J_7 w_4 ⟨h_5, hk, rfl⟩
    refine WP.seq ?_
    refine WP.seq ?_
    refine WP.reg ?_
    refine WL.q (Wn.no rfl) rfl rfl (R.move (v := (vi (((k : Nat) : Int) - 1))) rfl) ?_
    refine WL.q (Wn.no rfl) rfl rfl (R.bin (v := (.bool (decide ((((k : Nat) : Int) - 1 : Int) ≥ 0)))) rfl rfl (bi_geq (r := decide ((((k : Nat) : Int) - 1 : Int) ≥ 0)) rfl)) ?_
    refine WL.nil ?_
    refine thn_n ?_
    refine WP.cond (b := decide ((((k : Nat) : Int) - 1 : Int) ≥ 0)) rfl (fun c_8 => ?_) (fun c_8 => ?_)
    · have p_9 := of_decide_eq_true c_8
      refine WP.skip ?_
      refine thn_n ?_
      refine WP.seq ?_
      refine WP.block ?_
      refine WP.seq ?_
      refine WP.reg ?_
      refine WL.q (Wn.no rfl) rfl rfl (R.move (v := (vu64 (UInt64.ofNat (natLE ((bs.drop (8 * i + k)).take (8 - k)))))) rfl) ?_
      refine WL.q (Wn.no rfl) rfl rfl (R.bin (v := (vu64 ((UInt64.ofNat (natLE ((bs.drop (8 * i + k)).take (8 - k)))) * 256))) rfl rfl (b64_mul (UInt64.ofNat (natLE ((bs.drop (8 * i + k)).take (8 - k)))) 256)) ?_
      refine WL.q (Wn.no rfl) rfl rfl (R.assign (v := (vu64 ((UInt64.ofNat (natLE ((bs.drop (8 * i + k)).take (8 - k)))) * 256))) rfl) ?_
      refine WL.nil ?_
      refine thn_n ?_
      refine WP.seq ?_
      refine WP.reg ?_
      refine WL.q (Wn.no rfl) rfl rfl (R.move (v := (vi ((i : Nat) : Int))) rfl) ?_
      refine WL.q (Wn.no rfl) rfl rfl (R.bin (v := (vi ((8 * i : Nat) : Int))) rfl rfl (bi_mul (c := ((8 * i : Nat) : Int)) (by omega) (by omega))) ?_
      refine WL.q (Wn.no rfl) rfl rfl (R.move (v := (vi (((k : Nat) : Int) - 1))) rfl) ?_
      refine WL.q (Wn.no rfl) rfl rfl (R.bin (v := (vi ((8 * i + (k - 1) : Nat) : Int))) rfl rfl (bi_add (c := ((8 * i + (k - 1) : Nat) : Int)) (by omega) (by omega))) ?_
      refine WL.q (Wn.no rfl) rfl rfl (R.move (v := (.slice a n cap)) rfl) ?_
      refine WL.q (Wn.no rfl) rfl rfl (R.lenS (a := a) (m := n) rfl rfl Try.underlying90) ?_
      refine WL.q (Wn.no rfl) rfl rfl (R.bin (v := (.bool (decide ((((8 * i + (k - 1) : Nat) : Int) : Int) < ((n : Nat) : Int))))) rfl rfl (bi_lss (r := decide ((((8 * i + (k - 1) : Nat) : Int) : Int) < ((n : Nat) : Int))) rfl)) ?_
      refine WL.nil ?_
      refine thn_n ?_
      refine WP.cond (b := decide ((((8 * i + (k - 1) : Nat) : Int) : Int) < ((n : Nat) : Int))) rfl (fun c_10 => ?_) (fun c_10 => ?_)
      · have p_11 := of_decide_eq_true c_10
        refine WP.reg ?_
        refine WL.q (Wn.no rfl) rfl rfl (R.move (v := (vu64 ((UInt64.ofNat (natLE ((bs.drop (8 * i + k)).take (8 - k)))) * 256))) rfl) ?_
        refine WL.q (Wn.no rfl) rfl rfl (R.move (v := (.slice a n cap)) rfl) ?_
        refine WL.q (Wn.no rfl) rfl rfl (R.move (v := (vi ((i : Nat) : Int))) rfl) ?_
        refine WL.q (Wn.no rfl) rfl rfl (R.bin (v := (vi ((8 * i : Nat) : Int))) rfl rfl (bi_mul (c := ((8 * i : Nat) : Int)) (by omega) (by omega))) ?_
        refine WL.q (Wn.no rfl) rfl rfl (R.move (v := (vi (((k : Nat) : Int) - 1))) rfl) ?_
        refine WL.q (Wn.no rfl) rfl rfl (R.bin (v := (vi ((8 * i + (k - 1) : Nat) : Int))) rfl rfl (bi_add (c := ((8 * i + (k - 1) : Nat) : Int)) (by omega) (by omega))) ?_
        refine WL.q (Wn.no rfl) rfl rfl (R.indexS (a := a) (i := 8 * i + (k - 1)) (off := 8 * i + (k - 1)) (xs := bs.map vu8) rfl rfl rfl (by omega) (viewV (h_5.ok _ (.head _))) (by simp only [List.length_map]; omega) Try.underlying90 Try.sizeOf5 (Nat.mul_one _).symm) ?_
        refine WL.q (Wn.no rfl) rfl rfl (R.loadG (a := a) (i := 8 * i + (k - 1)) (xs := bs.map vu8) (v := (vu8 (bs.getD (8 * i + (k - 1)) 0))) rfl (viewV (h_5.ok _ (.head _))) Try.isAgg5 (get_u8 (by omega))) ?_
        refine WL.q (Wn.no rfl) rfl rfl (R.conv (b := ((UInt64.ofNat ((bs.getD (8 * i + (k - 1)) 0).toNat)) : UInt64).toNat) rfl Try.underlying5 Try.underlying22 (w64_nat ((bs.getD (8 * i + (k - 1)) 0).toNat))) ?_
        refine WL.q (Wn.no rfl) rfl rfl (R.bin (v := (vu64 (((UInt64.ofNat (natLE ((bs.drop (8 * i + k)).take (8 - k)))) * 256) + (UInt64.ofNat ((bs.getD (8 * i + (k - 1)) 0).toNat))))) rfl rfl (b64_add ((UInt64.ofNat (natLE ((bs.drop (8 * i + k)).take (8 - k)))) * 256) (UInt64.ofNat ((bs.getD (8 * i + (k - 1)) 0).toNat)))) ?_
        refine WL.q (Wn.no rfl) rfl rfl (R.assign (v := (vu64 (((UInt64.ofNat (natLE ((bs.drop (8 * i + k)).take (8 - k)))) * 256) + (UInt64.ofNat ((bs.getD (8 * i + (k - 1)) 0).toNat))))) rfl) ?_
        refine WL.nil ?_
        refine inb_n ?_
        refine thn_n ?_
        refine WP.reg ?_
        refine WL.q (Wn.no rfl) rfl rfl (R.move (v := (vi (((k : Nat) : Int) - 1))) rfl) ?_
        refine WL.q (Wn.no rfl) rfl rfl (R.bin (v := (vi ((((k : Nat) : Int) - 1) - 1))) rfl rfl (bi_sub (c := (((k : Nat) : Int) - 1) - 1) (by omega) (by omega))) ?_
        refine WL.q (Wn.no rfl) rfl rfl (R.assign (v := (vi ((((k : Nat) : Int) - 1) - 1))) rfl) ?_
        refine WL.nil ?_
        refine thn_n ?_
        exact ⟨k - 1, _, (by omega), (Ag.upd rfl (Ag.upd rfl (Ag.upd rfl (Ag.upd rfl (Ag.upd rfl (Ag.upd rfl (Ag.upd rfl (Ag.upd rfl (Ag.upd rfl (Ag.upd rfl (Ag.upd rfl (Ag.upd rfl (Ag.upd rfl (Ag.upd rfl (Ag.upd rfl (Ag.upd rfl (Ag.upd rfl (Ag.upd rfl (Ag.upd rfl (Ag.upd rfl (Ag.upd rfl (Ag.upd rfl (Ag.upd rfl (Ag.upd rfl (Ag.upd rfl (Ag.upd rfl (Ag.updL rfl (Ag.mix _ _ _)))))))))))))))))))))))))))), ⟨congrArg (fun x : UInt64 => vu64 x) (by rw [win_lt (by omega) (by omega) (by omega), ← mul_byte _ (by simp only [List.length_take, List.length_drop]; omega)]), congrArg vi (by omega), trivial⟩, h_5, (by omega), rfl⟩
      · have p_12 := of_decide_eq_false c_10
        refine WP.skip ?_
        refine inb_n ?_
        refine thn_n ?_
        refine WP.reg ?_
        refine WL.q (Wn.no rfl) rfl rfl (R.move (v := (vi (((k : Nat) : Int) - 1))) rfl) ?_
        refine WL.q (Wn.no rfl) rfl rfl (R.bin (v := (vi ((((k : Nat) : Int) - 1) - 1))) rfl rfl (bi_sub (c := (((k : Nat) : Int) - 1) - 1) (by omega) (by omega))) ?_
        refine WL.q (Wn.no rfl) rfl rfl (R.assign (v := (vi ((((k : Nat) : Int) - 1) - 1))) rfl) ?_
        refine WL.nil ?_
        refine thn_n ?_
        exact ⟨k - 1, _, (by omega), (Ag.upd rfl (Ag.upd rfl (Ag.upd rfl (Ag.upd rfl (Ag.upd rfl (Ag.upd rfl (Ag.upd rfl (Ag.upd rfl (Ag.upd rfl (Ag.upd rfl (Ag.upd rfl (Ag.upd rfl (Ag.upd rfl (Ag.upd rfl (Ag.upd rfl (Ag.updL rfl (Ag.mix _ _ _))))))))))))))))), ⟨congrArg (fun x : UInt64 => vu64 x) (by rw [win_ge (by omega), win_ge (by omega)]; rfl), congrArg vi (by omega), trivial⟩, h_5, (by omega), rfl⟩
    · have p_13 := of_decide_eq_false c_8
      refine WP.exit ?_
      refine thn_x ?_
      refine thn_x ?_
      refine inb_hit ?_
      refine thn_n ?_
      refine WP.seq ?_
      refine WP.reg ?_
      refine WL.q (Wn.no rfl) rfl rfl (R.move (v := (vu64 (UInt64.ofNat (natLE ((bs.drop (8 * i + k)).take (8 - k)))))) rfl) ?_
      refine WL.q (Wn.no rfl) rfl rfl (R.assign (v := (vu64 (UInt64.ofNat (natLE ((bs.drop (8 * i + k)).take (8 - k)))))) rfl) ?_
      refine WL.nil ?_
      refine thn_n ?_
      refine WP.ret ?_
      refine ret_of Try.results51 (RV.tmp (v := (vu64 (UInt64.ofNat (natLE ((bs.drop (8 * i + k)).take (8 - k)))))) rfl RV.nil) ?_
      have hk0 : k = 0 := by omega
      subst hk0
      exact ⟨rfl, h_5.chgS⟩

theorem c_Join (a : Option Addr) (n cap : Nat) (xs : List Value) (ls : List (List UInt8)) (hln : ls.length = n) (hb : ls.flatten.length ≤ 1099511627776) (hnb : n ≤ 1099511627776) (w : World) (hv : View w a xs) (hs : Sls w xs ls) :
    Cs Try.prog 56 [(.slice a n cap)].toArray w (fun v w1 => ∃ a cap, v = .slice a ls.flatten.length cap ∧ Chg w w1 [] ∧ Own w.heap.size w1 5 1 a ls.flatten.length cap ((ls.flatten).map vu8)) := by
  refine Cs.of (n := 18) (args := [(.slice a n cap)]) Try.func56 rfl rfl rfl ?_
  have h_0 := HP.init w
  have h_01 := h_0.old (View.arg hv) (fun f hf => by cases hf)
  have h_00 := h_01.old hs.pin (fun f hf => by rw [List.mem_singleton] at hf; subst hf; intro hm; simp [Ent.mut] at hm)
  have hxl : xs.length = n := hs.len.trans hln
  refine WP.seq ?_
  refine WP.reg ?_
  refine WL.q (Wn.no rfl) rfl rfl (R.assign (v := (.slice none 0 0)) rfl) ?_
  refine WL.nil ?_
  refine thn_n ?_
  refine WP.seq ?_
  refine WP.reg ?_
  refine WL.q (Wn.no rfl) rfl rfl (R.assign (v := (.slice none 0 0)) rfl) ?_
  refine WL.nil ?_
  refine thn_n ?_
  refine WP.seq ?_
  refine WP.seq ?_
  refine WP.reg ?_
  refine WL.q (Wn.no rfl) rfl rfl (R.assign (v := (vi 0)) rfl) ?_
  refine WL.nil ?_
  refine thn_n ?_
  refine WP.block ?_
  have h_1 := h_00.rowNil 5 1
  refine WP.loopG (G := Nat × Option Addr × Nat) [3, 4, 5, 6, 7, 8, 9, 10, 11, 12, 13, 14, 15, 16] (fun (k, ra, rc) => [(3, (.slice ra (((ls.take k).flatten).length) rc)), (4, (vi ((k : Nat) : Int)))]) (fun (k, ra, rc) m w1 => HP w w1 [.row ra (((ls.take k).flatten).length) rc 5 1 (((ls.take k).flatten).map vu8), .pin (sblks xs) (fun w => Sls w xs ls), .view a xs] ∧ (k ≤ n) ∧ m = n - k) ⟨(0, none, 0), _, ⟨rfl, rfl, trivial⟩, h_1, Nat.zero_le _, rfl⟩ ?_
  rintro ⟨k, ra, rc⟩ m_4 J_5 w_2 ⟨h_3, hk, rfl⟩
  refine WP.seq ?_
  refine WP.seq ?_
  refine WP.reg ?_
  refine WL.q (Wn.no rfl) rfl rfl (R.move (v := (vi ((k : Nat) : Int))) rfl) ?_
  refine WL.q (Wn.no rfl) rfl rfl (R.move (v := (.slice a n cap)) rfl) ?_
  refine WL.q (Wn.no rfl) rfl rfl (R.lenS (a := a) (m := n) rfl rfl Try.underlying98) ?_
  refine WL.q (Wn.no rfl) rfl rfl (R.bin (v := (.bool (decide ((((k : Nat) : Int) : Int) < ((n : Nat) : Int))))) rfl rfl (bi_lss (r := decide ((((k : Nat) : Int) : Int) < ((n : Nat) : Int))) rfl)) ?_
  refine WL.nil ?_
  refine thn_n ?_
  refine WP.cond (b := decide ((((k : Nat) : Int) : Int) < ((n : Nat) : Int))) rfl (fun c_6 => ?_) (fun c_6 => ?_)
  · have p_7 := of_decide_eq_true c_6
    refine WP.skip ?_
    refine thn_n ?_
    refine WP.seq ?_
    refine WP.block ?_
    refine WP.reg ?_
    refine WL.q (Wn.no rfl) rfl rfl (R.move (v := (.slice ra (((ls.take k).flatten).length) rc)) rfl) ?_
    refine WL.q (Wn.no rfl) rfl rfl (R.move (v := (.slice a n cap)) rfl) ?_
    refine WL.q (Wn.no rfl) rfl rfl (R.move (v := (vi ((k : Nat) : Int))) rfl) ?_
    refine WL.q (Wn.no rfl) rfl rfl (R.indexS (a := a) (i := k) (off := k) (xs := xs) rfl rfl rfl (by omega) (viewV (h_3.ok _ (.tail _ (.tail _ (.head _))))) (by omega) Try.underlying98 Try.sizeOf90 (Nat.mul_one _).symm) ?_
    obtain ⟨a_8, n_9, c_10, hx_11, hl_12, hn_13, hv_14, hb_15⟩ := Sls.get (i := k) (h_3.ok _ (.tail _ (.head _))).1 (by rw [hln]; omega)
    have h_16 := h_3.within (e' := .view a_8 ((ls.getD k []).map vu8)) (.tail _ (.head _)) rfl (View.arg hv_14) rfl rfl (fun b hb_ => hb_15 _ (view_sblk hl_12 b hb_))
    refine WL.q (Wn.no rfl) rfl rfl (R.loadG (a := a) (i := k) (xs := xs) (v := (.slice a_8 n_9 c_10)) rfl (viewV (h_16.ok _ (.tail _ (.tail _ (.tail _ (.head _)))))) Try.isAgg90 hx_11) ?_
    have hle := flat_take_le ls (k + 1)
    rw [flat_take (by omega), List.length_append] at hle
    refine WL.append (km := ((ls.take k).flatten).length + n_9) (xs := ((ls.take k).flatten).map vu8) (ys := (ls.getD k []).map vu8) (zs := (((ls.take k).flatten).map vu8) ++ ((ls.getD k []).map vu8)) h_16 rfl rfl el90 (viewV (h_16.ok _ (.head _))) ((len_map hl_12).trans (Nat.mul_one _).symm) (one_u8 _) rfl rfl (by omega) (by omega) (fun _ _ => (At.t At.h)) rfl (fun a_17 c_18 w_19 h_20 => ?_)
    refine WL.q (Wn.no rfl) rfl rfl (R.assign (v := (.slice a_17 (((ls.take k).flatten).length + n_9) c_18)) rfl) ?_
    refine WL.nil ?_
    refine inb_n ?_
    refine thn_n ?_
    refine WP.reg ?_
    refine WL.q (Wn.no rfl) rfl rfl (R.move (v := (vi ((k : Nat) : Int))) rfl) ?_
    refine WL.q (Wn.no rfl) rfl rfl (R.bin (v := (vi ((k + 1 : Nat) : Int))) rfl rfl (bi_add (c := ((k + 1 : Nat) : Int)) (by omega) (by omega))) ?_
    refine WL.q (Wn.no rfl) rfl rfl (R.assign (v := (vi ((k + 1 : Nat) : Int))) rfl) ?_
    refine WL.nil ?_
    refine thn_n ?_
    have h_21 := h_20.drop rfl
    have e := flat_take (ls := ls) (k := k) (by omega)
    have el : ((ls.take k).flatten).length + n_9 = ((ls.take (k + 1)).flatten).length := by rw [e, List.length_append]; omega
    rw [el, show (((ls.take k).flatten).map vu8) ++ ((ls.getD k []).map vu8) = ((ls.take (k + 1)).flatten).map vu8 from by rw [e, List.map_append]] at h_21
    exact ⟨(k + 1, a_17, c_18), _, (by omega), (Ag.upd rfl (Ag.upd rfl (Ag.upd rfl (Ag.upd rfl (Ag.upd rfl (Ag.upd rfl (Ag.upd rfl (Ag.upd rfl (Ag.upd rfl (Ag.upd rfl (Ag.upd rfl (Ag.upd rfl (Ag.upd rfl (Ag.upd rfl (Ag.updL rfl (Ag.mix _ _ _)))))))))))))))), ⟨by rw [← el]; rfl, rfl, trivial⟩, h_21, (by omega), rfl⟩
  · have p_22 := of_decide_eq_false c_6
    refine WP.exit ?_
    refine thn_x ?_
    refine thn_x ?_
    refine inb_hit ?_
    refine thn_n ?_
    refine WP.seq ?_
    refine WP.reg ?_
    refine WL.q (Wn.no rfl) rfl rfl (R.move (v := (.slice ra (((ls.take k).flatten).length) rc)) rfl) ?_
    refine WL.q (Wn.no rfl) rfl rfl (R.assign (v := (.slice ra (((ls.take k).flatten).length) rc)) rfl) ?_
    refine WL.nil ?_
    refine thn_n ?_
    refine WP.ret ?_
    refine ret_of Try.results56 (RV.tmp (v := (.slice ra (((ls.take k).flatten).length) rc)) rfl RV.nil) ?_
    have hkn : k = n := by omega
    rw [hkn, List.take_of_length_le (by omega)] at h_3
    refine ⟨_, _, ?_, h_3.chgS, h_3.ok _ (.head _)⟩
    rw [hkn, List.take_of_length_le (by omega)]; rfl

theorem c_mark (m : Nat) (l : List UInt8) (hl : l.length = m) (hm : m ≤ 8) (w : World) :
    Cs Try.prog 45 [(.string (bstr l))].toArray w (fun v w1 => ∃ a cap, v = .slice a 8 cap ∧ Chg w w1 [] ∧ Own w.heap.size w1 5 1 a 8 cap ((l ++ List.replicate (8 - m) (0 : UInt8)).map vu8)) := by
  refine Cs.of (n := 9) (args := [(.string (bstr l))]) Try.func45 rfl rfl rfl ?_
  have h_0 := HP.init w
  refine WP.seq ?_
  refine WP.reg ?_
  refine WL.q (Wn.no rfl) rfl rfl (R.assign (v := (.slice none 0 0)) rfl) ?_
  refine WL.nil ?_
  refine thn_n ?_
  refine WP.seq ?_
  refine WP.reg ?_
  refine WL.q (Wn.no rfl) rfl rfl (R.move (v := (.string (bstr l))) rfl) ?_
  refine WL.toBytes (bs := l) h_0 rfl Try.underlying9 Try.underlying90 Try.underlying5 (by simp only [maxLen]; first | decide | omega) rfl (fun a_1 c_2 w_3 h_4 => ?_)
  refine WL.q (Wn.no rfl) rfl rfl (R.move (v := (.string (bstr l))) rfl) ?_
  refine WL.q (Wn.no rfl) rfl rfl (R.lenStrL (l := l) (m := m) rfl rfl Try.underlying9 hl) ?_
  refine WL.q (Wn.no rfl) rfl rfl (R.bin (v := (vi ((8 - m : Nat) : Int))) rfl rfl (bi_sub (c := ((8 - m : Nat) : Int)) (by omega) (by omega))) ?_
  refine WL.appendZ (i := Try.t5) (m := 8 - m) (km := 8) (xs := l.map vu8) (zs := (l ++ List.replicate (8 - m) (0 : UInt8)).map vu8) h_4 rfl rfl Try.underlying90 Try.underlying3 rfl rfl rfl rfl (by rw [List.map_append, List.map_replicate]) (by omega) (by omega) (fun _ _ => At.h) rfl (fun a_5 c_6 w_7 h_8 => ?_)
  refine WL.q (Wn.no rfl) rfl rfl (R.assign (v := (.slice a_5 8 c_6)) rfl) ?_
  refine WL.nil ?_
  refine thn_n ?_
  refine WP.ret ?_
  refine ret_of Try.results45 (RV.tmp (v := (.slice a_5 8 c_6)) rfl RV.nil) ?_
  exact ⟨_, _, rfl, h_8.chgS, h_8.ok _ (.head _)⟩

theorem c_granR (a : Option Addr) (n cap : Nat) (xs : List Value) (ls : List (List UInt8)) (hln : ls.length = n) (hb : ls.flatten.length ≤ 128) (hnb : n ≤ 1099511627776) (w : World) (hv : View w a xs) (hs : Sls w xs ls) :
    Cs Try.prog 44 [(.slice a n cap)].toArray w (fun v w1 => v = .agg ⟨(ovr (List.replicate 128 (0 : UInt8)) 0 ls.flatten).map vu8⟩ ∧ Chg w w1 []) := by
  refine Cs.of (n := 9) (args := [(.slice a n cap)]) Try.func44 rfl rfl rfl ?_
  have h_0 := HP.init w
  have h_01 := h_0.old (View.arg hv) (fun f hf => by cases hf)
  have h_00 := h_01.old hs.pin (fun f hf => by rw [List.mem_singleton] at hf; subst hf; intro hm; simp [Ent.mut] at hm)
  have hxl : xs.length = n := hs.len.trans hln
  refine WP.seq ?_
  refine WP.reg ?_
  refine WL.alloc (segs := [(128, (List.replicate 128 (0 : UInt8)).map vu8)]) h_00 (zv Try.typeInfo53 rfl) rfl (SsOk.cons (SOk.u8 (List.length_replicate ..)) SsOk.nil) rfl (fun b_1 w_2 h_3 => ?_)
  refine WL.nil ?_
  refine thn_n ?_
  refine WP.seq ?_
  refine WP.reg ?_
  refine WL.alloc (segs := [(128, (List.replicate 128 (0 : UInt8)).map vu8)]) h_3 (zv Try.typeInfo53 rfl) rfl (SsOk.cons (SOk.u8 (List.length_replicate ..)) SsOk.nil) rfl (fun b_4 w_5 h_6 => ?_)
  refine WL.nil ?_
  refine thn_n ?_
  refine WP.seq ?_
  refine WP.drawT (SL w.heap.size [.blk b_1 .nw 53 [(128, (List.replicate 128 (0 : UInt8)).map vu8)], .pin (sblks xs) (fun w => Sls w xs ls), .view a xs]) (.q 0 (.q 1 (.s 2 (.s 3 .nil)))) (by kernel_rfl) (by kernel_rfl) rfl (by kernel_rfl) (fun w_7 hc_9 => (SL.cons ((h_6.same hc_9).ok _ (.tail _ (.head _))) (SL.cons ((h_6.same hc_9).ok _ (.tail _ (.tail _ (.head _)))) (SL.cons ((h_6.same hc_9).ok _ (.tail _ (.tail _ (.tail _ (.head _))))) (SL.nil _ _))))) (fun w_7 hc_9 => ?_)
  have h_8 := h_6.same hc_9
  refine WT.q rfl (Wn.no rfl) rfl rfl (fun wq hS => R.sliceA (b := b_4) (off := 0) (off' := 0) (l := 0) (h := 128) rfl EvB.dflt EvB.dflt (by decide) (by decide) Try.underlying53 Try.sizeOf5 rfl) ?_
  refine WT.q rfl (Wn.no rfl) rfl rfl (fun wq hS => R.move (v := (.slice a n cap)) rfl) ?_
  refine WT.s ?_
  refine Op1.one rfl (Wn.no rfl) ?_
  refine WL.call (al := [(.slice a n cap)]) Try.call56 rfl rfl (c_Join a n cap xs ls hln (by omega) (by omega) _ (viewV (h_8.ok _ (.tail _ (.tail _ (.tail _ (.head _)))))) (h_8.ok _ (.tail _ (.tail _ (.head _)))).1) rfl ?_
  rintro _ w_12 ⟨a_10, cap_11, rfl, hc_13, ho_14⟩
  have h_15 := h_8.gotRow hc_13 ho_14
  refine WL.nil ?_
  refine ⟨(SL.cons (h_15.ok _ (.tail _ (.tail _ (.head _)))) (SL.cons (h_15.ok _ (.tail _ (.tail _ (.tail _ (.head _))))) (SL.cons (h_15.ok _ (.tail _ (.tail _ (.tail _ (.tail _ (.head _)))))) (SL.nil _ _)))), ?_⟩
  refine WT.s ?_
  refine Op1.one rfl (Wn.no rfl) ?_
  refine WL.copy (q := ls.flatten.length) (i := 0) (ys := ls.flatten.map vu8) (cs' := (ovr (List.replicate 128 (0 : UInt8)) 0 ls.flatten).map vu8) h_15 rfl rfl Try.underlying90 Try.sizeOf5 (ownView (h_15.ok _ (.head _))) (len_map (rfl : List.length ls.flatten = ls.flatten.length)) (one_u8 _) (At.t At.h) (by decide) Sg.h rfl (Nat.min_eq_left (by omega)) (by rw [len_map (List.length_replicate ..)]; omega) (cpOvr (rfl : List.length ls.flatten = ls.flatten.length)) rfl (fun w_16 h_17 => ?_)
  refine WL.nil ?_
  refine ⟨(SL.cons (h_17.ok _ (.tail _ (.tail _ (.head _)))) (SL.cons (h_17.ok _ (.tail _ (.tail _ (.tail _ (.head _))))) (SL.cons (h_17.ok _ (.tail _ (.tail _ (.tail _ (.tail _ (.head _)))))) (SL.nil _ _)))), ?_⟩
  refine WT.nil ?_
  refine thn_n ?_
  refine WP.seq ?_
  refine WP.reg ?_
  refine WL.q (Wn.no rfl) rfl rfl (R.loadA (b := b_4) (off := 0) [] [(128, (ovr (List.replicate 128 (0 : UInt8)) 0 ls.flatten).map vu8)] [] (cs := (ovr (List.replicate 128 (0 : UInt8)) 0 ls.flatten).map vu8) rfl Try.isAgg53 Try.sizeOf53 (h_17.ok _ (.tail _ (.head _))) rfl rfl rfl rfl) ?_
  refine WL.storeA (b := b_1) (off := 0) [] [(128, (List.replicate 128 (0 : UInt8)).map vu8)] [(128, (ovr (List.replicate 128 (0 : UInt8)) 0 ls.flatten).map vu8)] [] (ys := (ovr (List.replicate 128 (0 : UInt8)) 0 ls.flatten).map vu8) h_17 rfl rfl Try.sizeOf53 (At.t (At.t At.h)) (by decide) rfl rfl rfl rfl rfl rfl (SsOk.cons (SOk.u8 (ovr_len (List.length_replicate ..) (by rw [(rfl : List.length ls.flatten = ls.flatten.length)]; omega))) SsOk.nil) (fun w_18 h_19 => ?_)
  refine WL.nil ?_
  refine thn_n ?_
  refine WP.ret ?_
  refine ret_of Try.results44 (RV.cell rfl (h_19.loadA (cs := (ovr (List.replicate 128 (0 : UInt8)) 0 ls.flatten).map vu8) Try.isAgg53 Try.sizeOf53 (.tail _ (.tail _ (.head _))) rfl rfl) RV.nil) ?_
  exact ⟨rfl, h_19.chgS⟩

theorem c_RealmBytesR (vl : List UInt8) (hvl : vl.length = 32) (nd : UInt64) (w : World) :
    Cs Try.prog 23 [(.agg ⟨flat [(32, vl.map vu8), (1, [(vu64 nd)])]⟩)].toArray w (fun v w1 => v = .agg ⟨(realmB vl nd).map vu8⟩ ∧ Chg w w1 []) := by
  refine Cs.of (n := 11) (args := [(.agg ⟨flat [(32, vl.map vu8), (1, [(vu64 nd)])]⟩)]) Try.func23 rfl rfl rfl ?_
  have h_0 := HP.init w
  refine WP.seq ?_
  refine WP.reg ?_
  refine WL.box (v := (.agg ⟨flat [(32, vl.map vu8), (1, [(vu64 nd)])]⟩)) (segs := [(32, vl.map vu8), (1, [(vu64 nd)])]) h_0 rfl rfl (SsOk.cons (SOk.u8 hvl) (SsOk.cons (SOk.v rfl) SsOk.nil)) rfl (fun b_1 w_2 h_3 => ?_)
  refine WL.alloc (segs := [(128, (List.replicate 128 (0 : UInt8)).map vu8)]) h_3 (zv Try.typeInfo53 rfl) rfl (SsOk.cons (SOk.u8 (List.length_replicate ..)) SsOk.nil) rfl (fun b_4 w_5 h_6 => ?_)
  refine WL.nil ?_
  refine thn_n ?_
  refine WP.seq ?_
  refine WP.drawT (SL w.heap.size [.blk b_1 .nw 51 [(32, vl.map vu8), (1, [(vu64 nd)])]]) (.q 1 (.q 2 (.q 3 (.q 4 (.s 0 (.s 5 (.s 6 (.s 7 (.s 8 .nil))))))))) (by kernel_rfl) (by kernel_rfl) rfl (by kernel_rfl) (fun w_7 hc_9 => (SL.cons ((h_6.same hc_9).ok _ (.tail _ (.head _))) (SL.nil _ _))) (fun w_7 hc_9 => ?_)
  have h_8 := h_6.same hc_9
  refine WT.q rfl (Wn.no rfl) rfl rfl (fun wq hS => R.fieldAddr (b := b_1) (off := 0) (off' := 0) rfl Try.underlying51 rfl Try.sizeOf49 rfl rfl) ?_
  refine WT.q rfl (Wn.no rfl) rfl rfl (fun wq hS => R.sliceA (b := b_1) (off := 0) (off' := 0) (l := 0) (h := 32) rfl EvB.dflt EvB.dflt (by decide) (by decide) Try.underlying49 Try.sizeOf5 rfl) ?_
  refine WT.q rfl (Wn.no rfl) rfl rfl (fun wq hS => R.fieldAddr (b := b_1) (off := 0) (off' := 32) rfl Try.underlying51 rfl Try.sizeOf22 rfl rfl) ?_
  refine WT.q rfl (Wn.no rfl) rfl rfl (fun wq hS => R.load1 (b := b_1) (off := 32) (v := (vu64 nd)) rfl Try.isAgg22 (hS _ (.head _)) (Sg.t rfl Sg.h)) ?_
  refine WT.s ?_
  refine Op1.one rfl (Wn.no rfl) ?_
  refine WL.call (al := [(.string (bstr ([114, 101, 97, 108, 109] : List UInt8)))]) Try.call45 rfl rfl (c_mark 5 ([114, 101, 97, 108, 109] : List UInt8) rfl (by decide) _) rfl ?_
  rintro _ w_12 ⟨a_10, cap_11, rfl, hc_13, ho_14⟩
  have h_15 := h_8.gotRow hc_13 ho_14
  refine WL.nil ?_
  refine ⟨(SL.cons (h_15.ok _ (.tail _ (.tail _ (.head _)))) (SL.nil _ _)), ?_⟩
  refine WT.s ?_
  refine Op1.one rfl (Wn.no rfl) ?_
  refine WL.call (al := [(vu64 nd)]) Try.call46 rfl rfl (c_rword nd _) rfl ?_
  rintro _ w_18 ⟨a_16, cap_17, rfl, hc_19, ho_20⟩
  have h_21 := h_15.gotRow hc_19 ho_20
  refine WL.nil ?_
  refine ⟨(SL.cons (h_21.ok _ (.tail _ (.tail _ (.tail _ (.head _))))) (SL.nil _ _)), ?_⟩
  refine WT.s ?_
  refine Op1.one rfl (Wn.no rfl) ?_
  refine WL.buildSl (vs := [(0, (.slice a_10 8 cap_11)), (1, (.slice (some ⟨b_1, 0, none⟩) 32 32)), (2, (.slice a_16 8 cap_17))]) (cs := [(.slice a_10 8 cap_11), (.slice (some ⟨b_1, 0, none⟩) 32 32), (.slice a_16 8 cap_17)]) h_21 Try.underlying98 Try.sizeOf90 (zv Try.typeInfo90 rfl) rfl rfl (by kernel_rfl) rfl (by simp [Value.oneCell']) rfl rfl (fun b_22 w_23 h_24 => ?_)
  refine WL.nil ?_
  refine ⟨(SL.cons (h_24.ok _ (.tail _ (.tail _ (.tail _ (.tail _ (.head _)))))) (SL.nil _ _)), ?_⟩
  refine WT.s ?_
  refine Op1.one rfl (Wn.no rfl) ?_
  refine WL.call (al := [(.slice (some ⟨b_22, 0, none⟩) 3 3)]) Try.call44 rfl rfl (c_granR (some ⟨b_22, 0, none⟩) 3 3 [(.slice a_10 8 cap_11), (.slice (some ⟨b_1, 0, none⟩) 32 32), (.slice a_16 8 cap_17)] [([114, 101, 97, 108, 109] : List UInt8) ++ List.replicate (8 - 5) (0 : UInt8), vl, leN 8 nd.toNat] rfl (by rw [realmB_fl hvl]; decide) (by omega) _ (viewB (h_24.ok _ (.head _)) Sg.h) (Sls.cons (rfl : List.length (([114, 101, 97, 108, 109] : List UInt8) ++ List.replicate (8 - 5) (0 : UInt8)) = 8) (h_24.own (.tail _ (.tail _ (.head _)))).2.2.1 (ownView (h_24.ok _ (.tail _ (.tail _ (.head _))))) (Sls.cons hvl (by decide) (viewB (h_24.ok _ (.tail _ (.tail _ (.tail _ (.tail _ (.head _)))))) Sg.h) (Sls.cons (leN_len ..) (h_24.own (.tail _ (.head _))).2.2.1 (ownView (h_24.ok _ (.tail _ (.head _)))) Sls.nil)))) rfl ?_
  rintro _ w_26 ⟨rfl, hc_25⟩
  have h_27 := h_24.same hc_25
  refine WL.nil ?_
  refine ⟨(SL.cons (h_27.ok _ (.tail _ (.tail _ (.tail _ (.tail _ (.head _)))))) (SL.nil _ _)), ?_⟩
  refine WT.s ?_
  refine Op1.one rfl (Wn.no rfl) ?_
  refine WL.storeA (b := b_4) (off := 0) [] [(128, (List.replicate 128 (0 : UInt8)).map vu8)] [(128, (ovr (List.replicate 128 (0 : UInt8)) 0 ([([114, 101, 97, 108, 109] : List UInt8) ++ List.replicate (8 - 5) (0 : UInt8), vl, leN 8 nd.toNat]).flatten).map vu8)] [] (ys := (ovr (List.replicate 128 (0 : UInt8)) 0 ([([114, 101, 97, 108, 109] : List UInt8) ++ List.replicate (8 - 5) (0 : UInt8), vl, leN 8 nd.toNat]).flatten).map vu8) h_27 rfl rfl Try.sizeOf53 (At.t (At.t (At.t At.h))) (by decide) rfl rfl rfl rfl rfl rfl (SsOk.cons (SOk.u8 (ovr_len (List.length_replicate ..) (by have hz : ([([114, 101, 97, 108, 109] : List UInt8) ++ List.replicate (8 - 5) (0 : UInt8), vl, leN 8 nd.toNat]).flatten.length ≤ 128 := (by rw [realmB_fl hvl]; decide); omega))) SsOk.nil) (fun w_28 h_29 => ?_)
  refine WL.nil ?_
  refine ⟨(SL.cons (h_29.ok _ (.tail _ (.tail _ (.tail _ (.tail _ (.head _)))))) (SL.nil _ _)), ?_⟩
  refine WT.nil ?_
  refine thn_n ?_
  refine WP.ret ?_
  refine ret_of Try.results23 (RV.cell rfl (h_29.loadA (cs := (ovr (List.replicate 128 (0 : UInt8)) 0 ([([114, 101, 97, 108, 109] : List UInt8) ++ List.replicate (8 - 5) (0 : UInt8), vl, leN 8 nd.toNat]).flatten).map vu8) Try.isAgg53 Try.sizeOf53 (.tail _ (.tail _ (.tail _ (.head _)))) rfl rfl) RV.nil) ?_
  exact ⟨rfl, h_29.chgS⟩

theorem c_gran1 (a : Option Addr) (n cap : Nat) (bs : List UInt8) (hl : bs.length = n) (ba bg : Nat) (Ta Tg : TypeId) (at_ : Nat) (g : List UInt8) (hg : g.length = 128) (hat : at_ + n ≤ 128) (hat1 : at_ < 128) (w : World) (hba : (Ent.blk ba .ar Ta [(1, [vi (at_ : Int)])]).ok w.heap.size w) (hbg : (Ent.blk bg .ar Tg [(128, g.map vu8)]).ok w.heap.size w) (hne : bg ≠ ba) (hv : View w a (bs.map vu8)) (hs1 : Sep (.view a (bs.map vu8)) (.blk bg .ar Tg [(128, g.map vu8)])) (hs2 : Sep (.view a (bs.map vu8)) (.blk ba .ar Ta [(1, [vi (at_ : Int)])])) :
    Cs Try.prog 60 [(.slice a n cap), (.pointer (some ⟨ba, 0, none⟩)), (.pointer (some ⟨bg, 0, none⟩))].toArray w (fun v w1 => v = .tuple [].toArray ∧ Chg w w1 [bg, ba] ∧ CellsAt w1 bg Tg (flat [(128, (ovr g at_ bs).map vu8)]) ∧ CellsAt w1 ba Ta (flat [(1, [vi ((at_ + n : Nat) : Int)])])) := by
  refine Cs.of (n := 10) (args := [(.slice a n cap), (.pointer (some ⟨ba, 0, none⟩)), (.pointer (some ⟨bg, 0, none⟩))]) Try.func60 rfl rfl rfl ?_
  have h_0 := HP.init w
  have h_02 := h_0.old hba (fun f hf => by cases hf)
  have h_01 := h_02.old hbg (fun f hf => by rw [List.mem_singleton] at hf; subst hf; intro _ b hb hb2; rw [Ent.blocks, List.mem_singleton] at hb hb2; exact hne (hb.symm.trans hb2))
  have h_00 := h_01.old (View.arg hv) (fun f hf => by
    rcases List.mem_cons.1 hf with rfl | hf
    · exact hs1
    · rw [List.mem_singleton] at hf; subst hf; exact hs2)
  refine WP.cutG (G := Unit) [4, 5, 6, 7, 8, 9] (fun _ => [(7, (.slice a n cap)), (4, (vi ((at_ : Nat) : Int))), (5, (vi ((at_ : Nat) : Int))), (6, (.slice (some ⟨bg, (0 + at_), none⟩) (128 - at_) (128 - at_))), (8, (vi ((n : Nat) : Int))), (9, (vi ((at_ + n : Nat) : Int)))]) (fun _ w1 => HP w w1 [.view a (bs.map vu8), .blk bg .ar Tg [(128, (ovr g at_ bs).map vu8)], .blk ba .ar Ta [(1, [(vi ((at_ + n : Nat) : Int))])]]) ?_ ?_
  · refine WP.drawT (SL w.heap.size [.view a (bs.map vu8)]) (.q 3 (.s2 0 1 (.s 1 (.q 2 (.s 4 (.q 5 (.s 6 .nil))))) (.q 2 (.s2 0 4 (.s 4 (.q 5 (.s 6 .nil))) (.s 0 (.q 5 (.s 6 .nil))))))) (by kernel_rfl) (by kernel_rfl) rfl (by kernel_rfl) (fun w_1 hc_3 => (SL.cons ((h_00.same hc_3).ok _ (.head _)) (SL.nil _ _))) (fun w_1 hc_3 => ?_)
    have h_2 := h_00.same hc_3
    refine WT.q rfl (Wn.no rfl) rfl rfl (fun wq hS => R.move (v := (.slice a n cap)) rfl) ?_
    refine WT.s2 ?_ ?_
    · refine Op1.one rfl (Wn.no rfl) ?_
      refine WL.q (Wn.no rfl) rfl rfl (R.load1 (b := ba) (off := 0) (v := (vi ((at_ : Nat) : Int))) rfl Try.isAgg3 (h_2.ok _ (.tail _ (.tail _ (.head _)))) Sg.h) ?_
      refine WL.nil ?_
      refine ⟨(SL.cons (h_2.ok _ (.head _)) (SL.nil _ _)), ?_⟩
      refine WT.s ?_
      refine Op1.one rfl (Wn.no rfl) ?_
      refine WL.q (Wn.no rfl) rfl rfl (R.load1 (b := ba) (off := 0) (v := (vi ((at_ : Nat) : Int))) rfl Try.isAgg3 (h_2.ok _ (.tail _ (.tail _ (.head _)))) Sg.h) ?_
      refine WL.nil ?_
      refine ⟨(SL.cons (h_2.ok _ (.head _)) (SL.nil _ _)), ?_⟩
      refine WT.q rfl (Wn.no rfl) rfl rfl (fun wq hS => R.sliceA (b := bg) (off := 0) (off' := (0 + at_)) (l := at_) (h := 128) rfl (EvB.it (l := at_) rfl rfl) EvB.dflt (by omega) (by decide) Try.underlying53 Try.sizeOf5 (by rw [if_neg (by omega), Nat.mul_one])) ?_
      refine WT.s ?_
      refine Op1.one rfl (Wn.no rfl) ?_
      refine WL.copy (q := n) (i := at_) (ys := bs.map vu8) (cs' := (ovr g at_ bs).map vu8) h_2 rfl rfl Try.underlying90 Try.sizeOf5 (viewV (h_2.ok _ (.head _))) (len_map hl) (one_u8 _) (At.t At.h) (by decide) Sg.h rfl (Nat.min_eq_left (by omega)) (by rw [len_map hg]; omega) (cpOvr hl) rfl (fun w_4 h_5 => ?_)
      refine WL.nil ?_
      refine ⟨(SL.cons (h_5.ok _ (.head _)) (SL.nil _ _)), ?_⟩
      refine WT.q rfl (Wn.no rfl) rfl rfl (fun wq hS => R.bin (v := (vi ((at_ + n : Nat) : Int))) rfl rfl (bi_add (c := ((at_ + n : Nat) : Int)) (by omega) (by omega))) ?_
      refine WT.s ?_
      refine Op1.one rfl (Wn.no rfl) ?_
      refine WL.store1 (b := ba) (off := 0) (v := (vi ((at_ + n : Nat) : Int))) h_5 rfl rfl Try.sizeOf3 rfl (At.t (At.t At.h)) (by decide) Sg.h (fun w_6 h_7 => ?_)
      refine WL.nil ?_
      refine ⟨(SL.cons (h_7.ok _ (.head _)) (SL.nil _ _)), ?_⟩
      refine WT.nil ?_
      refine thn_n ?_
      exact ⟨(), (Ag.upd rfl (Ag.upd rfl (Ag.upd rfl (Ag.upd rfl (Ag.upd rfl (Ag.upd rfl (Ag.refl _ _))))))), ⟨rfl, rfl, rfl, rfl, rfl, rfl, trivial⟩, h_7⟩
    · refine Op1.one rfl (Wn.no rfl) ?_
      refine WL.q (Wn.no rfl) rfl rfl (R.load1 (b := ba) (off := 0) (v := (vi ((at_ : Nat) : Int))) rfl Try.isAgg3 (h_2.ok _ (.tail _ (.tail _ (.head _)))) Sg.h) ?_
      refine WL.nil ?_
      refine ⟨(SL.cons (h_2.ok _ (.head _)) (SL.nil _ _)), ?_⟩
      refine WT.q rfl (Wn.no rfl) rfl rfl (fun wq hS => R.sliceA (b := bg) (off := 0) (off' := (0 + at_)) (l := at_) (h := 128) rfl (EvB.it (l := at_) rfl rfl) EvB.dflt (by omega) (by decide) Try.underlying53 Try.sizeOf5 (by rw [if_neg (by omega), Nat.mul_one])) ?_
      refine WT.s2 ?_ ?_
      · refine Op1.one rfl (Wn.no rfl) ?_
        refine WL.q (Wn.no rfl) rfl rfl (R.load1 (b := ba) (off := 0) (v := (vi ((at_ : Nat) : Int))) rfl Try.isAgg3 (h_2.ok _ (.tail _ (.tail _ (.head _)))) Sg.h) ?_
        refine WL.nil ?_
        refine ⟨(SL.cons (h_2.ok _ (.head _)) (SL.nil _ _)), ?_⟩
        refine WT.s ?_
        refine Op1.one rfl (Wn.no rfl) ?_
        refine WL.copy (q := n) (i := at_) (ys := bs.map vu8) (cs' := (ovr g at_ bs).map vu8) h_2 rfl rfl Try.underlying90 Try.sizeOf5 (viewV (h_2.ok _ (.head _))) (len_map hl) (one_u8 _) (At.t At.h) (by decide) Sg.h rfl (Nat.min_eq_left (by omega)) (by rw [len_map hg]; omega) (cpOvr hl) rfl (fun w_8 h_9 => ?_)
        refine WL.nil ?_
        refine ⟨(SL.cons (h_9.ok _ (.head _)) (SL.nil _ _)), ?_⟩
        refine WT.q rfl (Wn.no rfl) rfl rfl (fun wq hS => R.bin (v := (vi ((at_ + n : Nat) : Int))) rfl rfl (bi_add (c := ((at_ + n : Nat) : Int)) (by omega) (by omega))) ?_
        refine WT.s ?_
        refine Op1.one rfl (Wn.no rfl) ?_
        refine WL.store1 (b := ba) (off := 0) (v := (vi ((at_ + n : Nat) : Int))) h_9 rfl rfl Try.sizeOf3 rfl (At.t (At.t At.h)) (by decide) Sg.h (fun w_10 h_11 => ?_)
        refine WL.nil ?_
        refine ⟨(SL.cons (h_11.ok _ (.head _)) (SL.nil _ _)), ?_⟩
        refine WT.nil ?_
        refine thn_n ?_
        exact ⟨(), (Ag.upd rfl (Ag.upd rfl (Ag.upd rfl (Ag.upd rfl (Ag.upd rfl (Ag.upd rfl (Ag.refl _ _))))))), ⟨rfl, rfl, rfl, rfl, rfl, rfl, trivial⟩, h_11⟩
      · refine Op1.one rfl (Wn.no rfl) ?_
        refine WL.copy (q := n) (i := at_) (ys := bs.map vu8) (cs' := (ovr g at_ bs).map vu8) h_2 rfl rfl Try.underlying90 Try.sizeOf5 (viewV (h_2.ok _ (.head _))) (len_map hl) (one_u8 _) (At.t At.h) (by decide) Sg.h rfl (Nat.min_eq_left (by omega)) (by rw [len_map hg]; omega) (cpOvr hl) rfl (fun w_12 h_13 => ?_)
        refine WL.nil ?_
        refine ⟨(SL.cons (h_13.ok _ (.head _)) (SL.nil _ _)), ?_⟩
        refine WT.s ?_
        refine Op1.one rfl (Wn.no rfl) ?_
        refine WL.q (Wn.no rfl) rfl rfl (R.load1 (b := ba) (off := 0) (v := (vi ((at_ : Nat) : Int))) rfl Try.isAgg3 (h_13.ok _ (.tail _ (.tail _ (.head _)))) Sg.h) ?_
        refine WL.nil ?_
        refine ⟨(SL.cons (h_13.ok _ (.head _)) (SL.nil _ _)), ?_⟩
        refine WT.q rfl (Wn.no rfl) rfl rfl (fun wq hS => R.bin (v := (vi ((at_ + n : Nat) : Int))) rfl rfl (bi_add (c := ((at_ + n : Nat) : Int)) (by omega) (by omega))) ?_
        refine WT.s ?_
        refine Op1.one rfl (Wn.no rfl) ?_
        refine WL.store1 (b := ba) (off := 0) (v := (vi ((at_ + n : Nat) : Int))) h_13 rfl rfl Try.sizeOf3 rfl (At.t (At.t At.h)) (by decide) Sg.h (fun w_14 h_15 => ?_)
        refine WL.nil ?_
        refine ⟨(SL.cons (h_15.ok _ (.head _)) (SL.nil _ _)), ?_⟩
        refine WT.nil ?_
        refine thn_n ?_
        exact ⟨(), (Ag.upd rfl (Ag.upd rfl (Ag.upd rfl (Ag.upd rfl (Ag.upd rfl (Ag.upd rfl (Ag.refl _ _))))))), ⟨rfl, rfl, rfl, rfl, rfl, rfl, trivial⟩, h_15⟩
  · rintro _ J_16 w_17 h_18
    refine ret_n ?_
    refine ret_of Try.results60 RV.nil ?_
    exact ⟨rfl, h_18.chgS, (h_18.ok _ (.tail _ (.head _))).2.1, (h_18.ok _ (.tail _ (.tail _ (.head _)))).2.1⟩

theorem c_gran (m : Nat) (l : List UInt8) (hlm : l.length = m) (hm : m ≤ 8) (a : Option Addr) (n cap : Nat) (xs : List Value) (ls : List (List UInt8)) (hln : ls.length = n) (hb : ls.flatten.length ≤ 119) (hnb : n ≤ 1099511627776) (w : World) (hv : View w a xs) (hs : Sls w xs ls) :
    Cs Try.prog 54 [(.string (bstr l)), (.slice a n cap)].toArray w (fun v w1 => v = .agg ⟨(ovr (ovr (List.replicate 128 (0 : UInt8)) 0 l) 8 ls.flatten).map vu8⟩ ∧ Chg w w1 []) := by
  refine Cs.of (n := 28) (args := [(.string (bstr l)), (.slice a n cap)]) Try.func54 rfl rfl rfl ?_
  have h_0 := HP.init w
  have h_01 := h_0.old (View.arg hv) (fun f hf => by cases hf)
  have h_00 := h_01.old hs.pin (fun f hf => by rw [List.mem_singleton] at hf; subst hf; intro hm; simp [Ent.mut] at hm)
  have hxl : xs.length = n := hs.len.trans hln
  refine WP.seq ?_
  refine WP.reg ?_
  refine WL.alloc (segs := [(128, (List.replicate 128 (0 : UInt8)).map vu8)]) h_00 (zv Try.typeInfo53 rfl) rfl (SsOk.cons (SOk.u8 (List.length_replicate ..)) SsOk.nil) rfl (fun b_1 w_2 h_3 => ?_)
  refine WL.nil ?_
  refine thn_n ?_
  refine WP.seq ?_
  refine WP.reg ?_
  refine WL.q (Wn.no rfl) rfl rfl (R.sliceA (b := b_1) (off := 0) (off' := 0) (l := 0) (h := 128) rfl EvB.dflt EvB.dflt (by decide) (by decide) Try.underlying53 Try.sizeOf5 rfl) ?_
  refine WL.q (Wn.no rfl) rfl rfl (R.move (v := (.string (bstr l))) rfl) ?_
  refine WL.copyS (q := m) (i := 0) (bs := l) (cs' := (ovr (List.replicate 128 (0 : UInt8)) 0 l).map vu8) h_3 rfl rfl Try.underlying90 Try.sizeOf5 hlm At.h (by decide) Sg.h rfl (Nat.min_eq_left (by omega)) (by rw [len_map (List.length_replicate ..)]; omega) (cpOvr hlm) rfl (fun w_4 h_5 => ?_)
  refine WL.q (Wn.no rfl) rfl rfl (R.move (v := (.string (bstr l))) rfl) ?_
  refine WL.q (Wn.no rfl) rfl rfl (R.lenStrL (l := l) (m := m) rfl rfl Try.underlying9 hlm) ?_
  refine WL.q (Wn.no rfl) rfl rfl (R.bin (v := (vi ((m - m : Nat) : Int))) rfl rfl (bi_sub (c := ((m - m : Nat) : Int)) (by omega) (by omega))) ?_
  refine WL.q (Wn.no rfl) rfl rfl (R.bin (v := (vi (((m - m) + 8 : Nat) : Int))) rfl rfl (bi_add (c := (((m - m) + 8 : Nat) : Int)) (by omega) (by omega))) ?_
  refine WL.alloc (segs := [(1, [(vi 0)])]) h_5 (zv Try.typeInfo3 rfl) rfl (SsOk.cons (SOk.v rfl) SsOk.nil) rfl (fun b_6 w_7 h_8 => ?_)
  refine WL.store1 (b := b_6) (off := 0) (v := (vi (((m - m) + 8 : Nat) : Int))) h_8 rfl rfl Try.sizeOf3 rfl At.h (by decide) Sg.h (fun w_9 h_10 => ?_)
  refine WL.nil ?_
  refine thn_n ?_
  refine WP.seq ?_
  refine WP.reg ?_
  refine WL.q (Wn.no rfl) rfl rfl (R.makeFuncL (fi := []) (ca := [(.pointer (some ⟨b_6, 0, none⟩)), (.pointer (some ⟨b_1, 0, none⟩))]) rfl rfl) ?_
  refine WL.q (Wn.no rfl) rfl rfl (R.assign (v := (.func (.func 60) [].toArray [(.pointer (some ⟨b_6, 0, none⟩)), (.pointer (some ⟨b_1, 0, none⟩))].toArray)) rfl) ?_
  refine WL.nil ?_
  refine thn_n ?_
  refine WP.seq ?_
  refine WP.seq ?_
  refine WP.reg ?_
  refine WL.q (Wn.no rfl) rfl rfl (R.move (v := (.slice a n cap)) rfl) ?_
  refine WL.q (Wn.no rfl) rfl rfl (R.lenS (a := a) (m := n) rfl rfl Try.underlying98) ?_
  refine WL.q (Wn.no rfl) rfl rfl (R.move (v := (vi 0)) rfl) ?_
  refine WL.nil ?_
  refine thn_n ?_
  refine WP.block ?_
  refine WP.loopG (G := Nat) [8, 19, 20, 21, 22, 23, 24, 25, 26] (fun k => [(19, (vi ((k : Nat) : Int)))]) (fun k m w1 => HP w w1 [.blk b_6 .nw 3 [(1, [(vi ((8 + ((ls.take k).flatten).length : Nat) : Int))])], .blk b_1 .nw 53 [(128, (ovr (ovr (List.replicate 128 (0 : UInt8)) 0 l) 8 ((ls.take k).flatten)).map vu8)], .pin (sblks xs) (fun w => Sls w xs ls), .view a xs] ∧ (k ≤ n) ∧ m = n - k) ⟨0, _, ⟨rfl, trivial⟩, (by rw [show m - m + 8 = 8 + ((ls.take 0).flatten).length by simp, show ovr (List.replicate 128 (0 : UInt8)) 0 l = ovr (ovr (List.replicate 128 (0 : UInt8)) 0 l) 8 ((ls.take 0).flatten) from ovr_nil.symm] at h_10; exact h_10), Nat.zero_le _, rfl⟩ ?_
  rintro k m_13 J_14 w_11 ⟨h_12, hk, rfl⟩
  refine WP.seq ?_
  refine WP.reg ?_
  refine WL.q (Wn.no rfl) rfl rfl (R.bin (v := (.bool (decide ((((k : Nat) : Int) : Int) < ((n : Nat) : Int))))) rfl rfl (bi_lss (r := decide ((((k : Nat) : Int) : Int) < ((n : Nat) : Int))) rfl)) ?_
  refine WL.nil ?_
  refine thn_n ?_
  refine WP.seq ?_
  refine WP.cond (b := decide ((((k : Nat) : Int) : Int) < ((n : Nat) : Int))) rfl (fun c_15 => ?_) (fun c_15 => ?_)
  · have p_16 := of_decide_eq_true c_15
    refine WP.skip ?_
    refine thn_n ?_
    refine WP.seq ?_
    refine WP.block ?_
    refine WP.seq ?_
    refine WP.reg ?_
    refine WL.q (Wn.no rfl) rfl rfl (R.indexS (a := a) (i := k) (off := k) (xs := xs) rfl rfl rfl (by omega) (viewV (h_12.ok _ (.tail _ (.tail _ (.tail _ (.head _)))))) (by omega) Try.underlying98 Try.sizeOf90 (Nat.mul_one _).symm) ?_
    obtain ⟨a_17, n_18, c_19, hx_20, hl_21, hn_22, hv_23, hb_24⟩ := Sls.get (i := k) (h_12.ok _ (.tail _ (.tail _ (.head _)))).1 (by rw [hln]; omega)
    have h_25 := h_12.within (e' := .view a_17 ((ls.getD k []).map vu8)) (.tail _ (.tail _ (.head _))) rfl (View.arg hv_23) rfl rfl (fun b hb_ => hb_24 _ (view_sblk hl_21 b hb_))
    refine WL.q (Wn.no rfl) rfl rfl (R.loadG (a := a) (i := k) (xs := xs) (v := (.slice a_17 n_18 c_19)) rfl (viewV (h_25.ok _ (.tail _ (.tail _ (.tail _ (.tail _ (.head _))))))) Try.isAgg90 hx_20) ?_
    refine WL.q (Wn.no rfl) rfl rfl (R.assign (v := (.slice a_17 n_18 c_19)) rfl) ?_
    refine WL.nil ?_
    refine thn_n ?_
    refine WP.reg ?_
    refine WL.q (Wn.no rfl) rfl rfl (R.move (v := (.func (.func 60) [].toArray [(.pointer (some ⟨b_6, 0, none⟩)), (.pointer (some ⟨b_1, 0, none⟩))].toArray)) rfl) ?_
    refine WL.q (Wn.no rfl) rfl rfl (R.move (v := (.slice a_17 n_18 c_19)) rfl) ?_
    have hleA := flat_take_le ls (k + 1)
    rw [flat_take (by omega), List.length_append] at hleA
    refine WL.call (al := [(.slice a_17 n_18 c_19), (.pointer (some ⟨b_6, 0, none⟩)), (.pointer (some ⟨b_1, 0, none⟩))]) Try.call60 rfl rfl (c_gran1 a_17 n_18 c_19 (ls.getD k []) hl_21 b_6 b_1 3 53 (8 + ((ls.take k).flatten).length) (ovr (ovr (List.replicate 128 (0 : UInt8)) 0 l) 8 ((ls.take k).flatten)) (ovr_len (ovr_len (List.length_replicate ..) (by omega)) (by have := flat_take_le ls k; omega)) (by have e := flat_take (ls := ls) (k := k) (by omega); have hle := flat_take_le ls (k + 1); rw [e, List.length_append] at hle; omega) (by have := flat_take_le ls k; omega) _ (h_25.arg (.tail _ (.head _))) (h_25.arg (.tail _ (.tail _ (.head _)))) (fun e => (h_25.ne (i := 1) (j := 2) rfl rfl rfl).symm (.inl rfl) _ (List.mem_singleton.2 rfl) (List.mem_singleton.2 e)) (viewV (h_25.ok _ (.head _))) (Sep.view (by decide) (fun h => h) (h_25.ne (i := 0) (j := 2) rfl rfl rfl)) (Sep.view (by decide) (fun h => h) (h_25.ne (i := 0) (j := 1) rfl rfl rfl))) rfl ?_
    rintro _ w_26 ⟨rfl, hc_27, hk_28, hk_29⟩
    have h_30 := h_25.setAll (Rp.same (Rp.blk (h_25.ok _ (.tail _ (.head _))).2.2 (by decide) (SsOk.cons (SOk.v rfl) SsOk.nil) hk_29 (Rp.blk (h_25.ok _ (.tail _ (.tail _ (.head _)))).2.2 (by decide) (SsOk.cons (SOk.u8 (ovr_len (ovr_len (ovr_len (List.length_replicate ..) (by omega)) (by have := flat_take_le ls k; omega)) (by rw [hl_21]; omega))) SsOk.nil) hk_28 (Rp.same (Rp.same Rp.nil))))) (hc_27.mono (by intro x hx; simp at hx ⊢; omega))
    refine WL.nil ?_
    refine inb_n ?_
    refine thn_n ?_
    refine WP.reg ?_
    refine WL.q (Wn.no rfl) rfl rfl (R.bin (v := (vi ((k + 1 : Nat) : Int))) rfl rfl (bi_add (c := ((k + 1 : Nat) : Int)) (by omega) (by omega))) ?_
    refine WL.q (Wn.no rfl) rfl rfl (R.move (v := (vi ((k + 1 : Nat) : Int))) rfl) ?_
    refine WL.nil ?_
    refine thn_n ?_
    have h_31 := h_30.drop rfl
    have e := flat_take (ls := ls) (k := k) (by omega)
    have hle := flat_take_le ls (k + 1)
    rw [e, List.length_append] at hle
    have eg : ovr (ovr (ovr (List.replicate 128 (0 : UInt8)) 0 l) 8 ((ls.take k).flatten)) (8 + ((ls.take k).flatten).length) (ls.getD k []) = ovr (ovr (List.replicate 128 (0 : UInt8)) 0 l) 8 ((ls.take (k + 1)).flatten) := by rw [ovr_ovr (by rw [ovr_len (K := 128) (List.length_replicate ..) (by omega)]; omega), e]
    have ea : 8 + ((ls.take k).flatten).length + n_18 = 8 + ((ls.take (k + 1)).flatten).length := by rw [e, List.length_append]; omega
    rw [eg, ea] at h_31
    exact ⟨k + 1, _, (by omega), (Ag.upd rfl (Ag.upd rfl (Ag.upd rfl (Ag.upd rfl (Ag.upd rfl (Ag.upd rfl (Ag.upd rfl (Ag.upd rfl (Ag.upd rfl (Ag.updL rfl (Ag.mix _ _ _))))))))))), ⟨rfl, trivial⟩, h_31, (by omega), rfl⟩
  · have p_32 := of_decide_eq_false c_15
    refine WP.exit ?_
    refine thn_x ?_
    refine thn_x ?_
    refine inb_hit ?_
    refine thn_n ?_
    refine WP.seq ?_
    refine WP.reg ?_
    refine WL.q (Wn.no rfl) rfl rfl (R.loadA (b := b_1) (off := 0) [] [(128, (ovr (ovr (List.replicate 128 (0 : UInt8)) 0 l) 8 ((ls.take k).flatten)).map vu8)] [] (cs := (ovr (ovr (List.replicate 128 (0 : UInt8)) 0 l) 8 ((ls.take k).flatten)).map vu8) rfl Try.isAgg53 Try.sizeOf53 (h_12.ok _ (.tail _ (.head _))) rfl rfl rfl rfl) ?_
    refine WL.storeA (b := b_1) (off := 0) [] [(128, (ovr (ovr (List.replicate 128 (0 : UInt8)) 0 l) 8 ((ls.take k).flatten)).map vu8)] [(128, (ovr (ovr (List.replicate 128 (0 : UInt8)) 0 l) 8 ((ls.take k).flatten)).map vu8)] [] (ys := (ovr (ovr (List.replicate 128 (0 : UInt8)) 0 l) 8 ((ls.take k).flatten)).map vu8) h_12 rfl rfl Try.sizeOf53 (At.t At.h) (by decide) rfl rfl rfl rfl rfl rfl (SsOk.cons (SOk.u8 (ovr_len (ovr_len (List.length_replicate ..) (by omega)) (by have := flat_take_le ls k; omega))) SsOk.nil) (fun w_33 h_34 => ?_)
    refine WL.nil ?_
    refine thn_n ?_
    refine WP.ret ?_
    refine ret_of Try.results54 (RV.cell rfl (h_34.loadA (cs := (ovr (ovr (List.replicate 128 (0 : UInt8)) 0 l) 8 ((ls.take k).flatten)).map vu8) Try.isAgg53 Try.sizeOf53 (.tail _ (.head _)) rfl rfl) RV.nil) ?_
    have hkn : k = n := by omega
    exact ⟨by rw [hkn, List.take_of_length_le (by omega)]; rfl, h_34.chgS⟩

theorem c_realm (vl : List UInt8) (hvl : vl.length = 32) (nd : UInt64) (w : World) :
    Cs Try.prog 43 [(.agg ⟨flat [(32, vl.map vu8), (1, [(vu64 nd)])]⟩)].toArray w (fun v w1 => v = .agg ⟨(realmB vl nd).map vu8⟩ ∧ Chg w w1 []) := by
  refine Cs.of (n := 10) (args := [(.agg ⟨flat [(32, vl.map vu8), (1, [(vu64 nd)])]⟩)]) Try.func43 rfl rfl rfl ?_
  have h_0 := HP.init w
  refine WP.seq ?_
  refine WP.reg ?_
  refine WL.box (v := (.agg ⟨flat [(32, vl.map vu8), (1, [(vu64 nd)])]⟩)) (segs := [(32, vl.map vu8), (1, [(vu64 nd)])]) h_0 rfl rfl (SsOk.cons (SOk.u8 hvl) (SsOk.cons (SOk.v rfl) SsOk.nil)) rfl (fun b_1 w_2 h_3 => ?_)
  refine WL.alloc (segs := [(128, (List.replicate 128 (0 : UInt8)).map vu8)]) h_3 (zv Try.typeInfo53 rfl) rfl (SsOk.cons (SOk.u8 (List.length_replicate ..)) SsOk.nil) rfl (fun b_4 w_5 h_6 => ?_)
  refine WL.nil ?_
  refine thn_n ?_
  refine WP.seq ?_
  refine WP.drawT (SL w.heap.size [.blk b_1 .nw 51 [(32, vl.map vu8), (1, [(vu64 nd)])]]) (.q 0 (.q 1 (.q 2 (.q 3 (.s 4 (.s 5 (.s 6 (.s 7 .nil)))))))) (by kernel_rfl) (by kernel_rfl) rfl (by kernel_rfl) (fun w_7 hc_9 => (SL.cons ((h_6.same hc_9).ok _ (.tail _ (.head _))) (SL.nil _ _))) (fun w_7 hc_9 => ?_)
  have h_8 := h_6.same hc_9
  refine WT.q rfl (Wn.no rfl) rfl rfl (fun wq hS => R.fieldAddr (b := b_1) (off := 0) (off' := 0) rfl Try.underlying51 rfl Try.sizeOf49 rfl rfl) ?_
  refine WT.q rfl (Wn.no rfl) rfl rfl (fun wq hS => R.sliceA (b := b_1) (off := 0) (off' := 0) (l := 0) (h := 32) rfl EvB.dflt EvB.dflt (by decide) (by decide) Try.underlying49 Try.sizeOf5 rfl) ?_
  refine WT.q rfl (Wn.no rfl) rfl rfl (fun wq hS => R.fieldAddr (b := b_1) (off := 0) (off' := 32) rfl Try.underlying51 rfl Try.sizeOf22 rfl rfl) ?_
  refine WT.q rfl (Wn.no rfl) rfl rfl (fun wq hS => R.load1 (b := b_1) (off := 32) (v := (vu64 nd)) rfl Try.isAgg22 (hS _ (.head _)) (Sg.t rfl Sg.h)) ?_
  refine WT.s ?_
  refine Op1.one rfl (Wn.no rfl) ?_
  refine WL.call (al := [(vu64 nd)]) Try.call55 rfl rfl (c_pword nd _) rfl ?_
  rintro _ w_12 ⟨a_10, cap_11, rfl, hc_13, ho_14⟩
  have h_15 := h_8.gotRow hc_13 ho_14
  refine WL.nil ?_
  refine ⟨(SL.cons (h_15.ok _ (.tail _ (.tail _ (.head _)))) (SL.nil _ _)), ?_⟩
  refine WT.s ?_
  refine Op1.one rfl (Wn.no rfl) ?_
  refine WL.buildSl (vs := [(0, (.slice (some ⟨b_1, 0, none⟩) 32 32)), (1, (.slice a_10 8 cap_11))]) (cs := [(.slice (some ⟨b_1, 0, none⟩) 32 32), (.slice a_10 8 cap_11)]) h_15 Try.underlying98 Try.sizeOf90 (zv Try.typeInfo90 rfl) rfl rfl (by kernel_rfl) rfl (by simp [Value.oneCell']) rfl rfl (fun b_16 w_17 h_18 => ?_)
  refine WL.nil ?_
  refine ⟨(SL.cons (h_18.ok _ (.tail _ (.tail _ (.tail _ (.head _))))) (SL.nil _ _)), ?_⟩
  refine WT.s ?_
  refine Op1.one rfl (Wn.no rfl) ?_
  refine WL.call (al := [(.string (bstr ([114, 101, 97, 108, 109] : List UInt8))), (.slice (some ⟨b_16, 0, none⟩) 2 2)]) Try.call54 rfl rfl (c_gran 5 ([114, 101, 97, 108, 109] : List UInt8) rfl (by decide) (some ⟨b_16, 0, none⟩) 2 2 [(.slice (some ⟨b_1, 0, none⟩) 32 32), (.slice a_10 8 cap_11)] [vl, leN 8 nd.toNat] rfl (by rw [realmP_fl hvl]; decide) (by omega) _ (viewB (h_18.ok _ (.head _)) Sg.h) (Sls.cons hvl (by decide) (viewB (h_18.ok _ (.tail _ (.tail _ (.tail _ (.head _))))) Sg.h) (Sls.cons (leN_len ..) (h_18.own (.tail _ (.head _))).2.2.1 (ownView (h_18.ok _ (.tail _ (.head _)))) Sls.nil))) rfl ?_
  rintro _ w_20 ⟨rfl, hc_19⟩
  have h_21 := h_18.same hc_19
  refine WL.nil ?_
  refine ⟨(SL.cons (h_21.ok _ (.tail _ (.tail _ (.tail _ (.head _))))) (SL.nil _ _)), ?_⟩
  refine WT.s ?_
  refine Op1.one rfl (Wn.no rfl) ?_
  refine WL.storeA (b := b_4) (off := 0) [] [(128, (List.replicate 128 (0 : UInt8)).map vu8)] [(128, (ovr (ovr (List.replicate 128 (0 : UInt8)) 0 ([114, 101, 97, 108, 109] : List UInt8)) 8 ([vl, leN 8 nd.toNat]).flatten).map vu8)] [] (ys := (ovr (ovr (List.replicate 128 (0 : UInt8)) 0 ([114, 101, 97, 108, 109] : List UInt8)) 8 ([vl, leN 8 nd.toNat]).flatten).map vu8) h_21 rfl rfl Try.sizeOf53 (At.t (At.t At.h)) (by decide) rfl rfl rfl rfl rfl rfl (SsOk.cons (SOk.u8 (ovr_len (ovr_len (List.length_replicate ..) (by decide)) (by have hz : ([vl, leN 8 nd.toNat]).flatten.length ≤ 119 := (by rw [realmP_fl hvl]; decide); omega))) SsOk.nil) (fun w_22 h_23 => ?_)
  refine WL.nil ?_
  refine ⟨(SL.cons (h_23.ok _ (.tail _ (.tail _ (.tail _ (.head _))))) (SL.nil _ _)), ?_⟩
  refine WT.nil ?_
  refine thn_n ?_
  refine WP.ret ?_
  refine ret_of Try.results43 (RV.cell rfl (h_23.loadA (cs := (ovr (ovr (List.replicate 128 (0 : UInt8)) 0 ([114, 101, 97, 108, 109] : List UInt8)) 8 ([vl, leN 8 nd.toNat]).flatten).map vu8) Try.isAgg53 Try.sizeOf53 (.tail _ (.tail _ (.head _))) rfl rfl) RV.nil) ?_
  exact ⟨by rw [← realm_eq hvl]; rfl, h_23.chgS⟩

theorem c_rec (pc : UInt64) (rg : List UInt64) (hrg : rg.length = 8) (run : Bool) (w : World) :
    Cs Try.prog 47 [(.agg ⟨flat [(1, [(vu64 pc)]), (8, rg.map vu64), (1, [(.bool run)])]⟩)].toArray w (fun v w1 => v = .agg ⟨(recB pc rg run).map vu8⟩ ∧ Chg w w1 []) := by
  refine Cs.of (n := 29) (args := [(.agg ⟨flat [(1, [(vu64 pc)]), (8, rg.map vu64), (1, [(.bool run)])]⟩)]) Try.func47 rfl rfl rfl ?_
  have h_0 := HP.init w
  refine WP.seq ?_
  refine WP.reg ?_
  refine WL.box (v := (.agg ⟨flat [(1, [(vu64 pc)]), (8, rg.map vu64), (1, [(.bool run)])]⟩)) (segs := [(1, [(vu64 pc)]), (8, rg.map vu64), (1, [(.bool run)])]) h_0 rfl rfl (SsOk.cons (SOk.v rfl) (SsOk.cons (SOk.u64 hrg) (SsOk.cons (SOk.v rfl) SsOk.nil))) rfl (fun b_1 w_2 h_3 => ?_)
  refine WL.alloc (segs := [(128, (List.replicate 128 (0 : UInt8)).map vu8)]) h_3 (zv Try.typeInfo53 rfl) rfl (SsOk.cons (SOk.u8 (List.length_replicate ..)) SsOk.nil) rfl (fun b_4 w_5 h_6 => ?_)
  refine WL.nil ?_
  refine thn_n ?_
  refine WP.seq ?_
  refine WP.reg ?_
  refine WL.q (Wn.no rfl) rfl rfl (R.fieldAddr (b := b_1) (off := 0) (off' := 0) rfl Try.underlying45 rfl Try.sizeOf22 rfl rfl) ?_
  refine WL.q (Wn.no rfl) rfl rfl (R.load1 (b := b_1) (off := 0) (v := (vu64 pc)) rfl Try.isAgg22 (h_6.ok _ (.tail _ (.head _))) Sg.h) ?_
  refine WL.call (al := [(vu64 pc)]) Try.call55 rfl rfl (c_pword pc _) rfl ?_
  rintro _ w_9 ⟨a_7, cap_8, rfl, hc_10, ho_11⟩
  have h_12 := h_6.gotRow hc_10 ho_11
  refine WL.buildSl (vs := [(0, (.slice a_7 8 cap_8))]) (cs := [(.slice a_7 8 cap_8)]) h_12 Try.underlying98 Try.sizeOf90 (zv Try.typeInfo90 rfl) rfl rfl (by kernel_rfl) rfl (by simp [Value.oneCell']) rfl rfl (fun b_13 w_14 h_15 => ?_)
  refine WL.q (Wn.no rfl) rfl rfl (R.assign (v := (.slice (some ⟨b_13, 0, none⟩) 1 1)) rfl) ?_
  refine WL.nil ?_
  refine thn_n ?_
  refine WP.seq ?_
  refine WP.seq ?_
  refine WP.reg ?_
  refine WL.q (Wn.no rfl) rfl rfl (R.move (v := (vi 0)) rfl) ?_
  refine WL.nil ?_
  refine thn_n ?_
  refine WP.block ?_
  refine WP.loopU (WI.round ?_)
  refine WP.seq ?_
  refine WP.reg ?_
  refine WL.q (Wn.no rfl) rfl rfl (R.bin (v := (.bool true)) rfl rfl (bi_lss (r := true) (by decide))) ?_
  refine WL.nil ?_
  refine thn_n ?_
  refine WP.seq ?_
  refine WP.condT rfl ?_
  refine WP.skip ?_
  refine thn_n ?_
  refine WP.seq ?_
  refine WP.block ?_
  refine WP.seq ?_
  refine WP.reg ?_
  refine WL.q (Wn.no rfl) rfl rfl (R.move (v := (vi 0)) rfl) ?_
  refine WL.q (Wn.no rfl) rfl rfl (R.assign (v := (vi 0)) rfl) ?_
  refine WL.nil ?_
  refine thn_n ?_
  refine WP.reg ?_
  refine WL.q (Wn.no rfl) rfl rfl (R.move (v := (.slice (some ⟨b_13, 0, none⟩) 1 1)) rfl) ?_
  refine WL.q (Wn.no rfl) rfl rfl (R.move (v := (vi 0)) rfl) ?_
  refine WL.q (Wn.no rfl) rfl rfl (R.fieldAddr (b := b_1) (off := 0) (off' := 1) rfl Try.underlying45 rfl Try.sizeOf23 rfl rfl) ?_
  refine WL.q (Wn.no rfl) rfl rfl (R.indexA (b := b_1) (off := 1) (off' := 1) (i := 0) rfl rfl rfl (by decide) Try.underlying23 Try.sizeOf22 rfl) ?_
  refine WL.q (Wn.no rfl) rfl rfl (R.loadE (b := b_1) (off := 1) (i := 0) (v := (vu64 (rg.getD 0 0))) rfl Try.isAgg22 (h_15.ok _ (.tail _ (.tail _ (.tail _ (.head _))))) (Sg.t rfl Sg.h) rfl (get_u64 (lt_len (K := 8) hrg (by decide)))) ?_
  refine WL.call (al := [(vu64 (rg.getD 0 0))]) Try.call55 rfl rfl (c_pword (rg.getD 0 0) _) rfl ?_
  rintro _ w_18 ⟨a_16, cap_17, rfl, hc_19, ho_20⟩
  have h_21 := h_15.gotRow hc_19 ho_20
  refine WL.buildSl (vs := [(0, (.slice a_16 8 cap_17))]) (cs := [(.slice a_16 8 cap_17)]) h_21 Try.underlying98 Try.sizeOf90 (zv Try.typeInfo90 rfl) rfl rfl (by kernel_rfl) rfl (by simp [Value.oneCell']) rfl rfl (fun b_22 w_23 h_24 => ?_)
  have h_25 := HP.blkRow (m := 1) (s := 1) h_24 (At.t (At.t At.h)) rfl (by simp only [maxLen]; decide)
  refine WL.append (km := 2) (xs := [(.slice a_7 8 cap_8)]) (ys := [(.slice a_16 8 cap_17)]) (zs := [(.slice a_7 8 cap_8), (.slice a_16 8 cap_17)]) h_25 rfl rfl el98 (viewB (h_25.ok _ (.head _)) Sg.h) rfl (by simp [Value.oneCell']) rfl rfl (by omega) (by omega) (fun _ _ => (At.t (At.t At.h))) rfl (fun a_26 c_27 w_28 h_29 => ?_)
  refine WL.q (Wn.no rfl) rfl rfl (R.assign (v := (.slice a_26 2 c_27)) rfl) ?_
  refine WL.nil ?_
  refine inb_n ?_
  refine thn_n ?_
  refine WP.reg ?_
  refine WL.q (Wn.no rfl) rfl rfl (R.bin (v := (vi 1)) rfl rfl (bi_add (c := 1) (by omega) (by omega))) ?_
  refine WL.q (Wn.no rfl) rfl rfl (R.move (v := (vi 1)) rfl) ?_
  refine WL.nil ?_
  refine thn_n ?_
  refine WI.round ?_
  refine WP.seq ?_
  refine WP.reg ?_
  refine WL.q (Wn.no rfl) rfl rfl (R.bin (v := (.bool true)) rfl rfl (bi_lss (r := true) (by decide))) ?_
  refine WL.nil ?_
  refine thn_n ?_
  refine WP.seq ?_
  refine WP.condT rfl ?_
  refine WP.skip ?_
  refine thn_n ?_
  refine WP.seq ?_
  refine WP.block ?_
  refine WP.seq ?_
  refine WP.reg ?_
  refine WL.q (Wn.no rfl) rfl rfl (R.move (v := (vi 1)) rfl) ?_
  refine WL.q (Wn.no rfl) rfl rfl (R.assign (v := (vi 1)) rfl) ?_
  refine WL.nil ?_
  refine thn_n ?_
  refine WP.reg ?_
  refine WL.q (Wn.no rfl) rfl rfl (R.move (v := (.slice a_26 2 c_27)) rfl) ?_
  refine WL.q (Wn.no rfl) rfl rfl (R.move (v := (vi 1)) rfl) ?_
  refine WL.q (Wn.no rfl) rfl rfl (R.fieldAddr (b := b_1) (off := 0) (off' := 1) rfl Try.underlying45 rfl Try.sizeOf23 rfl rfl) ?_
  refine WL.q (Wn.no rfl) rfl rfl (R.indexA (b := b_1) (off := 1) (off' := 2) (i := 1) rfl rfl rfl (by decide) Try.underlying23 Try.sizeOf22 rfl) ?_
  refine WL.q (Wn.no rfl) rfl rfl (R.loadE (b := b_1) (off := 2) (i := 1) (v := (vu64 (rg.getD 1 0))) rfl Try.isAgg22 (h_29.ok _ (.tail _ (.tail _ (.tail _ (.tail _ (.tail _ (.head _))))))) (Sg.t rfl Sg.h) rfl (get_u64 (lt_len (K := 8) hrg (by decide)))) ?_
  refine WL.call (al := [(vu64 (rg.getD 1 0))]) Try.call55 rfl rfl (c_pword (rg.getD 1 0) _) rfl ?_
  rintro _ w_32 ⟨a_30, cap_31, rfl, hc_33, ho_34⟩
  have h_35 := h_29.gotRow hc_33 ho_34
  refine WL.buildSl (vs := [(0, (.slice a_30 8 cap_31))]) (cs := [(.slice a_30 8 cap_31)]) h_35 Try.underlying98 Try.sizeOf90 (zv Try.typeInfo90 rfl) rfl rfl (by kernel_rfl) rfl (by simp [Value.oneCell']) rfl rfl (fun b_36 w_37 h_38 => ?_)
  refine WL.append (km := 3) (xs := [(.slice a_7 8 cap_8), (.slice a_16 8 cap_17)]) (ys := [(.slice a_30 8 cap_31)]) (zs := [(.slice a_7 8 cap_8), (.slice a_16 8 cap_17), (.slice a_30 8 cap_31)]) h_38 rfl rfl el98 (viewB (h_38.ok _ (.head _)) Sg.h) rfl (by simp [Value.oneCell']) rfl rfl (by omega) (by omega) (fun _ _ => (At.t (At.t (At.t (At.t At.h))))) rfl (fun a_39 c_40 w_41 h_42 => ?_)
  refine WL.q (Wn.no rfl) rfl rfl (R.assign (v := (.slice a_39 3 c_40)) rfl) ?_
  refine WL.nil ?_
  refine inb_n ?_
  refine thn_n ?_
  refine WP.reg ?_
  refine WL.q (Wn.no rfl) rfl rfl (R.bin (v := (vi 2)) rfl rfl (bi_add (c := 2) (by omega) (by omega))) ?_
  refine WL.q (Wn.no rfl) rfl rfl (R.move (v := (vi 2)) rfl) ?_
  refine WL.nil ?_
  refine thn_n ?_
  refine WI.round ?_
  refine WP.seq ?_
  refine WP.reg ?_
  refine WL.q (Wn.no rfl) rfl rfl (R.bin (v := (.bool true)) rfl rfl (bi_lss (r := true) (by decide))) ?_
  refine WL.nil ?_
  refine thn_n ?_
  refine WP.seq ?_
  refine WP.condT rfl ?_
  refine WP.skip ?_
  refine thn_n ?_
  refine WP.seq ?_
  refine WP.block ?_
  refine WP.seq ?_
  refine WP.reg ?_
  refine WL.q (Wn.no rfl) rfl rfl (R.move (v := (vi 2)) rfl) ?_
  refine WL.q (Wn.no rfl) rfl rfl (R.assign (v := (vi 2)) rfl) ?_
  refine WL.nil ?_
  refine thn_n ?_
  refine WP.reg ?_
  refine WL.q (Wn.no rfl) rfl rfl (R.move (v := (.slice a_39 3 c_40)) rfl) ?_
  refine WL.q (Wn.no rfl) rfl rfl (R.move (v := (vi 2)) rfl) ?_
  refine WL.q (Wn.no rfl) rfl rfl (R.fieldAddr (b := b_1) (off := 0) (off' := 1) rfl Try.underlying45 rfl Try.sizeOf23 rfl rfl) ?_
  refine WL.q (Wn.no rfl) rfl rfl (R.indexA (b := b_1) (off := 1) (off' := 3) (i := 2) rfl rfl rfl (by decide) Try.underlying23 Try.sizeOf22 rfl) ?_
  refine WL.q (Wn.no rfl) rfl rfl (R.loadE (b := b_1) (off := 3) (i := 2) (v := (vu64 (rg.getD 2 0))) rfl Try.isAgg22 (h_42.ok _ (.tail _ (.tail _ (.tail _ (.tail _ (.tail _ (.tail _ (.tail _ (.head _))))))))) (Sg.t rfl Sg.h) rfl (get_u64 (lt_len (K := 8) hrg (by decide)))) ?_
  refine WL.call (al := [(vu64 (rg.getD 2 0))]) Try.call55 rfl rfl (c_pword (rg.getD 2 0) _) rfl ?_
  rintro _ w_45 ⟨a_43, cap_44, rfl, hc_46, ho_47⟩
  have h_48 := h_42.gotRow hc_46 ho_47
  refine WL.buildSl (vs := [(0, (.slice a_43 8 cap_44))]) (cs := [(.slice a_43 8 cap_44)]) h_48 Try.underlying98 Try.sizeOf90 (zv Try.typeInfo90 rfl) rfl rfl (by kernel_rfl) rfl (by simp [Value.oneCell']) rfl rfl (fun b_49 w_50 h_51 => ?_)
  refine WL.append (km := 4) (xs := [(.slice a_7 8 cap_8), (.slice a_16 8 cap_17), (.slice a_30 8 cap_31)]) (ys := [(.slice a_43 8 cap_44)]) (zs := [(.slice a_7 8 cap_8), (.slice a_16 8 cap_17), (.slice a_30 8 cap_31), (.slice a_43 8 cap_44)]) h_51 rfl rfl el98 (viewB (h_51.ok _ (.head _)) Sg.h) rfl (by simp [Value.oneCell']) rfl rfl (by omega) (by omega) (fun _ _ => (At.t (At.t (At.t (At.t (At.t (At.t At.h))))))) rfl (fun a_52 c_53 w_54 h_55 => ?_)
  refine WL.q (Wn.no rfl) rfl rfl (R.assign (v := (.slice a_52 4 c_53)) rfl) ?_
  refine WL.nil ?_
  refine inb_n ?_
  refine thn_n ?_
  refine WP.reg ?_
  refine WL.q (Wn.no rfl) rfl rfl (R.bin (v := (vi 3)) rfl rfl (bi_add (c := 3) (by omega) (by omega))) ?_
  refine WL.q (Wn.no rfl) rfl rfl (R.move (v := (vi 3)) rfl) ?_
  refine WL.nil ?_
  refine thn_n ?_
  refine WI.round ?_
  refine WP.seq ?_
  refine WP.reg ?_
  refine WL.q (Wn.no rfl) rfl rfl (R.bin (v := (.bool true)) rfl rfl (bi_lss (r := true) (by decide))) ?_
  refine WL.nil ?_
  refine thn_n ?_
  refine WP.seq ?_
  refine WP.condT rfl ?_
  refine WP.skip ?_
  refine thn_n ?_
  refine WP.seq ?_
  refine WP.block ?_
  refine WP.seq ?_
  refine WP.reg ?_
  refine WL.q (Wn.no rfl) rfl rfl (R.move (v := (vi 3)) rfl) ?_
  refine WL.q (Wn.no rfl) rfl rfl (R.assign (v := (vi 3)) rfl) ?_
  refine WL.nil ?_
  refine thn_n ?_
  refine WP.reg ?_
  refine WL.q (Wn.no rfl) rfl rfl (R.move (v := (.slice a_52 4 c_53)) rfl) ?_
  refine WL.q (Wn.no rfl) rfl rfl (R.move (v := (vi 3)) rfl) ?_
  refine WL.q (Wn.no rfl) rfl rfl (R.fieldAddr (b := b_1) (off := 0) (off' := 1) rfl Try.underlying45 rfl Try.sizeOf23 rfl rfl) ?_
  refine WL.q (Wn.no rfl) rfl rfl (R.indexA (b := b_1) (off := 1) (off' := 4) (i := 3) rfl rfl rfl (by decide) Try.underlying23 Try.sizeOf22 rfl) ?_
  refine WL.q (Wn.no rfl) rfl rfl (R.loadE (b := b_1) (off := 4) (i := 3) (v := (vu64 (rg.getD 3 0))) rfl Try.isAgg22 (h_55.ok _ (.tail _ (.tail _ (.tail _ (.tail _ (.tail _ (.tail _ (.tail _ (.tail _ (.tail _ (.head _))))))))))) (Sg.t rfl Sg.h) rfl (get_u64 (lt_len (K := 8) hrg (by decide)))) ?_
  refine WL.call (al := [(vu64 (rg.getD 3 0))]) Try.call55 rfl rfl (c_pword (rg.getD 3 0) _) rfl ?_
  rintro _ w_58 ⟨a_56, cap_57, rfl, hc_59, ho_60⟩
  have h_61 := h_55.gotRow hc_59 ho_60
  refine WL.buildSl (vs := [(0, (.slice a_56 8 cap_57))]) (cs := [(.slice a_56 8 cap_57)]) h_61 Try.underlying98 Try.sizeOf90 (zv Try.typeInfo90 rfl) rfl rfl (by kernel_rfl) rfl (by simp [Value.oneCell']) rfl rfl (fun b_62 w_63 h_64 => ?_)
  refine WL.append (km := 5) (xs := [(.slice a_7 8 cap_8), (.slice a_16 8 cap_17), (.slice a_30 8 cap_31), (.slice a_43 8 cap_44)]) (ys := [(.slice a_56 8 cap_57)]) (zs := [(.slice a_7 8 cap_8), (.slice a_16 8 cap_17), (.slice a_30 8 cap_31), (.slice a_43 8 cap_44), (.slice a_56 8 cap_57)]) h_64 rfl rfl el98 (viewB (h_64.ok _ (.head _)) Sg.h) rfl (by simp [Value.oneCell']) rfl rfl (by omega) (by omega) (fun _ _ => (At.t (At.t (At.t (At.t (At.t (At.t (At.t (At.t At.h))))))))) rfl (fun a_65 c_66 w_67 h_68 => ?_)
  refine WL.q (Wn.no rfl) rfl rfl (R.assign (v := (.slice a_65 5 c_66)) rfl) ?_
  refine WL.nil ?_
  refine inb_n ?_
  refine thn_n ?_
  refine WP.reg ?_
  refine WL.q (Wn.no rfl) rfl rfl (R.bin (v := (vi 4)) rfl rfl (bi_add (c := 4) (by omega) (by omega))) ?_
  refine WL.q (Wn.no rfl) rfl rfl (R.move (v := (vi 4)) rfl) ?_
  refine WL.nil ?_
  refine thn_n ?_
  refine WI.round ?_
  refine WP.seq ?_
  refine WP.reg ?_
  refine WL.q (Wn.no rfl) rfl rfl (R.bin (v := (.bool true)) rfl rfl (bi_lss (r := true) (by decide))) ?_
  refine WL.nil ?_
  refine thn_n ?_
  refine WP.seq ?_
  refine WP.condT rfl ?_
  refine WP.skip ?_
  refine thn_n ?_
  refine WP.seq ?_
  refine WP.block ?_
  refine WP.seq ?_
  refine WP.reg ?_
  refine WL.q (Wn.no rfl) rfl rfl (R.move (v := (vi 4)) rfl) ?_
  refine WL.q (Wn.no rfl) rfl rfl (R.assign (v := (vi 4)) rfl) ?_
  refine WL.nil ?_
  refine thn_n ?_
  refine WP.reg ?_
  refine WL.q (Wn.no rfl) rfl rfl (R.move (v := (.slice a_65 5 c_66)) rfl) ?_
  refine WL.q (Wn.no rfl) rfl rfl (R.move (v := (vi 4)) rfl) ?_
  refine WL.q (Wn.no rfl) rfl rfl (R.fieldAddr (b := b_1) (off := 0) (off' := 1) rfl Try.underlying45 rfl Try.sizeOf23 rfl rfl) ?_
  refine WL.q (Wn.no rfl) rfl rfl (R.indexA (b := b_1) (off := 1) (off' := 5) (i := 4) rfl rfl rfl (by decide) Try.underlying23 Try.sizeOf22 rfl) ?_
  refine WL.q (Wn.no rfl) rfl rfl (R.loadE (b := b_1) (off := 5) (i := 4) (v := (vu64 (rg.getD 4 0))) rfl Try.isAgg22 (h_68.ok _ (.tail _ (.tail _ (.tail _ (.tail _ (.tail _ (.tail _ (.tail _ (.tail _ (.tail _ (.tail _ (.tail _ (.head _))))))))))))) (Sg.t rfl Sg.h) rfl (get_u64 (lt_len (K := 8) hrg (by decide)))) ?_
  refine WL.call (al := [(vu64 (rg.getD 4 0))]) Try.call55 rfl rfl (c_pword (rg.getD 4 0) _) rfl ?_
  rintro _ w_71 ⟨a_69, cap_70, rfl, hc_72, ho_73⟩
  have h_74 := h_68.gotRow hc_72 ho_73
  refine WL.buildSl (vs := [(0, (.slice a_69 8 cap_70))]) (cs := [(.slice a_69 8 cap_70)]) h_74 Try.underlying98 Try.sizeOf90 (zv Try.typeInfo90 rfl) rfl rfl (by kernel_rfl) rfl (by simp [Value.oneCell']) rfl rfl (fun b_75 w_76 h_77 => ?_)
  refine WL.append (km := 6) (xs := [(.slice a_7 8 cap_8), (.slice a_16 8 cap_17), (.slice a_30 8 cap_31), (.slice a_43 8 cap_44), (.slice a_56 8 cap_57)]) (ys := [(.slice a_69 8 cap_70)]) (zs := [(.slice a_7 8 cap_8), (.slice a_16 8 cap_17), (.slice a_30 8 cap_31), (.slice a_43 8 cap_44), (.slice a_56 8 cap_57), (.slice a_69 8 cap_70)]) h_77 rfl rfl el98 (viewB (h_77.ok _ (.head _)) Sg.h) rfl (by simp [Value.oneCell']) rfl rfl (by omega) (by omega) (fun _ _ => (At.t (At.t (At.t (At.t (At.t (At.t (At.t (At.t (At.t (At.t At.h))))))))))) rfl (fun a_78 c_79 w_80 h_81 => ?_)
  refine WL.q (Wn.no rfl) rfl rfl (R.assign (v := (.slice a_78 6 c_79)) rfl) ?_
  refine WL.nil ?_
  refine inb_n ?_
  refine thn_n ?_
  refine WP.reg ?_
  refine WL.q (Wn.no rfl) rfl rfl (R.bin (v := (vi 5)) rfl rfl (bi_add (c := 5) (by omega) (by omega))) ?_
  refine WL.q (Wn.no rfl) rfl rfl (R.move (v := (vi 5)) rfl) ?_
  refine WL.nil ?_
  refine thn_n ?_
  refine WI.round ?_
  refine WP.seq ?_
  refine WP.reg ?_
  refine WL.q (Wn.no rfl) rfl rfl (R.bin (v := (.bool true)) rfl rfl (bi_lss (r := true) (by decide))) ?_
  refine WL.nil ?_
  refine thn_n ?_
  refine WP.seq ?_
  refine WP.condT rfl ?_
  refine WP.skip ?_
  refine thn_n ?_
  refine WP.seq ?_
  refine WP.block ?_
  refine WP.seq ?_
  refine WP.reg ?_
  refine WL.q (Wn.no rfl) rfl rfl (R.move (v := (vi 5)) rfl) ?_
  refine WL.q (Wn.no rfl) rfl rfl (R.assign (v := (vi 5)) rfl) ?_
  refine WL.nil ?_
  refine thn_n ?_
  refine WP.reg ?_
  refine WL.q (Wn.no rfl) rfl rfl (R.move (v := (.slice a_78 6 c_79)) rfl) ?_
  refine WL.q (Wn.no rfl) rfl rfl (R.move (v := (vi 5)) rfl) ?_
  refine WL.q (Wn.no rfl) rfl rfl (R.fieldAddr (b := b_1) (off := 0) (off' := 1) rfl Try.underlying45 rfl Try.sizeOf23 rfl rfl) ?_
  refine WL.q (Wn.no rfl) rfl rfl (R.indexA (b := b_1) (off := 1) (off' := 6) (i := 5) rfl rfl rfl (by decide) Try.underlying23 Try.sizeOf22 rfl) ?_
  refine WL.q (Wn.no rfl) rfl rfl (R.loadE (b := b_1) (off := 6) (i := 5) (v := (vu64 (rg.getD 5 0))) rfl Try.isAgg22 (h_81.ok _ (.tail _ (.tail _ (.tail _ (.tail _ (.tail _ (.tail _ (.tail _ (.tail _ (.tail _ (.tail _ (.tail _ (.tail _ (.tail _ (.head _))))))))))))))) (Sg.t rfl Sg.h) rfl (get_u64 (lt_len (K := 8) hrg (by decide)))) ?_
  refine WL.call (al := [(vu64 (rg.getD 5 0))]) Try.call55 rfl rfl (c_pword (rg.getD 5 0) _) rfl ?_
  rintro _ w_84 ⟨a_82, cap_83, rfl, hc_85, ho_86⟩
  have h_87 := h_81.gotRow hc_85 ho_86
  refine WL.buildSl (vs := [(0, (.slice a_82 8 cap_83))]) (cs := [(.slice a_82 8 cap_83)]) h_87 Try.underlying98 Try.sizeOf90 (zv Try.typeInfo90 rfl) rfl rfl (by kernel_rfl) rfl (by simp [Value.oneCell']) rfl rfl (fun b_88 w_89 h_90 => ?_)
  refine WL.append (km := 7) (xs := [(.slice a_7 8 cap_8), (.slice a_16 8 cap_17), (.slice a_30 8 cap_31), (.slice a_43 8 cap_44), (.slice a_56 8 cap_57), (.slice a_69 8 cap_70)]) (ys := [(.slice a_82 8 cap_83)]) (zs := [(.slice a_7 8 cap_8), (.slice a_16 8 cap_17), (.slice a_30 8 cap_31), (.slice a_43 8 cap_44), (.slice a_56 8 cap_57), (.slice a_69 8 cap_70), (.slice a_82 8 cap_83)]) h_90 rfl rfl el98 (viewB (h_90.ok _ (.head _)) Sg.h) rfl (by simp [Value.oneCell']) rfl rfl (by omega) (by omega) (fun _ _ => (At.t (At.t (At.t (At.t (At.t (At.t (At.t (At.t (At.t (At.t (At.t (At.t At.h))))))))))))) rfl (fun a_91 c_92 w_93 h_94 => ?_)
  refine WL.q (Wn.no rfl) rfl rfl (R.assign (v := (.slice a_91 7 c_92)) rfl) ?_
  refine WL.nil ?_
  refine inb_n ?_
  refine thn_n ?_
  refine WP.reg ?_
  refine WL.q (Wn.no rfl) rfl rfl (R.bin (v := (vi 6)) rfl rfl (bi_add (c := 6) (by omega) (by omega))) ?_
  refine WL.q (Wn.no rfl) rfl rfl (R.move (v := (vi 6)) rfl) ?_
  refine WL.nil ?_
  refine thn_n ?_
  refine WI.round ?_
  refine WP.seq ?_
  refine WP.reg ?_
  refine WL.q (Wn.no rfl) rfl rfl (R.bin (v := (.bool true)) rfl rfl (bi_lss (r := true) (by decide))) ?_
  refine WL.nil ?_
  refine thn_n ?_
  refine WP.seq ?_
  refine WP.condT rfl ?_
  refine WP.skip ?_
  refine thn_n ?_
  refine WP.seq ?_
  refine WP.block ?_
  refine WP.seq ?_
  refine WP.reg ?_
  refine WL.q (Wn.no rfl) rfl rfl (R.move (v := (vi 6)) rfl) ?_
  refine WL.q (Wn.no rfl) rfl rfl (R.assign (v := (vi 6)) rfl) ?_
  refine WL.nil ?_
  refine thn_n ?_
  refine WP.reg ?_
  refine WL.q (Wn.no rfl) rfl rfl (R.move (v := (.slice a_91 7 c_92)) rfl) ?_
  refine WL.q (Wn.no rfl) rfl rfl (R.move (v := (vi 6)) rfl) ?_
  refine WL.q (Wn.no rfl) rfl rfl (R.fieldAddr (b := b_1) (off := 0) (off' := 1) rfl Try.underlying45 rfl Try.sizeOf23 rfl rfl) ?_
  refine WL.q (Wn.no rfl) rfl rfl (R.indexA (b := b_1) (off := 1) (off' := 7) (i := 6) rfl rfl rfl (by decide) Try.underlying23 Try.sizeOf22 rfl) ?_
  refine WL.q (Wn.no rfl) rfl rfl (R.loadE (b := b_1) (off := 7) (i := 6) (v := (vu64 (rg.getD 6 0))) rfl Try.isAgg22 (h_94.ok _ (.tail _ (.tail _ (.tail _ (.tail _ (.tail _ (.tail _ (.tail _ (.tail _ (.tail _ (.tail _ (.tail _ (.tail _ (.tail _ (.tail _ (.tail _ (.head _))))))))))))))))) (Sg.t rfl Sg.h) rfl (get_u64 (lt_len (K := 8) hrg (by decide)))) ?_
  refine WL.call (al := [(vu64 (rg.getD 6 0))]) Try.call55 rfl rfl (c_pword (rg.getD 6 0) _) rfl ?_
  rintro _ w_97 ⟨a_95, cap_96, rfl, hc_98, ho_99⟩
  have h_100 := h_94.gotRow hc_98 ho_99
  refine WL.buildSl (vs := [(0, (.slice a_95 8 cap_96))]) (cs := [(.slice a_95 8 cap_96)]) h_100 Try.underlying98 Try.sizeOf90 (zv Try.typeInfo90 rfl) rfl rfl (by kernel_rfl) rfl (by simp [Value.oneCell']) rfl rfl (fun b_101 w_102 h_103 => ?_)
  refine WL.append (km := 8) (xs := [(.slice a_7 8 cap_8), (.slice a_16 8 cap_17), (.slice a_30 8 cap_31), (.slice a_43 8 cap_44), (.slice a_56 8 cap_57), (.slice a_69 8 cap_70), (.slice a_82 8 cap_83)]) (ys := [(.slice a_95 8 cap_96)]) (zs := [(.slice a_7 8 cap_8), (.slice a_16 8 cap_17), (.slice a_30 8 cap_31), (.slice a_43 8 cap_44), (.slice a_56 8 cap_57), (.slice a_69 8 cap_70), (.slice a_82 8 cap_83), (.slice a_95 8 cap_96)]) h_103 rfl rfl el98 (viewB (h_103.ok _ (.head _)) Sg.h) rfl (by simp [Value.oneCell']) rfl rfl (by omega) (by omega) (fun _ _ => (At.t (At.t (At.t (At.t (At.t (At.t (At.t (At.t (At.t (At.t (At.t (At.t (At.t (At.t At.h))))))))))))))) rfl (fun a_104 c_105 w_106 h_107 => ?_)
  refine WL.q (Wn.no rfl) rfl rfl (R.assign (v := (.slice a_104 8 c_105)) rfl) ?_
  refine WL.nil ?_
  refine inb_n ?_
  refine thn_n ?_
  refine WP.reg ?_
  refine WL.q (Wn.no rfl) rfl rfl (R.bin (v := (vi 7)) rfl rfl (bi_add (c := 7) (by omega) (by omega))) ?_
  refine WL.q (Wn.no rfl) rfl rfl (R.move (v := (vi 7)) rfl) ?_
  refine WL.nil ?_
  refine thn_n ?_
  refine WI.round ?_
  refine WP.seq ?_
  refine WP.reg ?_
  refine WL.q (Wn.no rfl) rfl rfl (R.bin (v := (.bool true)) rfl rfl (bi_lss (r := true) (by decide))) ?_
  refine WL.nil ?_
  refine thn_n ?_
  refine WP.seq ?_
  refine WP.condT rfl ?_
  refine WP.skip ?_
  refine thn_n ?_
  refine WP.seq ?_
  refine WP.block ?_
  refine WP.seq ?_
  refine WP.reg ?_
  refine WL.q (Wn.no rfl) rfl rfl (R.move (v := (vi 7)) rfl) ?_
  refine WL.q (Wn.no rfl) rfl rfl (R.assign (v := (vi 7)) rfl) ?_
  refine WL.nil ?_
  refine thn_n ?_
  refine WP.reg ?_
  refine WL.q (Wn.no rfl) rfl rfl (R.move (v := (.slice a_104 8 c_105)) rfl) ?_
  refine WL.q (Wn.no rfl) rfl rfl (R.move (v := (vi 7)) rfl) ?_
  refine WL.q (Wn.no rfl) rfl rfl (R.fieldAddr (b := b_1) (off := 0) (off' := 1) rfl Try.underlying45 rfl Try.sizeOf23 rfl rfl) ?_
  refine WL.q (Wn.no rfl) rfl rfl (R.indexA (b := b_1) (off := 1) (off' := 8) (i := 7) rfl rfl rfl (by decide) Try.underlying23 Try.sizeOf22 rfl) ?_
  refine WL.q (Wn.no rfl) rfl rfl (R.loadE (b := b_1) (off := 8) (i := 7) (v := (vu64 (rg.getD 7 0))) rfl Try.isAgg22 (h_107.ok _ (.tail _ (.tail _ (.tail _ (.tail _ (.tail _ (.tail _ (.tail _ (.tail _ (.tail _ (.tail _ (.tail _ (.tail _ (.tail _ (.tail _ (.tail _ (.tail _ (.tail _ (.head _))))))))))))))))))) (Sg.t rfl Sg.h) rfl (get_u64 (lt_len (K := 8) hrg (by decide)))) ?_
  refine WL.call (al := [(vu64 (rg.getD 7 0))]) Try.call55 rfl rfl (c_pword (rg.getD 7 0) _) rfl ?_
  rintro _ w_110 ⟨a_108, cap_109, rfl, hc_111, ho_112⟩
  have h_113 := h_107.gotRow hc_111 ho_112
  refine WL.buildSl (vs := [(0, (.slice a_108 8 cap_109))]) (cs := [(.slice a_108 8 cap_109)]) h_113 Try.underlying98 Try.sizeOf90 (zv Try.typeInfo90 rfl) rfl rfl (by kernel_rfl) rfl (by simp [Value.oneCell']) rfl rfl (fun b_114 w_115 h_116 => ?_)
  refine WL.append (km := 9) (xs := [(.slice a_7 8 cap_8), (.slice a_16 8 cap_17), (.slice a_30 8 cap_31), (.slice a_43 8 cap_44), (.slice a_56 8 cap_57), (.slice a_69 8 cap_70), (.slice a_82 8 cap_83), (.slice a_95 8 cap_96)]) (ys := [(.slice a_108 8 cap_109)]) (zs := [(.slice a_7 8 cap_8), (.slice a_16 8 cap_17), (.slice a_30 8 cap_31), (.slice a_43 8 cap_44), (.slice a_56 8 cap_57), (.slice a_69 8 cap_70), (.slice a_82 8 cap_83), (.slice a_95 8 cap_96), (.slice a_108 8 cap_109)]) h_116 rfl rfl el98 (viewB (h_116.ok _ (.head _)) Sg.h) rfl (by simp [Value.oneCell']) rfl rfl (by omega) (by omega) (fun _ _ => (At.t (At.t (At.t (At.t (At.t (At.t (At.t (At.t (At.t (At.t (At.t (At.t (At.t (At.t (At.t (At.t At.h))))))))))))))))) rfl (fun a_117 c_118 w_119 h_120 => ?_)
  refine WL.q (Wn.no rfl) rfl rfl (R.assign (v := (.slice a_117 9 c_118)) rfl) ?_
  refine WL.nil ?_
  refine inb_n ?_
  refine thn_n ?_
  refine WP.reg ?_
  refine WL.q (Wn.no rfl) rfl rfl (R.bin (v := (vi 8)) rfl rfl (bi_add (c := 8) (by omega) (by omega))) ?_
  refine WL.q (Wn.no rfl) rfl rfl (R.move (v := (vi 8)) rfl) ?_
  refine WL.nil ?_
  refine thn_n ?_
  refine WI.round ?_
  refine WP.seq ?_
  refine WP.reg ?_
  refine WL.q (Wn.no rfl) rfl rfl (R.bin (v := (.bool false)) rfl rfl (bi_lss (r := false) (by decide))) ?_
  refine WL.nil ?_
  refine thn_n ?_
  refine WP.seq ?_
  refine WP.condF rfl ?_
  refine WP.exit ?_
  refine thn_x ?_
  refine thn_x ?_
  refine inb_hit ?_
  refine thn_n ?_
  refine WP.seq ?_
  refine WP.seq ?_
  refine WP.reg ?_
  refine WL.q (Wn.no rfl) rfl rfl (R.fieldAddr (b := b_1) (off := 0) (off' := 9) rfl Try.underlying45 rfl Try.sizeOf4 rfl rfl) ?_
  refine WL.q (Wn.no rfl) rfl rfl (R.load1 (b := b_1) (off := 9) (v := (.bool run)) rfl Try.isAgg4 (h_120.ok _ (.tail _ (.tail _ (.tail _ (.tail _ (.tail _ (.tail _ (.tail _ (.tail _ (.tail _ (.tail _ (.tail _ (.tail _ (.tail _ (.tail _ (.tail _ (.tail _ (.tail _ (.tail _ (.tail _ (.head _))))))))))))))))))))) (Sg.t rfl (Sg.t rfl Sg.h))) ?_
  refine WL.nil ?_
  refine thn_n ?_
  refine WP.cond (b := run) rfl (fun c_121 => ?_) (fun c_121 => ?_)
  · refine WP.reg ?_
    refine WL.q (Wn.no rfl) rfl rfl (R.move (v := (.slice a_117 9 c_118)) rfl) ?_
    refine WL.buildSl (vs := [(0, (vu8 1))]) (cs := ([1] : List UInt8).map vu8) h_120 Try.underlying90 Try.sizeOf5 (zv Try.typeInfo5 rfl) rfl rfl (by kernel_rfl) rfl (one_u8 _) rfl rfl (fun b_122 w_123 h_124 => ?_)
    refine WL.buildSl (vs := [(0, (.slice (some ⟨b_122, 0, none⟩) 1 1))]) (cs := [(.slice (some ⟨b_122, 0, none⟩) 1 1)]) h_124 Try.underlying98 Try.sizeOf90 (zv Try.typeInfo90 rfl) rfl rfl (by kernel_rfl) rfl (by simp [Value.oneCell']) rfl rfl (fun b_125 w_126 h_127 => ?_)
    refine WL.append (km := 10) (xs := [(.slice a_7 8 cap_8), (.slice a_16 8 cap_17), (.slice a_30 8 cap_31), (.slice a_43 8 cap_44), (.slice a_56 8 cap_57), (.slice a_69 8 cap_70), (.slice a_82 8 cap_83), (.slice a_95 8 cap_96), (.slice a_108 8 cap_109)]) (ys := [(.slice (some ⟨b_122, 0, none⟩) 1 1)]) (zs := [(.slice a_7 8 cap_8), (.slice a_16 8 cap_17), (.slice a_30 8 cap_31), (.slice a_43 8 cap_44), (.slice a_56 8 cap_57), (.slice a_69 8 cap_70), (.slice a_82 8 cap_83), (.slice a_95 8 cap_96), (.slice a_108 8 cap_109), (.slice (some ⟨b_122, 0, none⟩) 1 1)]) h_127 rfl rfl el98 (viewB (h_127.ok _ (.head _)) Sg.h) rfl (by simp [Value.oneCell']) rfl rfl (by omega) (by omega) (fun _ _ => (At.t (At.t (At.t (At.t (At.t (At.t (At.t (At.t (At.t (At.t (At.t (At.t (At.t (At.t (At.t (At.t (At.t (At.t At.h))))))))))))))))))) rfl (fun a_128 c_129 w_130 h_131 => ?_)
    refine WL.q (Wn.no rfl) rfl rfl (R.assign (v := (.slice a_128 10 c_129)) rfl) ?_
    refine WL.nil ?_
    refine thn_n ?_
    refine WP.seq ?_
    refine WP.reg ?_
    refine WL.q (Wn.no rfl) rfl rfl (R.move (v := (.slice a_128 10 c_129)) rfl) ?_
    refine WL.call (al := [(.string (bstr ([114, 101, 99] : List UInt8))), (.slice a_128 10 c_129)]) Try.call54 rfl rfl (c_gran 3 ([114, 101, 99] : List UInt8) rfl (by decide) a_128 10 c_129 [(.slice a_7 8 cap_8), (.slice a_16 8 cap_17), (.slice a_30 8 cap_31), (.slice a_43 8 cap_44), (.slice a_56 8 cap_57), (.slice a_69 8 cap_70), (.slice a_82 8 cap_83), (.slice a_95 8 cap_96), (.slice a_108 8 cap_109), (.slice (some ⟨b_122, 0, none⟩) 1 1)] [leN 8 pc.toNat, leN 8 (rg.getD 0 0).toNat, leN 8 (rg.getD 1 0).toNat, leN 8 (rg.getD 2 0).toNat, leN 8 (rg.getD 3 0).toNat, leN 8 (rg.getD 4 0).toNat, leN 8 (rg.getD 5 0).toNat, leN 8 (rg.getD 6 0).toNat, leN 8 (rg.getD 7 0).toNat, ([1] : List UInt8)] rfl (by simp [leN_len]) (by omega) _ (ownView (h_131.ok _ (.tail _ (.tail _ (.tail _ (.tail _ (.tail _ (.tail _ (.tail _ (.tail _ (.tail _ (.tail _ (.tail _ (.tail _ (.tail _ (.tail _ (.tail _ (.tail _ (.tail _ (.tail _ (.head _))))))))))))))))))))) (Sls.cons (leN_len ..) (h_131.own (.tail _ (.tail _ (.tail _ (.tail _ (.tail _ (.tail _ (.tail _ (.tail _ (.tail _ (.tail _ (.tail _ (.tail _ (.tail _ (.tail _ (.tail _ (.tail _ (.tail _ (.tail _ (.tail _ (.head _))))))))))))))))))))).2.2.1 (ownView (h_131.ok _ (.tail _ (.tail _ (.tail _ (.tail _ (.tail _ (.tail _ (.tail _ (.tail _ (.tail _ (.tail _ (.tail _ (.tail _ (.tail _ (.tail _ (.tail _ (.tail _ (.tail _ (.tail _ (.tail _ (.head _)))))))))))))))))))))) (Sls.cons (leN_len ..) (h_131.own (.tail _ (.tail _ (.tail _ (.tail _ (.tail _ (.tail _ (.tail _ (.tail _ (.tail _ (.tail _ (.tail _ (.tail _ (.tail _ (.tail _ (.tail _ (.tail _ (.tail _ (.head _))))))))))))))))))).2.2.1 (ownView (h_131.ok _ (.tail _ (.tail _ (.tail _ (.tail _ (.tail _ (.tail _ (.tail _ (.tail _ (.tail _ (.tail _ (.tail _ (.tail _ (.tail _ (.tail _ (.tail _ (.tail _ (.tail _ (.head _)))))))))))))))))))) (Sls.cons (leN_len ..) (h_131.own (.tail _ (.tail _ (.tail _ (.tail _ (.tail _ (.tail _ (.tail _ (.tail _ (.tail _ (.tail _ (.tail _ (.tail _ (.tail _ (.tail _ (.tail _ (.head _))))))))))))))))).2.2.1 (ownView (h_131.ok _ (.tail _ (.tail _ (.tail _ (.tail _ (.tail _ (.tail _ (.tail _ (.tail _ (.tail _ (.tail _ (.tail _ (.tail _ (.tail _ (.tail _ (.tail _ (.head _)))))))))))))))))) (Sls.cons (leN_len ..) (h_131.own (.tail _ (.tail _ (.tail _ (.tail _ (.tail _ (.tail _ (.tail _ (.tail _ (.tail _ (.tail _ (.tail _ (.tail _ (.tail _ (.head _))))))))))))))).2.2.1 (ownView (h_131.ok _ (.tail _ (.tail _ (.tail _ (.tail _ (.tail _ (.tail _ (.tail _ (.tail _ (.tail _ (.tail _ (.tail _ (.tail _ (.tail _ (.head _)))))))))))))))) (Sls.cons (leN_len ..) (h_131.own (.tail _ (.tail _ (.tail _ (.tail _ (.tail _ (.tail _ (.tail _ (.tail _ (.tail _ (.tail _ (.tail _ (.head _))))))))))))).2.2.1 (ownView (h_131.ok _ (.tail _ (.tail _ (.tail _ (.tail _ (.tail _ (.tail _ (.tail _ (.tail _ (.tail _ (.tail _ (.tail _ (.head _)))))))))))))) (Sls.cons (leN_len ..) (h_131.own (.tail _ (.tail _ (.tail _ (.tail _ (.tail _ (.tail _ (.tail _ (.tail _ (.tail _ (.head _))))))))))).2.2.1 (ownView (h_131.ok _ (.tail _ (.tail _ (.tail _ (.tail _ (.tail _ (.tail _ (.tail _ (.tail _ (.tail _ (.head _)))))))))))) (Sls.cons (leN_len ..) (h_131.own (.tail _ (.tail _ (.tail _ (.tail _ (.tail _ (.tail _ (.tail _ (.head _))))))))).2.2.1 (ownView (h_131.ok _ (.tail _ (.tail _ (.tail _ (.tail _ (.tail _ (.tail _ (.tail _ (.head _)))))))))) (Sls.cons (leN_len ..) (h_131.own (.tail _ (.tail _ (.tail _ (.tail _ (.tail _ (.head _))))))).2.2.1 (ownView (h_131.ok _ (.tail _ (.tail _ (.tail _ (.tail _ (.tail _ (.head _)))))))) (Sls.cons (leN_len ..) (h_131.own (.tail _ (.tail _ (.tail _ (.head _))))).2.2.1 (ownView (h_131.ok _ (.tail _ (.tail _ (.tail _ (.head _)))))) (Sls.cons (rfl : List.length ([1] : List UInt8) = 1) (by decide) (viewB (h_131.ok _ (.tail _ (.head _))) Sg.h) Sls.nil))))))))))) rfl ?_
    rintro _ w_133 ⟨rfl, hc_132⟩
    have h_134 := h_131.same hc_132
    refine WL.storeA (b := b_4) (off := 0) [] [(128, (List.replicate 128 (0 : UInt8)).map vu8)] [(128, (ovr (ovr (List.replicate 128 (0 : UInt8)) 0 ([114, 101, 99] : List UInt8)) 8 ([leN 8 pc.toNat, leN 8 (rg.getD 0 0).toNat, leN 8 (rg.getD 1 0).toNat, leN 8 (rg.getD 2 0).toNat, leN 8 (rg.getD 3 0).toNat, leN 8 (rg.getD 4 0).toNat, leN 8 (rg.getD 5 0).toNat, leN 8 (rg.getD 6 0).toNat, leN 8 (rg.getD 7 0).toNat, ([1] : List UInt8)]).flatten).map vu8)] [] (ys := (ovr (ovr (List.replicate 128 (0 : UInt8)) 0 ([114, 101, 99] : List UInt8)) 8 ([leN 8 pc.toNat, leN 8 (rg.getD 0 0).toNat, leN 8 (rg.getD 1 0).toNat, leN 8 (rg.getD 2 0).toNat, leN 8 (rg.getD 3 0).toNat, leN 8 (rg.getD 4 0).toNat, leN 8 (rg.getD 5 0).toNat, leN 8 (rg.getD 6 0).toNat, leN 8 (rg.getD 7 0).toNat, ([1] : List UInt8)]).flatten).map vu8) h_134 rfl rfl Try.sizeOf53 (At.t (At.t (At.t (At.t (At.t (At.t (At.t (At.t (At.t (At.t (At.t (At.t (At.t (At.t (At.t (At.t (At.t (At.t (At.t (At.t At.h)))))))))))))))))))) (by decide) rfl rfl rfl rfl rfl rfl (SsOk.cons (SOk.u8 (ovr_len (ovr_len (List.length_replicate ..) (by decide)) (by have hz : ([leN 8 pc.toNat, leN 8 (rg.getD 0 0).toNat, leN 8 (rg.getD 1 0).toNat, leN 8 (rg.getD 2 0).toNat, leN 8 (rg.getD 3 0).toNat, leN 8 (rg.getD 4 0).toNat, leN 8 (rg.getD 5 0).toNat, leN 8 (rg.getD 6 0).toNat, leN 8 (rg.getD 7 0).toNat, ([1] : List UInt8)]).flatten.length ≤ 119 := (by simp [leN_len]); omega))) SsOk.nil) (fun w_135 h_136 => ?_)
    refine WL.nil ?_
    refine thn_n ?_
    refine WP.ret ?_
    refine ret_of Try.results47 (RV.cell rfl (h_136.loadA (cs := (ovr (ovr (List.replicate 128 (0 : UInt8)) 0 ([114, 101, 99] : List UInt8)) 8 ([leN 8 pc.toNat, leN 8 (rg.getD 0 0).toNat, leN 8 (rg.getD 1 0).toNat, leN 8 (rg.getD 2 0).toNat, leN 8 (rg.getD 3 0).toNat, leN 8 (rg.getD 4 0).toNat, leN 8 (rg.getD 5 0).toNat, leN 8 (rg.getD 6 0).toNat, leN 8 (rg.getD 7 0).toNat, ([1] : List UInt8)]).flatten).map vu8) Try.isAgg53 Try.sizeOf53 (.tail _ (.tail _ (.tail _ (.tail _ (.tail _ (.tail _ (.tail _ (.tail _ (.tail _ (.tail _ (.tail _ (.tail _ (.tail _ (.tail _ (.tail _ (.tail _ (.tail _ (.tail _ (.tail _ (.tail _ (.head _))))))))))))))))))))) rfl rfl) RV.nil) ?_
    exact ⟨by rw [← rec_eq, recP, recL, c_121]; rfl, h_136.chgS⟩
  · refine WP.skip ?_
    refine thn_n ?_
    refine WP.seq ?_
    refine WP.reg ?_
    refine WL.q (Wn.no rfl) rfl rfl (R.move (v := (.slice a_117 9 c_118)) rfl) ?_
    refine WL.call (al := [(.string (bstr ([114, 101, 99] : List UInt8))), (.slice a_117 9 c_118)]) Try.call54 rfl rfl (c_gran 3 ([114, 101, 99] : List UInt8) rfl (by decide) a_117 9 c_118 [(.slice a_7 8 cap_8), (.slice a_16 8 cap_17), (.slice a_30 8 cap_31), (.slice a_43 8 cap_44), (.slice a_56 8 cap_57), (.slice a_69 8 cap_70), (.slice a_82 8 cap_83), (.slice a_95 8 cap_96), (.slice a_108 8 cap_109)] [leN 8 pc.toNat, leN 8 (rg.getD 0 0).toNat, leN 8 (rg.getD 1 0).toNat, leN 8 (rg.getD 2 0).toNat, leN 8 (rg.getD 3 0).toNat, leN 8 (rg.getD 4 0).toNat, leN 8 (rg.getD 5 0).toNat, leN 8 (rg.getD 6 0).toNat, leN 8 (rg.getD 7 0).toNat] rfl (by simp [leN_len]) (by omega) _ (ownView (h_120.ok _ (.tail _ (.tail _ (.tail _ (.tail _ (.tail _ (.tail _ (.tail _ (.tail _ (.tail _ (.tail _ (.tail _ (.tail _ (.tail _ (.tail _ (.tail _ (.tail _ (.head _))))))))))))))))))) (Sls.cons (leN_len ..) (h_120.own (.tail _ (.tail _ (.tail _ (.tail _ (.tail _ (.tail _ (.tail _ (.tail _ (.tail _ (.tail _ (.tail _ (.tail _ (.tail _ (.tail _ (.tail _ (.tail _ (.tail _ (.head _))))))))))))))))))).2.2.1 (ownView (h_120.ok _ (.tail _ (.tail _ (.tail _ (.tail _ (.tail _ (.tail _ (.tail _ (.tail _ (.tail _ (.tail _ (.tail _ (.tail _ (.tail _ (.tail _ (.tail _ (.tail _ (.tail _ (.head _)))))))))))))))))))) (Sls.cons (leN_len ..) (h_120.own (.tail _ (.tail _ (.tail _ (.tail _ (.tail _ (.tail _ (.tail _ (.tail _ (.tail _ (.tail _ (.tail _ (.tail _ (.tail _ (.tail _ (.tail _ (.head _))))))))))))))))).2.2.1 (ownView (h_120.ok _ (.tail _ (.tail _ (.tail _ (.tail _ (.tail _ (.tail _ (.tail _ (.tail _ (.tail _ (.tail _ (.tail _ (.tail _ (.tail _ (.tail _ (.tail _ (.head _)))))))))))))))))) (Sls.cons (leN_len ..) (h_120.own (.tail _ (.tail _ (.tail _ (.tail _ (.tail _ (.tail _ (.tail _ (.tail _ (.tail _ (.tail _ (.tail _ (.tail _ (.tail _ (.head _))))))))))))))).2.2.1 (ownView (h_120.ok _ (.tail _ (.tail _ (.tail _ (.tail _ (.tail _ (.tail _ (.tail _ (.tail _ (.tail _ (.tail _ (.tail _ (.tail _ (.tail _ (.head _)))))))))))))))) (Sls.cons (leN_len ..) (h_120.own (.tail _ (.tail _ (.tail _ (.tail _ (.tail _ (.tail _ (.tail _ (.tail _ (.tail _ (.tail _ (.tail _ (.head _))))))))))))).2.2.1 (ownView (h_120.ok _ (.tail _ (.tail _ (.tail _ (.tail _ (.tail _ (.tail _ (.tail _ (.tail _ (.tail _ (.tail _ (.tail _ (.head _)))))))))))))) (Sls.cons (leN_len ..) (h_120.own (.tail _ (.tail _ (.tail _ (.tail _ (.tail _ (.tail _ (.tail _ (.tail _ (.tail _ (.head _))))))))))).2.2.1 (ownView (h_120.ok _ (.tail _ (.tail _ (.tail _ (.tail _ (.tail _ (.tail _ (.tail _ (.tail _ (.tail _ (.head _)))))))))))) (Sls.cons (leN_len ..) (h_120.own (.tail _ (.tail _ (.tail _ (.tail _ (.tail _ (.tail _ (.tail _ (.head _))))))))).2.2.1 (ownView (h_120.ok _ (.tail _ (.tail _ (.tail _ (.tail _ (.tail _ (.tail _ (.tail _ (.head _)))))))))) (Sls.cons (leN_len ..) (h_120.own (.tail _ (.tail _ (.tail _ (.tail _ (.tail _ (.head _))))))).2.2.1 (ownView (h_120.ok _ (.tail _ (.tail _ (.tail _ (.tail _ (.tail _ (.head _)))))))) (Sls.cons (leN_len ..) (h_120.own (.tail _ (.tail _ (.tail _ (.head _))))).2.2.1 (ownView (h_120.ok _ (.tail _ (.tail _ (.tail _ (.head _)))))) (Sls.cons (leN_len ..) (h_120.own (.tail _ (.head _))).2.2.1 (ownView (h_120.ok _ (.tail _ (.head _)))) Sls.nil)))))))))) rfl ?_
    rintro _ w_138 ⟨rfl, hc_137⟩
    have h_139 := h_120.same hc_137
    refine WL.storeA (b := b_4) (off := 0) [] [(128, (List.replicate 128 (0 : UInt8)).map vu8)] [(128, (ovr (ovr (List.replicate 128 (0 : UInt8)) 0 ([114, 101, 99] : List UInt8)) 8 ([leN 8 pc.toNat, leN 8 (rg.getD 0 0).toNat, leN 8 (rg.getD 1 0).toNat, leN 8 (rg.getD 2 0).toNat, leN 8 (rg.getD 3 0).toNat, leN 8 (rg.getD 4 0).toNat, leN 8 (rg.getD 5 0).toNat, leN 8 (rg.getD 6 0).toNat, leN 8 (rg.getD 7 0).toNat]).flatten).map vu8)] [] (ys := (ovr (ovr (List.replicate 128 (0 : UInt8)) 0 ([114, 101, 99] : List UInt8)) 8 ([leN 8 pc.toNat, leN 8 (rg.getD 0 0).toNat, leN 8 (rg.getD 1 0).toNat, leN 8 (rg.getD 2 0).toNat, leN 8 (rg.getD 3 0).toNat, leN 8 (rg.getD 4 0).toNat, leN 8 (rg.getD 5 0).toNat, leN 8 (rg.getD 6 0).toNat, leN 8 (rg.getD 7 0).toNat]).flatten).map vu8) h_139 rfl rfl Try.sizeOf53 (At.t (At.t (At.t (At.t (At.t (At.t (At.t (At.t (At.t (At.t (At.t (At.t (At.t (At.t (At.t (At.t (At.t (At.t At.h)))))))))))))))))) (by decide) rfl rfl rfl rfl rfl rfl (SsOk.cons (SOk.u8 (ovr_len (ovr_len (List.length_replicate ..) (by decide)) (by have hz : ([leN 8 pc.toNat, leN 8 (rg.getD 0 0).toNat, leN 8 (rg.getD 1 0).toNat, leN 8 (rg.getD 2 0).toNat, leN 8 (rg.getD 3 0).toNat, leN 8 (rg.getD 4 0).toNat, leN 8 (rg.getD 5 0).toNat, leN 8 (rg.getD 6 0).toNat, leN 8 (rg.getD 7 0).toNat]).flatten.length ≤ 119 := (by simp [leN_len]); omega))) SsOk.nil) (fun w_140 h_141 => ?_)
    refine WL.nil ?_
    refine thn_n ?_
    refine WP.ret ?_
    refine ret_of Try.results47 (RV.cell rfl (h_141.loadA (cs := (ovr (ovr (List.replicate 128 (0 : UInt8)) 0 ([114, 101, 99] : List UInt8)) 8 ([leN 8 pc.toNat, leN 8 (rg.getD 0 0).toNat, leN 8 (rg.getD 1 0).toNat, leN 8 (rg.getD 2 0).toNat, leN 8 (rg.getD 3 0).toNat, leN 8 (rg.getD 4 0).toNat, leN 8 (rg.getD 5 0).toNat, leN 8 (rg.getD 6 0).toNat, leN 8 (rg.getD 7 0).toNat]).flatten).map vu8) Try.isAgg53 Try.sizeOf53 (.tail _ (.tail _ (.tail _ (.tail _ (.tail _ (.tail _ (.tail _ (.tail _ (.tail _ (.tail _ (.tail _ (.tail _ (.tail _ (.tail _ (.tail _ (.tail _ (.tail _ (.tail _ (.head _))))))))))))))))))) rfl rfl) RV.nil) ?_
    exact ⟨by rw [← rec_eq, recP, recL, c_121]; rfl, h_141.chgS⟩

theorem c_RecBytesR (pc : UInt64) (rg : List UInt64) (hrg : rg.length = 8) (run : Bool) (w : World) :
    Cs Try.prog 27 [(.agg ⟨flat [(1, [(vu64 pc)]), (8, rg.map vu64), (1, [(.bool run)])]⟩)].toArray w (fun v w1 => v = .agg ⟨(recB pc rg run).map vu8⟩ ∧ Chg w w1 []) := by
  refine Cs.of (n := 30) (args := [(.agg ⟨flat [(1, [(vu64 pc)]), (8, rg.map vu64), (1, [(.bool run)])]⟩)]) Try.func27 rfl rfl rfl ?_
  have h_0 := HP.init w
  refine WP.seq ?_
  refine WP.reg ?_
  refine WL.box (v := (.agg ⟨flat [(1, [(vu64 pc)]), (8, rg.map vu64), (1, [(.bool run)])]⟩)) (segs := [(1, [(vu64 pc)]), (8, rg.map vu64), (1, [(.bool run)])]) h_0 rfl rfl (SsOk.cons (SOk.v rfl) (SsOk.cons (SOk.u64 hrg) (SsOk.cons (SOk.v rfl) SsOk.nil))) rfl (fun b_1 w_2 h_3 => ?_)
  refine WL.alloc (segs := [(128, (List.replicate 128 (0 : UInt8)).map vu8)]) h_3 (zv Try.typeInfo53 rfl) rfl (SsOk.cons (SOk.u8 (List.length_replicate ..)) SsOk.nil) rfl (fun b_4 w_5 h_6 => ?_)
  refine WL.nil ?_
  refine thn_n ?_
  refine WP.seq ?_
  refine WP.reg ?_
  refine WL.q (Wn.no rfl) rfl rfl (R.assign (v := (.slice none 0 0)) rfl) ?_
  refine WL.nil ?_
  refine thn_n ?_
  refine WP.seq ?_
  refine WP.seq ?_
  refine WP.reg ?_
  refine WL.q (Wn.no rfl) rfl rfl (R.assign (v := (vi 0)) rfl) ?_
  refine WL.nil ?_
  refine thn_n ?_
  refine WP.block ?_
  refine WP.loopU (WI.round ?_)
  refine WP.seq ?_
  refine WP.seq ?_
  refine WP.reg ?_
  refine WL.q (Wn.no rfl) rfl rfl (R.move (v := (vi 0)) rfl) ?_
  refine WL.q (Wn.no rfl) rfl rfl (R.bin (v := (.bool true)) rfl rfl (bi_lss (r := true) (by decide))) ?_
  refine WL.nil ?_
  refine thn_n ?_
  refine WP.condT rfl ?_
  refine WP.skip ?_
  refine thn_n ?_
  refine WP.seq ?_
  refine WP.block ?_
  refine WP.reg ?_
  refine WL.q (Wn.no rfl) rfl rfl (R.move (v := (.slice none 0 0)) rfl) ?_
  refine WL.q (Wn.no rfl) rfl rfl (R.move (v := (vi 0)) rfl) ?_
  refine WL.q (Wn.no rfl) rfl rfl (R.fieldAddr (b := b_1) (off := 0) (off' := 1) rfl Try.underlying45 rfl Try.sizeOf23 rfl rfl) ?_
  refine WL.q (Wn.no rfl) rfl rfl (R.indexA (b := b_1) (off := 1) (off' := 1) (i := 0) rfl rfl rfl (by decide) Try.underlying23 Try.sizeOf22 rfl) ?_
  refine WL.q (Wn.no rfl) rfl rfl (R.loadE (b := b_1) (off := 1) (i := 0) (v := (vu64 (rg.getD 0 0))) rfl Try.isAgg22 (h_6.ok _ (.tail _ (.head _))) (Sg.t rfl Sg.h) rfl (get_u64 (lt_len (K := 8) hrg (by decide)))) ?_
  refine WL.call (al := [(vu64 (rg.getD 0 0))]) Try.call46 rfl rfl (c_rword (rg.getD 0 0) _) rfl ?_
  rintro _ w_9 ⟨a_7, cap_8, rfl, hc_10, ho_11⟩
  have h_12 := h_6.gotRow hc_10 ho_11
  have h_13 := h_12.rowNil 5 1
  refine WL.append (km := 8) (xs := []) (ys := (leN 8 (rg.getD 0 0).toNat).map vu8) (zs := (([] : List UInt8) ++ (leN 8 (rg.getD 0 0).toNat)).map vu8) h_13 rfl rfl el90 (ownView (h_13.ok _ (.tail _ (.head _)))) ((len_map (leN_len ..)).trans (Nat.mul_one _).symm) (one_u8 _) (by simp only [List.map_append, List.map_nil]) rfl (by omega) (by omega) (fun _ _ => At.h) rfl (fun a_14 c_15 w_16 h_17 => ?_)
  refine WL.q (Wn.no rfl) rfl rfl (R.assign (v := (.slice a_14 8 c_15)) rfl) ?_
  refine WL.nil ?_
  refine inb_n ?_
  refine thn_n ?_
  refine WP.reg ?_
  refine WL.q (Wn.no rfl) rfl rfl (R.move (v := (vi 0)) rfl) ?_
  refine WL.q (Wn.no rfl) rfl rfl (R.bin (v := (vi 1)) rfl rfl (bi_add (c := 1) (by omega) (by omega))) ?_
  refine WL.q (Wn.no rfl) rfl rfl (R.assign (v := (vi 1)) rfl) ?_
  refine WL.nil ?_
  refine thn_n ?_
  refine WI.round ?_
  refine WP.seq ?_
  refine WP.seq ?_
  refine WP.reg ?_
  refine WL.q (Wn.no rfl) rfl rfl (R.move (v := (vi 1)) rfl) ?_
  refine WL.q (Wn.no rfl) rfl rfl (R.bin (v := (.bool true)) rfl rfl (bi_lss (r := true) (by decide))) ?_
  refine WL.nil ?_
  refine thn_n ?_
  refine WP.condT rfl ?_
  refine WP.skip ?_
  refine thn_n ?_
  refine WP.seq ?_
  refine WP.block ?_
  refine WP.reg ?_
  refine WL.q (Wn.no rfl) rfl rfl (R.move (v := (.slice a_14 8 c_15)) rfl) ?_
  refine WL.q (Wn.no rfl) rfl rfl (R.move (v := (vi 1)) rfl) ?_
  refine WL.q (Wn.no rfl) rfl rfl (R.fieldAddr (b := b_1) (off := 0) (off' := 1) rfl Try.underlying45 rfl Try.sizeOf23 rfl rfl) ?_
  refine WL.q (Wn.no rfl) rfl rfl (R.indexA (b := b_1) (off := 1) (off' := 2) (i := 1) rfl rfl rfl (by decide) Try.underlying23 Try.sizeOf22 rfl) ?_
  refine WL.q (Wn.no rfl) rfl rfl (R.loadE (b := b_1) (off := 2) (i := 1) (v := (vu64 (rg.getD 1 0))) rfl Try.isAgg22 (h_17.ok _ (.tail _ (.tail _ (.tail _ (.head _))))) (Sg.t rfl Sg.h) rfl (get_u64 (lt_len (K := 8) hrg (by decide)))) ?_
  refine WL.call (al := [(vu64 (rg.getD 1 0))]) Try.call46 rfl rfl (c_rword (rg.getD 1 0) _) rfl ?_
  rintro _ w_20 ⟨a_18, cap_19, rfl, hc_21, ho_22⟩
  have h_23 := h_17.gotRow hc_21 ho_22
  refine WL.append (km := 16) (xs := (([] : List UInt8) ++ (leN 8 (rg.getD 0 0).toNat)).map vu8) (ys := (leN 8 (rg.getD 1 0).toNat).map vu8) (zs := ((([] : List UInt8) ++ (leN 8 (rg.getD 0 0).toNat)) ++ (leN 8 (rg.getD 1 0).toNat)).map vu8) h_23 rfl rfl el90 (ownView (h_23.ok _ (.head _))) ((len_map (leN_len ..)).trans (Nat.mul_one _).symm) (one_u8 _) (by simp only [List.map_append, List.map_nil]) rfl (by omega) (by omega) (fun _ _ => (At.t At.h)) rfl (fun a_24 c_25 w_26 h_27 => ?_)
  refine WL.q (Wn.no rfl) rfl rfl (R.assign (v := (.slice a_24 16 c_25)) rfl) ?_
  refine WL.nil ?_
  refine inb_n ?_
  refine thn_n ?_
  refine WP.reg ?_
  refine WL.q (Wn.no rfl) rfl rfl (R.move (v := (vi 1)) rfl) ?_
  refine WL.q (Wn.no rfl) rfl rfl (R.bin (v := (vi 2)) rfl rfl (bi_add (c := 2) (by omega) (by omega))) ?_
  refine WL.q (Wn.no rfl) rfl rfl (R.assign (v := (vi 2)) rfl) ?_
  refine WL.nil ?_
  refine thn_n ?_
  refine WI.round ?_
  refine WP.seq ?_
  refine WP.seq ?_
  refine WP.reg ?_
  refine WL.q (Wn.no rfl) rfl rfl (R.move (v := (vi 2)) rfl) ?_
  refine WL.q (Wn.no rfl) rfl rfl (R.bin (v := (.bool true)) rfl rfl (bi_lss (r := true) (by decide))) ?_
  refine WL.nil ?_
  refine thn_n ?_
  refine WP.condT rfl ?_
  refine WP.skip ?_
  refine thn_n ?_
  refine WP.seq ?_
  refine WP.block ?_
  refine WP.reg ?_
  refine WL.q (Wn.no rfl) rfl rfl (R.move (v := (.slice a_24 16 c_25)) rfl) ?_
  refine WL.q (Wn.no rfl) rfl rfl (R.move (v := (vi 2)) rfl) ?_
  refine WL.q (Wn.no rfl) rfl rfl (R.fieldAddr (b := b_1) (off := 0) (off' := 1) rfl Try.underlying45 rfl Try.sizeOf23 rfl rfl) ?_
  refine WL.q (Wn.no rfl) rfl rfl (R.indexA (b := b_1) (off := 1) (off' := 3) (i := 2) rfl rfl rfl (by decide) Try.underlying23 Try.sizeOf22 rfl) ?_
  refine WL.q (Wn.no rfl) rfl rfl (R.loadE (b := b_1) (off := 3) (i := 2) (v := (vu64 (rg.getD 2 0))) rfl Try.isAgg22 (h_27.ok _ (.tail _ (.tail _ (.tail _ (.tail _ (.head _)))))) (Sg.t rfl Sg.h) rfl (get_u64 (lt_len (K := 8) hrg (by decide)))) ?_
  refine WL.call (al := [(vu64 (rg.getD 2 0))]) Try.call46 rfl rfl (c_rword (rg.getD 2 0) _) rfl ?_
  rintro _ w_30 ⟨a_28, cap_29, rfl, hc_31, ho_32⟩
  have h_33 := h_27.gotRow hc_31 ho_32
  refine WL.append (km := 24) (xs := ((([] : List UInt8) ++ (leN 8 (rg.getD 0 0).toNat)) ++ (leN 8 (rg.getD 1 0).toNat)).map vu8) (ys := (leN 8 (rg.getD 2 0).toNat).map vu8) (zs := (((([] : List UInt8) ++ (leN 8 (rg.getD 0 0).toNat)) ++ (leN 8 (rg.getD 1 0).toNat)) ++ (leN 8 (rg.getD 2 0).toNat)).map vu8) h_33 rfl rfl el90 (ownView (h_33.ok _ (.head _))) ((len_map (leN_len ..)).trans (Nat.mul_one _).symm) (one_u8 _) (by simp only [List.map_append, List.map_nil]) rfl (by omega) (by omega) (fun _ _ => (At.t (At.t At.h))) rfl (fun a_34 c_35 w_36 h_37 => ?_)
  refine WL.q (Wn.no rfl) rfl rfl (R.assign (v := (.slice a_34 24 c_35)) rfl) ?_
  refine WL.nil ?_
  refine inb_n ?_
  refine thn_n ?_
  refine WP.reg ?_
  refine WL.q (Wn.no rfl) rfl rfl (R.move (v := (vi 2)) rfl) ?_
  refine WL.q (Wn.no rfl) rfl rfl (R.bin (v := (vi 3)) rfl rfl (bi_add (c := 3) (by omega) (by omega))) ?_
  refine WL.q (Wn.no rfl) rfl rfl (R.assign (v := (vi 3)) rfl) ?_
  refine WL.nil ?_
  refine thn_n ?_
  refine WI.round ?_
  refine WP.seq ?_
  refine WP.seq ?_
  refine WP.reg ?_
  refine WL.q (Wn.no rfl) rfl rfl (R.move (v := (vi 3)) rfl) ?_
  refine WL.q (Wn.no rfl) rfl rfl (R.bin (v := (.bool true)) rfl rfl (bi_lss (r := true) (by decide))) ?_
  refine WL.nil ?_
  refine thn_n ?_
  refine WP.condT rfl ?_
  refine WP.skip ?_
  refine thn_n ?_
  refine WP.seq ?_
  refine WP.block ?_
  refine WP.reg ?_
  refine WL.q (Wn.no rfl) rfl rfl (R.move (v := (.slice a_34 24 c_35)) rfl) ?_
  refine WL.q (Wn.no rfl) rfl rfl (R.move (v := (vi 3)) rfl) ?_
  refine WL.q (Wn.no rfl) rfl rfl (R.fieldAddr (b := b_1) (off := 0) (off' := 1) rfl Try.underlying45 rfl Try.sizeOf23 rfl rfl) ?_
  refine WL.q (Wn.no rfl) rfl rfl (R.indexA (b := b_1) (off := 1) (off' := 4) (i := 3) rfl rfl rfl (by decide) Try.underlying23 Try.sizeOf22 rfl) ?_
  refine WL.q (Wn.no rfl) rfl rfl (R.loadE (b := b_1) (off := 4) (i := 3) (v := (vu64 (rg.getD 3 0))) rfl Try.isAgg22 (h_37.ok _ (.tail _ (.tail _ (.tail _ (.tail _ (.tail _ (.head _))))))) (Sg.t rfl Sg.h) rfl (get_u64 (lt_len (K := 8) hrg (by decide)))) ?_
  refine WL.call (al := [(vu64 (rg.getD 3 0))]) Try.call46 rfl rfl (c_rword (rg.getD 3 0) _) rfl ?_
  rintro _ w_40 ⟨a_38, cap_39, rfl, hc_41, ho_42⟩
  have h_43 := h_37.gotRow hc_41 ho_42
  refine WL.append (km := 32) (xs := (((([] : List UInt8) ++ (leN 8 (rg.getD 0 0).toNat)) ++ (leN 8 (rg.getD 1 0).toNat)) ++ (leN 8 (rg.getD 2 0).toNat)).map vu8) (ys := (leN 8 (rg.getD 3 0).toNat).map vu8) (zs := ((((([] : List UInt8) ++ (leN 8 (rg.getD 0 0).toNat)) ++ (leN 8 (rg.getD 1 0).toNat)) ++ (leN 8 (rg.getD 2 0).toNat)) ++ (leN 8 (rg.getD 3 0).toNat)).map vu8) h_43 rfl rfl el90 (ownView (h_43.ok _ (.head _))) ((len_map (leN_len ..)).trans (Nat.mul_one _).symm) (one_u8 _) (by simp only [List.map_append, List.map_nil]) rfl (by omega) (by omega) (fun _ _ => (At.t (At.t (At.t At.h)))) rfl (fun a_44 c_45 w_46 h_47 => ?_)
  refine WL.q (Wn.no rfl) rfl rfl (R.assign (v := (.slice a_44 32 c_45)) rfl) ?_
  refine WL.nil ?_
  refine inb_n ?_
  refine thn_n ?_
  refine WP.reg ?_
  refine WL.q (Wn.no rfl) rfl rfl (R.move (v := (vi 3)) rfl) ?_
  refine WL.q (Wn.no rfl) rfl rfl (R.bin (v := (vi 4)) rfl rfl (bi_add (c := 4) (by omega) (by omega))) ?_
  refine WL.q (Wn.no rfl) rfl rfl (R.assign (v := (vi 4)) rfl) ?_
  refine WL.nil ?_
  refine thn_n ?_
  refine WI.round ?_
  refine WP.seq ?_
  refine WP.seq ?_
  refine WP.reg ?_
  refine WL.q (Wn.no rfl) rfl rfl (R.move (v := (vi 4)) rfl) ?_
  refine WL.q (Wn.no rfl) rfl rfl (R.bin (v := (.bool true)) rfl rfl (bi_lss (r := true) (by decide))) ?_
  refine WL.nil ?_
  refine thn_n ?_
  refine WP.condT rfl ?_
  refine WP.skip ?_
  refine thn_n ?_
  refine WP.seq ?_
  refine WP.block ?_
  refine WP.reg ?_
  refine WL.q (Wn.no rfl) rfl rfl (R.move (v := (.slice a_44 32 c_45)) rfl) ?_
  refine WL.q (Wn.no rfl) rfl rfl (R.move (v := (vi 4)) rfl) ?_
  refine WL.q (Wn.no rfl) rfl rfl (R.fieldAddr (b := b_1) (off := 0) (off' := 1) rfl Try.underlying45 rfl Try.sizeOf23 rfl rfl) ?_
  refine WL.q (Wn.no rfl) rfl rfl (R.indexA (b := b_1) (off := 1) (off' := 5) (i := 4) rfl rfl rfl (by decide) Try.underlying23 Try.sizeOf22 rfl) ?_
  refine WL.q (Wn.no rfl) rfl rfl (R.loadE (b := b_1) (off := 5) (i := 4) (v := (vu64 (rg.getD 4 0))) rfl Try.isAgg22 (h_47.ok _ (.tail _ (.tail _ (.tail _ (.tail _ (.tail _ (.tail _ (.head _)))))))) (Sg.t rfl Sg.h) rfl (get_u64 (lt_len (K := 8) hrg (by decide)))) ?_
  refine WL.call (al := [(vu64 (rg.getD 4 0))]) Try.call46 rfl rfl (c_rword (rg.getD 4 0) _) rfl ?_
  rintro _ w_50 ⟨a_48, cap_49, rfl, hc_51, ho_52⟩
  have h_53 := h_47.gotRow hc_51 ho_52
  refine WL.append (km := 40) (xs := ((((([] : List UInt8) ++ (leN 8 (rg.getD 0 0).toNat)) ++ (leN 8 (rg.getD 1 0).toNat)) ++ (leN 8 (rg.getD 2 0).toNat)) ++ (leN 8 (rg.getD 3 0).toNat)).map vu8) (ys := (leN 8 (rg.getD 4 0).toNat).map vu8) (zs := (((((([] : List UInt8) ++ (leN 8 (rg.getD 0 0).toNat)) ++ (leN 8 (rg.getD 1 0).toNat)) ++ (leN 8 (rg.getD 2 0).toNat)) ++ (leN 8 (rg.getD 3 0).toNat)) ++ (leN 8 (rg.getD 4 0).toNat)).map vu8) h_53 rfl rfl el90 (ownView (h_53.ok _ (.head _))) ((len_map (leN_len ..)).trans (Nat.mul_one _).symm) (one_u8 _) (by simp only [List.map_append, List.map_nil]) rfl (by omega) (by omega) (fun _ _ => (At.t (At.t (At.t (At.t At.h))))) rfl (fun a_54 c_55 w_56 h_57 => ?_)
  refine WL.q (Wn.no rfl) rfl rfl (R.assign (v := (.slice a_54 40 c_55)) rfl) ?_
  refine WL.nil ?_
  refine inb_n ?_
  refine thn_n ?_
  refine WP.reg ?_
  refine WL.q (Wn.no rfl) rfl rfl (R.move (v := (vi 4)) rfl) ?_
  refine WL.q (Wn.no rfl) rfl rfl (R.bin (v := (vi 5)) rfl rfl (bi_add (c := 5) (by omega) (by omega))) ?_
  refine WL.q (Wn.no rfl) rfl rfl (R.assign (v := (vi 5)) rfl) ?_
  refine WL.nil ?_
  refine thn_n ?_
  refine WI.round ?_
  refine WP.seq ?_
  refine WP.seq ?_
  refine WP.reg ?_
  refine WL.q (Wn.no rfl) rfl rfl (R.move (v := (vi 5)) rfl) ?_
  refine WL.q (Wn.no rfl) rfl rfl (R.bin (v := (.bool true)) rfl rfl (bi_lss (r := true) (by decide))) ?_
  refine WL.nil ?_
  refine thn_n ?_
  refine WP.condT rfl ?_
  refine WP.skip ?_
  refine thn_n ?_
  refine WP.seq ?_
  refine WP.block ?_
  refine WP.reg ?_
  refine WL.q (Wn.no rfl) rfl rfl (R.move (v := (.slice a_54 40 c_55)) rfl) ?_
  refine WL.q (Wn.no rfl) rfl rfl (R.move (v := (vi 5)) rfl) ?_
  refine WL.q (Wn.no rfl) rfl rfl (R.fieldAddr (b := b_1) (off := 0) (off' := 1) rfl Try.underlying45 rfl Try.sizeOf23 rfl rfl) ?_
  refine WL.q (Wn.no rfl) rfl rfl (R.indexA (b := b_1) (off := 1) (off' := 6) (i := 5) rfl rfl rfl (by decide) Try.underlying23 Try.sizeOf22 rfl) ?_
  refine WL.q (Wn.no rfl) rfl rfl (R.loadE (b := b_1) (off := 6) (i := 5) (v := (vu64 (rg.getD 5 0))) rfl Try.isAgg22 (h_57.ok _ (.tail _ (.tail _ (.tail _ (.tail _ (.tail _ (.tail _ (.tail _ (.head _))))))))) (Sg.t rfl Sg.h) rfl (get_u64 (lt_len (K := 8) hrg (by decide)))) ?_
  refine WL.call (al := [(vu64 (rg.getD 5 0))]) Try.call46 rfl rfl (c_rword (rg.getD 5 0) _) rfl ?_
  rintro _ w_60 ⟨a_58, cap_59, rfl, hc_61, ho_62⟩
  have h_63 := h_57.gotRow hc_61 ho_62
  refine WL.append (km := 48) (xs := (((((([] : List UInt8) ++ (leN 8 (rg.getD 0 0).toNat)) ++ (leN 8 (rg.getD 1 0).toNat)) ++ (leN 8 (rg.getD 2 0).toNat)) ++ (leN 8 (rg.getD 3 0).toNat)) ++ (leN 8 (rg.getD 4 0).toNat)).map vu8) (ys := (leN 8 (rg.getD 5 0).toNat).map vu8) (zs := ((((((([] : List UInt8) ++ (leN 8 (rg.getD 0 0).toNat)) ++ (leN 8 (rg.getD 1 0).toNat)) ++ (leN 8 (rg.getD 2 0).toNat)) ++ (leN 8 (rg.getD 3 0).toNat)) ++ (leN 8 (rg.getD 4 0).toNat)) ++ (leN 8 (rg.getD 5 0).toNat)).map vu8) h_63 rfl rfl el90 (ownView (h_63.ok _ (.head _))) ((len_map (leN_len ..)).trans (Nat.mul_one _).symm) (one_u8 _) (by simp only [List.map_append, List.map_nil]) rfl (by omega) (by omega) (fun _ _ => (At.t (At.t (At.t (At.t (At.t At.h)))))) rfl (fun a_64 c_65 w_66 h_67 => ?_)
  refine WL.q (Wn.no rfl) rfl rfl (R.assign (v := (.slice a_64 48 c_65)) rfl) ?_
  refine WL.nil ?_
  refine inb_n ?_
  refine thn_n ?_
  refine WP.reg ?_
  refine WL.q (Wn.no rfl) rfl rfl (R.move (v := (vi 5)) rfl) ?_
  refine WL.q (Wn.no rfl) rfl rfl (R.bin (v := (vi 6)) rfl rfl (bi_add (c := 6) (by omega) (by omega))) ?_
  refine WL.q (Wn.no rfl) rfl rfl (R.assign (v := (vi 6)) rfl) ?_
  refine WL.nil ?_
  refine thn_n ?_
  refine WI.round ?_
  refine WP.seq ?_
  refine WP.seq ?_
  refine WP.reg ?_
  refine WL.q (Wn.no rfl) rfl rfl (R.move (v := (vi 6)) rfl) ?_
  refine WL.q (Wn.no rfl) rfl rfl (R.bin (v := (.bool true)) rfl rfl (bi_lss (r := true) (by decide))) ?_
  refine WL.nil ?_
  refine thn_n ?_
  refine WP.condT rfl ?_
  refine WP.skip ?_
  refine thn_n ?_
  refine WP.seq ?_
  refine WP.block ?_
  refine WP.reg ?_
  refine WL.q (Wn.no rfl) rfl rfl (R.move (v := (.slice a_64 48 c_65)) rfl) ?_
  refine WL.q (Wn.no rfl) rfl rfl (R.move (v := (vi 6)) rfl) ?_
  refine WL.q (Wn.no rfl) rfl rfl (R.fieldAddr (b := b_1) (off := 0) (off' := 1) rfl Try.underlying45 rfl Try.sizeOf23 rfl rfl) ?_
  refine WL.q (Wn.no rfl) rfl rfl (R.indexA (b := b_1) (off := 1) (off' := 7) (i := 6) rfl rfl rfl (by decide) Try.underlying23 Try.sizeOf22 rfl) ?_
  refine WL.q (Wn.no rfl) rfl rfl (R.loadE (b := b_1) (off := 7) (i := 6) (v := (vu64 (rg.getD 6 0))) rfl Try.isAgg22 (h_67.ok _ (.tail _ (.tail _ (.tail _ (.tail _ (.tail _ (.tail _ (.tail _ (.tail _ (.head _)))))))))) (Sg.t rfl Sg.h) rfl (get_u64 (lt_len (K := 8) hrg (by decide)))) ?_
  refine WL.call (al := [(vu64 (rg.getD 6 0))]) Try.call46 rfl rfl (c_rword (rg.getD 6 0) _) rfl ?_
  rintro _ w_70 ⟨a_68, cap_69, rfl, hc_71, ho_72⟩
  have h_73 := h_67.gotRow hc_71 ho_72
  refine WL.append (km := 56) (xs := ((((((([] : List UInt8) ++ (leN 8 (rg.getD 0 0).toNat)) ++ (leN 8 (rg.getD 1 0).toNat)) ++ (leN 8 (rg.getD 2 0).toNat)) ++ (leN 8 (rg.getD 3 0).toNat)) ++ (leN 8 (rg.getD 4 0).toNat)) ++ (leN 8 (rg.getD 5 0).toNat)).map vu8) (ys := (leN 8 (rg.getD 6 0).toNat).map vu8) (zs := (((((((([] : List UInt8) ++ (leN 8 (rg.getD 0 0).toNat)) ++ (leN 8 (rg.getD 1 0).toNat)) ++ (leN 8 (rg.getD 2 0).toNat)) ++ (leN 8 (rg.getD 3 0).toNat)) ++ (leN 8 (rg.getD 4 0).toNat)) ++ (leN 8 (rg.getD 5 0).toNat)) ++ (leN 8 (rg.getD 6 0).toNat)).map vu8) h_73 rfl rfl el90 (ownView (h_73.ok _ (.head _))) ((len_map (leN_len ..)).trans (Nat.mul_one _).symm) (one_u8 _) (by simp only [List.map_append, List.map_nil]) rfl (by omega) (by omega) (fun _ _ => (At.t (At.t (At.t (At.t (At.t (At.t At.h))))))) rfl (fun a_74 c_75 w_76 h_77 => ?_)
  refine WL.q (Wn.no rfl) rfl rfl (R.assign (v := (.slice a_74 56 c_75)) rfl) ?_
  refine WL.nil ?_
  refine inb_n ?_
  refine thn_n ?_
  refine WP.reg ?_
  refine WL.q (Wn.no rfl) rfl rfl (R.move (v := (vi 6)) rfl) ?_
  refine WL.q (Wn.no rfl) rfl rfl (R.bin (v := (vi 7)) rfl rfl (bi_add (c := 7) (by omega) (by omega))) ?_
  refine WL.q (Wn.no rfl) rfl rfl (R.assign (v := (vi 7)) rfl) ?_
  refine WL.nil ?_
  refine thn_n ?_
  refine WI.round ?_
  refine WP.seq ?_
  refine WP.seq ?_
  refine WP.reg ?_
  refine WL.q (Wn.no rfl) rfl rfl (R.move (v := (vi 7)) rfl) ?_
  refine WL.q (Wn.no rfl) rfl rfl (R.bin (v := (.bool true)) rfl rfl (bi_lss (r := true) (by decide))) ?_
  refine WL.nil ?_
  refine thn_n ?_
  refine WP.condT rfl ?_
  refine WP.skip ?_
  refine thn_n ?_
  refine WP.seq ?_
  refine WP.block ?_
  refine WP.reg ?_
  refine WL.q (Wn.no rfl) rfl rfl (R.move (v := (.slice a_74 56 c_75)) rfl) ?_
  refine WL.q (Wn.no rfl) rfl rfl (R.move (v := (vi 7)) rfl) ?_
  refine WL.q (Wn.no rfl) rfl rfl (R.fieldAddr (b := b_1) (off := 0) (off' := 1) rfl Try.underlying45 rfl Try.sizeOf23 rfl rfl) ?_
  refine WL.q (Wn.no rfl) rfl rfl (R.indexA (b := b_1) (off := 1) (off' := 8) (i := 7) rfl rfl rfl (by decide) Try.underlying23 Try.sizeOf22 rfl) ?_
  refine WL.q (Wn.no rfl) rfl rfl (R.loadE (b := b_1) (off := 8) (i := 7) (v := (vu64 (rg.getD 7 0))) rfl Try.isAgg22 (h_77.ok _ (.tail _ (.tail _ (.tail _ (.tail _ (.tail _ (.tail _ (.tail _ (.tail _ (.tail _ (.head _))))))))))) (Sg.t rfl Sg.h) rfl (get_u64 (lt_len (K := 8) hrg (by decide)))) ?_
  refine WL.call (al := [(vu64 (rg.getD 7 0))]) Try.call46 rfl rfl (c_rword (rg.getD 7 0) _) rfl ?_
  rintro _ w_80 ⟨a_78, cap_79, rfl, hc_81, ho_82⟩
  have h_83 := h_77.gotRow hc_81 ho_82
  refine WL.append (km := 64) (xs := (((((((([] : List UInt8) ++ (leN 8 (rg.getD 0 0).toNat)) ++ (leN 8 (rg.getD 1 0).toNat)) ++ (leN 8 (rg.getD 2 0).toNat)) ++ (leN 8 (rg.getD 3 0).toNat)) ++ (leN 8 (rg.getD 4 0).toNat)) ++ (leN 8 (rg.getD 5 0).toNat)) ++ (leN 8 (rg.getD 6 0).toNat)).map vu8) (ys := (leN 8 (rg.getD 7 0).toNat).map vu8) (zs := ((((((((([] : List UInt8) ++ (leN 8 (rg.getD 0 0).toNat)) ++ (leN 8 (rg.getD 1 0).toNat)) ++ (leN 8 (rg.getD 2 0).toNat)) ++ (leN 8 (rg.getD 3 0).toNat)) ++ (leN 8 (rg.getD 4 0).toNat)) ++ (leN 8 (rg.getD 5 0).toNat)) ++ (leN 8 (rg.getD 6 0).toNat)) ++ (leN 8 (rg.getD 7 0).toNat)).map vu8) h_83 rfl rfl el90 (ownView (h_83.ok _ (.head _))) ((len_map (leN_len ..)).trans (Nat.mul_one _).symm) (one_u8 _) (by simp only [List.map_append, List.map_nil]) rfl (by omega) (by omega) (fun _ _ => (At.t (At.t (At.t (At.t (At.t (At.t (At.t At.h)))))))) rfl (fun a_84 c_85 w_86 h_87 => ?_)
  refine WL.q (Wn.no rfl) rfl rfl (R.assign (v := (.slice a_84 64 c_85)) rfl) ?_
  refine WL.nil ?_
  refine inb_n ?_
  refine thn_n ?_
  refine WP.reg ?_
  refine WL.q (Wn.no rfl) rfl rfl (R.move (v := (vi 7)) rfl) ?_
  refine WL.q (Wn.no rfl) rfl rfl (R.bin (v := (vi 8)) rfl rfl (bi_add (c := 8) (by omega) (by omega))) ?_
  refine WL.q (Wn.no rfl) rfl rfl (R.assign (v := (vi 8)) rfl) ?_
  refine WL.nil ?_
  refine thn_n ?_
  refine WI.round ?_
  refine WP.seq ?_
  refine WP.seq ?_
  refine WP.reg ?_
  refine WL.q (Wn.no rfl) rfl rfl (R.move (v := (vi 8)) rfl) ?_
  refine WL.q (Wn.no rfl) rfl rfl (R.bin (v := (.bool false)) rfl rfl (bi_lss (r := false) (by decide))) ?_
  refine WL.nil ?_
  refine thn_n ?_
  refine WP.condF rfl ?_
  refine WP.exit ?_
  refine thn_x ?_
  refine thn_x ?_
  refine inb_hit ?_
  refine thn_n ?_
  refine WP.seq ?_
  refine WP.reg ?_
  refine WL.buildSl (vs := [(0, (vu8 0))]) (cs := ([0] : List UInt8).map vu8) h_87 Try.underlying90 Try.sizeOf5 (zv Try.typeInfo5 rfl) rfl rfl (by kernel_rfl) rfl (one_u8 _) rfl rfl (fun b_88 w_89 h_90 => ?_)
  refine WL.q (Wn.no rfl) rfl rfl (R.assign (v := (.slice (some ⟨b_88, 0, none⟩) 1 1)) rfl) ?_
  refine WL.nil ?_
  refine thn_n ?_
  refine WP.seq ?_
  refine WP.seq ?_
  refine WP.reg ?_
  refine WL.q (Wn.no rfl) rfl rfl (R.fieldAddr (b := b_1) (off := 0) (off' := 9) rfl Try.underlying45 rfl Try.sizeOf4 rfl rfl) ?_
  refine WL.q (Wn.no rfl) rfl rfl (R.load1 (b := b_1) (off := 9) (v := (.bool run)) rfl Try.isAgg4 (h_90.ok _ (.tail _ (.tail _ (.tail _ (.tail _ (.tail _ (.tail _ (.tail _ (.tail _ (.tail _ (.tail _ (.tail _ (.head _))))))))))))) (Sg.t rfl (Sg.t rfl Sg.h))) ?_
  refine WL.nil ?_
  refine thn_n ?_
  refine WP.cond (b := run) rfl (fun c_91 => ?_) (fun c_91 => ?_)
  · refine WP.reg ?_
    refine WL.q (Wn.no rfl) rfl rfl (R.move (v := (.slice (some ⟨b_88, 0, none⟩) 1 1)) rfl) ?_
    refine WL.q (Wn.no rfl) rfl rfl (R.indexS (a := some ⟨b_88, 0, none⟩) (i := 0) (off := 0) (xs := ([0] : List UInt8).map vu8) rfl rfl rfl (by decide) (viewB (h_90.ok _ (.head _)) Sg.h) (by simp) Try.underlying90 Try.sizeOf5 (Nat.mul_one _).symm) ?_
    refine WL.storeE (b := b_88) (off := 0) (i := 0) (v := (vu8 1)) (cs' := (([0] : List UInt8).set 0 1).map vu8) h_90 rfl rfl Try.sizeOf5 rfl At.h (by decide) Sg.h rfl (lt_len (K := 1) (len_map (rfl : List.length ([0] : List UInt8) = 1)) (by decide)) (set_u8 _ _ _) (fun w_92 h_93 => ?_)
    refine WL.nil ?_
    refine thn_n ?_
    refine WP.seq ?_
    refine WP.drawT (SL w.heap.size [.blk b_88 .nw 5 [(1, (([0] : List UInt8).set 0 1).map vu8)], .row a_78 8 cap_79 5 1 ((leN 8 (rg.getD 7 0).toNat).map vu8), .row a_68 8 cap_69 5 1 ((leN 8 (rg.getD 6 0).toNat).map vu8), .row a_58 8 cap_59 5 1 ((leN 8 (rg.getD 5 0).toNat).map vu8), .row a_48 8 cap_49 5 1 ((leN 8 (rg.getD 4 0).toNat).map vu8), .row a_38 8 cap_39 5 1 ((leN 8 (rg.getD 3 0).toNat).map vu8), .row a_28 8 cap_29 5 1 ((leN 8 (rg.getD 2 0).toNat).map vu8), .row a_18 8 cap_19 5 1 ((leN 8 (rg.getD 1 0).toNat).map vu8), .row a_84 64 c_85 5 1 (((((((((([] : List UInt8) ++ (leN 8 (rg.getD 0 0).toNat)) ++ (leN 8 (rg.getD 1 0).toNat)) ++ (leN 8 (rg.getD 2 0).toNat)) ++ (leN 8 (rg.getD 3 0).toNat)) ++ (leN 8 (rg.getD 4 0).toNat)) ++ (leN 8 (rg.getD 5 0).toNat)) ++ (leN 8 (rg.getD 6 0).toNat)) ++ (leN 8 (rg.getD 7 0).toNat)).map vu8), .row a_7 8 cap_8 5 1 ((leN 8 (rg.getD 0 0).toNat).map vu8), .blk b_1 .nw 45 [(1, [(vu64 pc)]), (8, rg.map vu64), (1, [(.bool run)])]]) (.q 1 (.q 2 (.q 4 (.q 5 (.s 0 (.s 3 (.s 6 (.s 7 (.s 8 .nil))))))))) (by kernel_rfl) (by kernel_rfl) rfl (by kernel_rfl) (fun w_94 hc_96 => (SL.cons ((h_93.same hc_96).ok _ (.head _)) (SL.cons ((h_93.same hc_96).ok _ (.tail _ (.head _))) (SL.cons ((h_93.same hc_96).ok _ (.tail _ (.tail _ (.head _)))) (SL.cons ((h_93.same hc_96).ok _ (.tail _ (.tail _ (.tail _ (.head _))))) (SL.cons ((h_93.same hc_96).ok _ (.tail _ (.tail _ (.tail _ (.tail _ (.head _)))))) (SL.cons ((h_93.same hc_96).ok _ (.tail _ (.tail _ (.tail _ (.tail _ (.tail _ (.head _))))))) (SL.cons ((h_93.same hc_96).ok _ (.tail _ (.tail _ (.tail _ (.tail _ (.tail _ (.tail _ (.head _)))))))) (SL.cons ((h_93.same hc_96).ok _ (.tail _ (.tail _ (.tail _ (.tail _ (.tail _ (.tail _ (.tail _ (.head _))))))))) (SL.cons ((h_93.same hc_96).ok _ (.tail _ (.tail _ (.tail _ (.tail _ (.tail _ (.tail _ (.tail _ (.tail _ (.head _)))))))))) (SL.cons ((h_93.same hc_96).ok _ (.tail _ (.tail _ (.tail _ (.tail _ (.tail _ (.tail _ (.tail _ (.tail _ (.tail _ (.head _))))))))))) (SL.cons ((h_93.same hc_96).ok _ (.tail _ (.tail _ (.tail _ (.tail _ (.tail _ (.tail _ (.tail _ (.tail _ (.tail _ (.tail _ (.tail _ (.head _))))))))))))) (SL.nil _ _))))))))))))) (fun w_94 hc_96 => ?_)
    have h_95 := h_93.same hc_96
    refine WT.q rfl (Wn.no rfl) rfl rfl (fun wq hS => R.fieldAddr (b := b_1) (off := 0) (off' := 0) rfl Try.underlying45 rfl Try.sizeOf22 rfl rfl) ?_
    refine WT.q rfl (Wn.no rfl) rfl rfl (fun wq hS => R.load1 (b := b_1) (off := 0) (v := (vu64 pc)) rfl Try.isAgg22 (hS _ (.tail _ (.tail _ (.tail _ (.tail _ (.tail _ (.tail _ (.tail _ (.tail _ (.tail _ (.tail _ (.head _)))))))))))) Sg.h) ?_
    refine WT.q rfl (Wn.no rfl) rfl rfl (fun wq hS => R.move (v := (.slice a_84 64 c_85)) rfl) ?_
    refine WT.q rfl (Wn.no rfl) rfl rfl (fun wq hS => R.move (v := (.slice (some ⟨b_88, 0, none⟩) 1 1)) rfl) ?_
    refine WT.s ?_
    refine Op1.one rfl (Wn.no rfl) ?_
    refine WL.call (al := [(.string (bstr ([114, 101, 99] : List UInt8)))]) Try.call45 rfl rfl (c_mark 3 ([114, 101, 99] : List UInt8) rfl (by decide) _) rfl ?_
    rintro _ w_99 ⟨a_97, cap_98, rfl, hc_100, ho_101⟩
    have h_102 := h_95.gotRow hc_100 ho_101
    refine WL.nil ?_
    refine ⟨(SL.cons (h_102.ok _ (.tail _ (.head _))) (SL.cons (h_102.ok _ (.tail _ (.tail _ (.head _)))) (SL.cons (h_102.ok _ (.tail _ (.tail _ (.tail _ (.head _))))) (SL.cons (h_102.ok _ (.tail _ (.tail _ (.tail _ (.tail _ (.head _)))))) (SL.cons (h_102.ok _ (.tail _ (.tail _ (.tail _ (.tail _ (.tail _ (.head _))))))) (SL.cons (h_102.ok _ (.tail _ (.tail _ (.tail _ (.tail _ (.tail _ (.tail _ (.head _)))))))) (SL.cons (h_102.ok _ (.tail _ (.tail _ (.tail _ (.tail _ (.tail _ (.tail _ (.tail _ (.head _))))))))) (SL.cons (h_102.ok _ (.tail _ (.tail _ (.tail _ (.tail _ (.tail _ (.tail _ (.tail _ (.tail _ (.head _)))))))))) (SL.cons (h_102.ok _ (.tail _ (.tail _ (.tail _ (.tail _ (.tail _ (.tail _ (.tail _ (.tail _ (.tail _ (.head _))))))))))) (SL.cons (h_102.ok _ (.tail _ (.tail _ (.tail _ (.tail _ (.tail _ (.tail _ (.tail _ (.tail _ (.tail _ (.tail _ (.head _)))))))))))) (SL.cons (h_102.ok _ (.tail _ (.tail _ (.tail _ (.tail _ (.tail _ (.tail _ (.tail _ (.tail _ (.tail _ (.tail _ (.tail _ (.tail _ (.head _)))))))))))))) (SL.nil _ _)))))))))))), ?_⟩
    refine WT.s ?_
    refine Op1.one rfl (Wn.no rfl) ?_
    refine WL.call (al := [(vu64 pc)]) Try.call46 rfl rfl (c_rword pc _) rfl ?_
    rintro _ w_105 ⟨a_103, cap_104, rfl, hc_106, ho_107⟩
    have h_108 := h_102.gotRow hc_106 ho_107
    refine WL.nil ?_
    refine ⟨(SL.cons (h_108.ok _ (.tail _ (.tail _ (.head _)))) (SL.cons (h_108.ok _ (.tail _ (.tail _ (.tail _ (.head _))))) (SL.cons (h_108.ok _ (.tail _ (.tail _ (.tail _ (.tail _ (.head _)))))) (SL.cons (h_108.ok _ (.tail _ (.tail _ (.tail _ (.tail _ (.tail _ (.head _))))))) (SL.cons (h_108.ok _ (.tail _ (.tail _ (.tail _ (.tail _ (.tail _ (.tail _ (.head _)))))))) (SL.cons (h_108.ok _ (.tail _ (.tail _ (.tail _ (.tail _ (.tail _ (.tail _ (.tail _ (.head _))))))))) (SL.cons (h_108.ok _ (.tail _ (.tail _ (.tail _ (.tail _ (.tail _ (.tail _ (.tail _ (.tail _ (.head _)))))))))) (SL.cons (h_108.ok _ (.tail _ (.tail _ (.tail _ (.tail _ (.tail _ (.tail _ (.tail _ (.tail _ (.tail _ (.head _))))))))))) (SL.cons (h_108.ok _ (.tail _ (.tail _ (.tail _ (.tail _ (.tail _ (.tail _ (.tail _ (.tail _ (.tail _ (.tail _ (.head _)))))))))))) (SL.cons (h_108.ok _ (.tail _ (.tail _ (.tail _ (.tail _ (.tail _ (.tail _ (.tail _ (.tail _ (.tail _ (.tail _ (.tail _ (.head _))))))))))))) (SL.cons (h_108.ok _ (.tail _ (.tail _ (.tail _ (.tail _ (.tail _ (.tail _ (.tail _ (.tail _ (.tail _ (.tail _ (.tail _ (.tail _ (.tail _ (.head _))))))))))))))) (SL.nil _ _)))))))))))), ?_⟩
    refine WT.s ?_
    refine Op1.one rfl (Wn.no rfl) ?_
    refine WL.buildSl (vs := [(0, (.slice a_97 8 cap_98)), (1, (.slice a_103 8 cap_104)), (2, (.slice a_84 64 c_85)), (3, (.slice (some ⟨b_88, 0, none⟩) 1 1))]) (cs := [(.slice a_97 8 cap_98), (.slice a_103 8 cap_104), (.slice a_84 64 c_85), (.slice (some ⟨b_88, 0, none⟩) 1 1)]) h_108 Try.underlying98 Try.sizeOf90 (zv Try.typeInfo90 rfl) rfl rfl (by kernel_rfl) rfl (by simp [Value.oneCell']) rfl rfl (fun b_109 w_110 h_111 => ?_)
    refine WL.nil ?_
    refine ⟨(SL.cons (h_111.ok _ (.tail _ (.tail _ (.tail _ (.head _))))) (SL.cons (h_111.ok _ (.tail _ (.tail _ (.tail _ (.tail _ (.head _)))))) (SL.cons (h_111.ok _ (.tail _ (.tail _ (.tail _ (.tail _ (.tail _ (.head _))))))) (SL.cons (h_111.ok _ (.tail _ (.tail _ (.tail _ (.tail _ (.tail _ (.tail _ (.head _)))))))) (SL.cons (h_111.ok _ (.tail _ (.tail _ (.tail _ (.tail _ (.tail _ (.tail _ (.tail _ (.head _))))))))) (SL.cons (h_111.ok _ (.tail _ (.tail _ (.tail _ (.tail _ (.tail _ (.tail _ (.tail _ (.tail _ (.head _)))))))))) (SL.cons (h_111.ok _ (.tail _ (.tail _ (.tail _ (.tail _ (.tail _ (.tail _ (.tail _ (.tail _ (.tail _ (.head _))))))))))) (SL.cons (h_111.ok _ (.tail _ (.tail _ (.tail _ (.tail _ (.tail _ (.tail _ (.tail _ (.tail _ (.tail _ (.tail _ (.head _)))))))))))) (SL.cons (h_111.ok _ (.tail _ (.tail _ (.tail _ (.tail _ (.tail _ (.tail _ (.tail _ (.tail _ (.tail _ (.tail _ (.tail _ (.head _))))))))))))) (SL.cons (h_111.ok _ (.tail _ (.tail _ (.tail _ (.tail _ (.tail _ (.tail _ (.tail _ (.tail _ (.tail _ (.tail _ (.tail _ (.tail _ (.head _)))))))))))))) (SL.cons (h_111.ok _ (.tail _ (.tail _ (.tail _ (.tail _ (.tail _ (.tail _ (.tail _ (.tail _ (.tail _ (.tail _ (.tail _ (.tail _ (.tail _ (.tail _ (.head _)))))))))))))))) (SL.nil _ _)))))))))))), ?_⟩
    refine WT.s ?_
    refine Op1.one rfl (Wn.no rfl) ?_
    refine WL.call (al := [(.slice (some ⟨b_109, 0, none⟩) 4 4)]) Try.call44 rfl rfl (c_granR (some ⟨b_109, 0, none⟩) 4 4 [(.slice a_97 8 cap_98), (.slice a_103 8 cap_104), (.slice a_84 64 c_85), (.slice (some ⟨b_88, 0, none⟩) 1 1)] [([114, 101, 99] : List UInt8) ++ List.replicate (8 - 3) (0 : UInt8), leN 8 pc.toNat, (((((((([] : List UInt8) ++ (leN 8 (rg.getD 0 0).toNat)) ++ (leN 8 (rg.getD 1 0).toNat)) ++ (leN 8 (rg.getD 2 0).toNat)) ++ (leN 8 (rg.getD 3 0).toNat)) ++ (leN 8 (rg.getD 4 0).toNat)) ++ (leN 8 (rg.getD 5 0).toNat)) ++ (leN 8 (rg.getD 6 0).toNat)) ++ (leN 8 (rg.getD 7 0).toNat), ([0] : List UInt8).set 0 1] rfl (by simp [leN_len]) (by omega) _ (viewB (h_111.ok _ (.head _)) Sg.h) (Sls.cons (rfl : List.length (([114, 101, 99] : List UInt8) ++ List.replicate (8 - 3) (0 : UInt8)) = 8) (h_111.own (.tail _ (.tail _ (.head _)))).2.2.1 (ownView (h_111.ok _ (.tail _ (.tail _ (.head _))))) (Sls.cons (leN_len ..) (h_111.own (.tail _ (.head _))).2.2.1 (ownView (h_111.ok _ (.tail _ (.head _)))) (Sls.cons (lenApp (a := 56) (b := 8) (lenApp (a := 48) (b := 8) (lenApp (a := 40) (b := 8) (lenApp (a := 32) (b := 8) (lenApp (a := 24) (b := 8) (lenApp (a := 16) (b := 8) (lenApp (a := 8) (b := 8) (lenApp (a := 0) (b := 8) (rfl : List.length ([] : List UInt8) = 0) (leN_len ..) (by omega) : List.length (([] : List UInt8) ++ (leN 8 (rg.getD 0 0).toNat)) = 8) (leN_len ..) (by omega) : List.length ((([] : List UInt8) ++ (leN 8 (rg.getD 0 0).toNat)) ++ (leN 8 (rg.getD 1 0).toNat)) = 16) (leN_len ..) (by omega) : List.length (((([] : List UInt8) ++ (leN 8 (rg.getD 0 0).toNat)) ++ (leN 8 (rg.getD 1 0).toNat)) ++ (leN 8 (rg.getD 2 0).toNat)) = 24) (leN_len ..) (by omega) : List.length ((((([] : List UInt8) ++ (leN 8 (rg.getD 0 0).toNat)) ++ (leN 8 (rg.getD 1 0).toNat)) ++ (leN 8 (rg.getD 2 0).toNat)) ++ (leN 8 (rg.getD 3 0).toNat)) = 32) (leN_len ..) (by omega) : List.length (((((([] : List UInt8) ++ (leN 8 (rg.getD 0 0).toNat)) ++ (leN 8 (rg.getD 1 0).toNat)) ++ (leN 8 (rg.getD 2 0).toNat)) ++ (leN 8 (rg.getD 3 0).toNat)) ++ (leN 8 (rg.getD 4 0).toNat)) = 40) (leN_len ..) (by omega) : List.length ((((((([] : List UInt8) ++ (leN 8 (rg.getD 0 0).toNat)) ++ (leN 8 (rg.getD 1 0).toNat)) ++ (leN 8 (rg.getD 2 0).toNat)) ++ (leN 8 (rg.getD 3 0).toNat)) ++ (leN 8 (rg.getD 4 0).toNat)) ++ (leN 8 (rg.getD 5 0).toNat)) = 48) (leN_len ..) (by omega) : List.length (((((((([] : List UInt8) ++ (leN 8 (rg.getD 0 0).toNat)) ++ (leN 8 (rg.getD 1 0).toNat)) ++ (leN 8 (rg.getD 2 0).toNat)) ++ (leN 8 (rg.getD 3 0).toNat)) ++ (leN 8 (rg.getD 4 0).toNat)) ++ (leN 8 (rg.getD 5 0).toNat)) ++ (leN 8 (rg.getD 6 0).toNat)) = 56) (leN_len ..) (by omega) : List.length ((((((((([] : List UInt8) ++ (leN 8 (rg.getD 0 0).toNat)) ++ (leN 8 (rg.getD 1 0).toNat)) ++ (leN 8 (rg.getD 2 0).toNat)) ++ (leN 8 (rg.getD 3 0).toNat)) ++ (leN 8 (rg.getD 4 0).toNat)) ++ (leN 8 (rg.getD 5 0).toNat)) ++ (leN 8 (rg.getD 6 0).toNat)) ++ (leN 8 (rg.getD 7 0).toNat)) = 64) (h_111.own (.tail _ (.tail _ (.tail _ (.tail _ (.tail _ (.tail _ (.tail _ (.tail _ (.tail _ (.tail _ (.tail _ (.head _))))))))))))).2.2.1 (ownView (h_111.ok _ (.tail _ (.tail _ (.tail _ (.tail _ (.tail _ (.tail _ (.tail _ (.tail _ (.tail _ (.tail _ (.tail _ (.head _)))))))))))))) (Sls.cons (len_set (rfl : List.length ([0] : List UInt8) = 1) _ _) (by decide) (viewB (h_111.ok _ (.tail _ (.tail _ (.tail _ (.head _))))) Sg.h) Sls.nil))))) rfl ?_
    rintro _ w_113 ⟨rfl, hc_112⟩
    have h_114 := h_111.same hc_112
    refine WL.nil ?_
    refine ⟨(SL.cons (h_114.ok _ (.tail _ (.tail _ (.tail _ (.head _))))) (SL.cons (h_114.ok _ (.tail _ (.tail _ (.tail _ (.tail _ (.head _)))))) (SL.cons (h_114.ok _ (.tail _ (.tail _ (.tail _ (.tail _ (.tail _ (.head _))))))) (SL.cons (h_114.ok _ (.tail _ (.tail _ (.tail _ (.tail _ (.tail _ (.tail _ (.head _)))))))) (SL.cons (h_114.ok _ (.tail _ (.tail _ (.tail _ (.tail _ (.tail _ (.tail _ (.tail _ (.head _))))))))) (SL.cons (h_114.ok _ (.tail _ (.tail _ (.tail _ (.tail _ (.tail _ (.tail _ (.tail _ (.tail _ (.head _)))))))))) (SL.cons (h_114.ok _ (.tail _ (.tail _ (.tail _ (.tail _ (.tail _ (.tail _ (.tail _ (.tail _ (.tail _ (.head _))))))))))) (SL.cons (h_114.ok _ (.tail _ (.tail _ (.tail _ (.tail _ (.tail _ (.tail _ (.tail _ (.tail _ (.tail _ (.tail _ (.head _)))))))))))) (SL.cons (h_114.ok _ (.tail _ (.tail _ (.tail _ (.tail _ (.tail _ (.tail _ (.tail _ (.tail _ (.tail _ (.tail _ (.tail _ (.head _))))))))))))) (SL.cons (h_114.ok _ (.tail _ (.tail _ (.tail _ (.tail _ (.tail _ (.tail _ (.tail _ (.tail _ (.tail _ (.tail _ (.tail _ (.tail _ (.head _)))))))))))))) (SL.cons (h_114.ok _ (.tail _ (.tail _ (.tail _ (.tail _ (.tail _ (.tail _ (.tail _ (.tail _ (.tail _ (.tail _ (.tail _ (.tail _ (.tail _ (.tail _ (.head _)))))))))))))))) (SL.nil _ _)))))))))))), ?_⟩
    refine WT.s ?_
    refine Op1.one rfl (Wn.no rfl) ?_
    refine WL.storeA (b := b_4) (off := 0) [] [(128, (List.replicate 128 (0 : UInt8)).map vu8)] [(128, (ovr (List.replicate 128 (0 : UInt8)) 0 ([([114, 101, 99] : List UInt8) ++ List.replicate (8 - 3) (0 : UInt8), leN 8 pc.toNat, (((((((([] : List UInt8) ++ (leN 8 (rg.getD 0 0).toNat)) ++ (leN 8 (rg.getD 1 0).toNat)) ++ (leN 8 (rg.getD 2 0).toNat)) ++ (leN 8 (rg.getD 3 0).toNat)) ++ (leN 8 (rg.getD 4 0).toNat)) ++ (leN 8 (rg.getD 5 0).toNat)) ++ (leN 8 (rg.getD 6 0).toNat)) ++ (leN 8 (rg.getD 7 0).toNat), ([0] : List UInt8).set 0 1]).flatten).map vu8)] [] (ys := (ovr (List.replicate 128 (0 : UInt8)) 0 ([([114, 101, 99] : List UInt8) ++ List.replicate (8 - 3) (0 : UInt8), leN 8 pc.toNat, (((((((([] : List UInt8) ++ (leN 8 (rg.getD 0 0).toNat)) ++ (leN 8 (rg.getD 1 0).toNat)) ++ (leN 8 (rg.getD 2 0).toNat)) ++ (leN 8 (rg.getD 3 0).toNat)) ++ (leN 8 (rg.getD 4 0).toNat)) ++ (leN 8 (rg.getD 5 0).toNat)) ++ (leN 8 (rg.getD 6 0).toNat)) ++ (leN 8 (rg.getD 7 0).toNat), ([0] : List UInt8).set 0 1]).flatten).map vu8) h_114 rfl rfl Try.sizeOf53 (At.t (At.t (At.t (At.t (At.t (At.t (At.t (At.t (At.t (At.t (At.t (At.t (At.t At.h))))))))))))) (by decide) rfl rfl rfl rfl rfl rfl (SsOk.cons (SOk.u8 (ovr_len (List.length_replicate ..) (by have hz : ([([114, 101, 99] : List UInt8) ++ List.replicate (8 - 3) (0 : UInt8), leN 8 pc.toNat, (((((((([] : List UInt8) ++ (leN 8 (rg.getD 0 0).toNat)) ++ (leN 8 (rg.getD 1 0).toNat)) ++ (leN 8 (rg.getD 2 0).toNat)) ++ (leN 8 (rg.getD 3 0).toNat)) ++ (leN 8 (rg.getD 4 0).toNat)) ++ (leN 8 (rg.getD 5 0).toNat)) ++ (leN 8 (rg.getD 6 0).toNat)) ++ (leN 8 (rg.getD 7 0).toNat), ([0] : List UInt8).set 0 1]).flatten.length ≤ 128 := (by simp [leN_len]); omega))) SsOk.nil) (fun w_115 h_116 => ?_)
    refine WL.nil ?_
    refine ⟨(SL.cons (h_116.ok _ (.tail _ (.tail _ (.tail _ (.head _))))) (SL.cons (h_116.ok _ (.tail _ (.tail _ (.tail _ (.tail _ (.head _)))))) (SL.cons (h_116.ok _ (.tail _ (.tail _ (.tail _ (.tail _ (.tail _ (.head _))))))) (SL.cons (h_116.ok _ (.tail _ (.tail _ (.tail _ (.tail _ (.tail _ (.tail _ (.head _)))))))) (SL.cons (h_116.ok _ (.tail _ (.tail _ (.tail _ (.tail _ (.tail _ (.tail _ (.tail _ (.head _))))))))) (SL.cons (h_116.ok _ (.tail _ (.tail _ (.tail _ (.tail _ (.tail _ (.tail _ (.tail _ (.tail _ (.head _)))))))))) (SL.cons (h_116.ok _ (.tail _ (.tail _ (.tail _ (.tail _ (.tail _ (.tail _ (.tail _ (.tail _ (.tail _ (.head _))))))))))) (SL.cons (h_116.ok _ (.tail _ (.tail _ (.tail _ (.tail _ (.tail _ (.tail _ (.tail _ (.tail _ (.tail _ (.tail _ (.head _)))))))))))) (SL.cons (h_116.ok _ (.tail _ (.tail _ (.tail _ (.tail _ (.tail _ (.tail _ (.tail _ (.tail _ (.tail _ (.tail _ (.tail _ (.head _))))))))))))) (SL.cons (h_116.ok _ (.tail _ (.tail _ (.tail _ (.tail _ (.tail _ (.tail _ (.tail _ (.tail _ (.tail _ (.tail _ (.tail _ (.tail _ (.head _)))))))))))))) (SL.cons (h_116.ok _ (.tail _ (.tail _ (.tail _ (.tail _ (.tail _ (.tail _ (.tail _ (.tail _ (.tail _ (.tail _ (.tail _ (.tail _ (.tail _ (.tail _ (.head _)))))))))))))))) (SL.nil _ _)))))))))))), ?_⟩
    refine WT.nil ?_
    refine thn_n ?_
    refine WP.ret ?_
    refine ret_of Try.results27 (RV.cell rfl (h_116.loadA (cs := (ovr (List.replicate 128 (0 : UInt8)) 0 ([([114, 101, 99] : List UInt8) ++ List.replicate (8 - 3) (0 : UInt8), leN 8 pc.toNat, (((((((([] : List UInt8) ++ (leN 8 (rg.getD 0 0).toNat)) ++ (leN 8 (rg.getD 1 0).toNat)) ++ (leN 8 (rg.getD 2 0).toNat)) ++ (leN 8 (rg.getD 3 0).toNat)) ++ (leN 8 (rg.getD 4 0).toNat)) ++ (leN 8 (rg.getD 5 0).toNat)) ++ (leN 8 (rg.getD 6 0).toNat)) ++ (leN 8 (rg.getD 7 0).toNat), ([0] : List UInt8).set 0 1]).flatten).map vu8) Try.isAgg53 Try.sizeOf53 (.tail _ (.tail _ (.tail _ (.tail _ (.tail _ (.tail _ (.tail _ (.tail _ (.tail _ (.tail _ (.tail _ (.tail _ (.tail _ (.head _)))))))))))))) rfl rfl) RV.nil) ?_
    exact ⟨by rw [recB, c_91]; rfl, h_116.chgS⟩
  · refine WP.skip ?_
    refine thn_n ?_
    refine WP.seq ?_
    refine WP.drawT (SL w.heap.size [.blk b_88 .nw 5 [(1, ([0] : List UInt8).map vu8)], .row a_78 8 cap_79 5 1 ((leN 8 (rg.getD 7 0).toNat).map vu8), .row a_68 8 cap_69 5 1 ((leN 8 (rg.getD 6 0).toNat).map vu8), .row a_58 8 cap_59 5 1 ((leN 8 (rg.getD 5 0).toNat).map vu8), .row a_48 8 cap_49 5 1 ((leN 8 (rg.getD 4 0).toNat).map vu8), .row a_38 8 cap_39 5 1 ((leN 8 (rg.getD 3 0).toNat).map vu8), .row a_28 8 cap_29 5 1 ((leN 8 (rg.getD 2 0).toNat).map vu8), .row a_18 8 cap_19 5 1 ((leN 8 (rg.getD 1 0).toNat).map vu8), .row a_84 64 c_85 5 1 (((((((((([] : List UInt8) ++ (leN 8 (rg.getD 0 0).toNat)) ++ (leN 8 (rg.getD 1 0).toNat)) ++ (leN 8 (rg.getD 2 0).toNat)) ++ (leN 8 (rg.getD 3 0).toNat)) ++ (leN 8 (rg.getD 4 0).toNat)) ++ (leN 8 (rg.getD 5 0).toNat)) ++ (leN 8 (rg.getD 6 0).toNat)) ++ (leN 8 (rg.getD 7 0).toNat)).map vu8), .row a_7 8 cap_8 5 1 ((leN 8 (rg.getD 0 0).toNat).map vu8), .blk b_1 .nw 45 [(1, [(vu64 pc)]), (8, rg.map vu64), (1, [(.bool run)])]]) (.q 1 (.q 2 (.q 4 (.q 5 (.s 0 (.s 3 (.s 6 (.s 7 (.s 8 .nil))))))))) (by kernel_rfl) (by kernel_rfl) rfl (by kernel_rfl) (fun w_117 hc_119 => (SL.cons ((h_90.same hc_119).ok _ (.head _)) (SL.cons ((h_90.same hc_119).ok _ (.tail _ (.head _))) (SL.cons ((h_90.same hc_119).ok _ (.tail _ (.tail _ (.head _)))) (SL.cons ((h_90.same hc_119).ok _ (.tail _ (.tail _ (.tail _ (.head _))))) (SL.cons ((h_90.same hc_119).ok _ (.tail _ (.tail _ (.tail _ (.tail _ (.head _)))))) (SL.cons ((h_90.same hc_119).ok _ (.tail _ (.tail _ (.tail _ (.tail _ (.tail _ (.head _))))))) (SL.cons ((h_90.same hc_119).ok _ (.tail _ (.tail _ (.tail _ (.tail _ (.tail _ (.tail _ (.head _)))))))) (SL.cons ((h_90.same hc_119).ok _ (.tail _ (.tail _ (.tail _ (.tail _ (.tail _ (.tail _ (.tail _ (.head _))))))))) (SL.cons ((h_90.same hc_119).ok _ (.tail _ (.tail _ (.tail _ (.tail _ (.tail _ (.tail _ (.tail _ (.tail _ (.head _)))))))))) (SL.cons ((h_90.same hc_119).ok _ (.tail _ (.tail _ (.tail _ (.tail _ (.tail _ (.tail _ (.tail _ (.tail _ (.tail _ (.head _))))))))))) (SL.cons ((h_90.same hc_119).ok _ (.tail _ (.tail _ (.tail _ (.tail _ (.tail _ (.tail _ (.tail _ (.tail _ (.tail _ (.tail _ (.tail _ (.head _))))))))))))) (SL.nil _ _))))))))))))) (fun w_117 hc_119 => ?_)
    have h_118 := h_90.same hc_119
    refine WT.q rfl (Wn.no rfl) rfl rfl (fun wq hS => R.fieldAddr (b := b_1) (off := 0) (off' := 0) rfl Try.underlying45 rfl Try.sizeOf22 rfl rfl) ?_
    refine WT.q rfl (Wn.no rfl) rfl rfl (fun wq hS => R.load1 (b := b_1) (off := 0) (v := (vu64 pc)) rfl Try.isAgg22 (hS _ (.tail _ (.tail _ (.tail _ (.tail _ (.tail _ (.tail _ (.tail _ (.tail _ (.tail _ (.tail _ (.head _)))))))))))) Sg.h) ?_
    refine WT.q rfl (Wn.no rfl) rfl rfl (fun wq hS => R.move (v := (.slice a_84 64 c_85)) rfl) ?_
    refine WT.q rfl (Wn.no rfl) rfl rfl (fun wq hS => R.move (v := (.slice (some ⟨b_88, 0, none⟩) 1 1)) rfl) ?_
    refine WT.s ?_
    refine Op1.one rfl (Wn.no rfl) ?_
    refine WL.call (al := [(.string (bstr ([114, 101, 99] : List UInt8)))]) Try.call45 rfl rfl (c_mark 3 ([114, 101, 99] : List UInt8) rfl (by decide) _) rfl ?_
    rintro _ w_122 ⟨a_120, cap_121, rfl, hc_123, ho_124⟩
    have h_125 := h_118.gotRow hc_123 ho_124
    refine WL.nil ?_
    refine ⟨(SL.cons (h_125.ok _ (.tail _ (.head _))) (SL.cons (h_125.ok _ (.tail _ (.tail _ (.head _)))) (SL.cons (h_125.ok _ (.tail _ (.tail _ (.tail _ (.head _))))) (SL.cons (h_125.ok _ (.tail _ (.tail _ (.tail _ (.tail _ (.head _)))))) (SL.cons (h_125.ok _ (.tail _ (.tail _ (.tail _ (.tail _ (.tail _ (.head _))))))) (SL.cons (h_125.ok _ (.tail _ (.tail _ (.tail _ (.tail _ (.tail _ (.tail _ (.head _)))))))) (SL.cons (h_125.ok _ (.tail _ (.tail _ (.tail _ (.tail _ (.tail _ (.tail _ (.tail _ (.head _))))))))) (SL.cons (h_125.ok _ (.tail _ (.tail _ (.tail _ (.tail _ (.tail _ (.tail _ (.tail _ (.tail _ (.head _)))))))))) (SL.cons (h_125.ok _ (.tail _ (.tail _ (.tail _ (.tail _ (.tail _ (.tail _ (.tail _ (.tail _ (.tail _ (.head _))))))))))) (SL.cons (h_125.ok _ (.tail _ (.tail _ (.tail _ (.tail _ (.tail _ (.tail _ (.tail _ (.tail _ (.tail _ (.tail _ (.head _)))))))))))) (SL.cons (h_125.ok _ (.tail _ (.tail _ (.tail _ (.tail _ (.tail _ (.tail _ (.tail _ (.tail _ (.tail _ (.tail _ (.tail _ (.tail _ (.head _)))))))))))))) (SL.nil _ _)))))))))))), ?_⟩
    refine WT.s ?_
    refine Op1.one rfl (Wn.no rfl) ?_
    refine WL.call (al := [(vu64 pc)]) Try.call46 rfl rfl (c_rword pc _) rfl ?_
    rintro _ w_128 ⟨a_126, cap_127, rfl, hc_129, ho_130⟩
    have h_131 := h_125.gotRow hc_129 ho_130
    refine WL.nil ?_
    refine ⟨(SL.cons (h_131.ok _ (.tail _ (.tail _ (.head _)))) (SL.cons (h_131.ok _ (.tail _ (.tail _ (.tail _ (.head _))))) (SL.cons (h_131.ok _ (.tail _ (.tail _ (.tail _ (.tail _ (.head _)))))) (SL.cons (h_131.ok _ (.tail _ (.tail _ (.tail _ (.tail _ (.tail _ (.head _))))))) (SL.cons (h_131.ok _ (.tail _ (.tail _ (.tail _ (.tail _ (.tail _ (.tail _ (.head _)))))))) (SL.cons (h_131.ok _ (.tail _ (.tail _ (.tail _ (.tail _ (.tail _ (.tail _ (.tail _ (.head _))))))))) (SL.cons (h_131.ok _ (.tail _ (.tail _ (.tail _ (.tail _ (.tail _ (.tail _ (.tail _ (.tail _ (.head _)))))))))) (SL.cons (h_131.ok _ (.tail _ (.tail _ (.tail _ (.tail _ (.tail _ (.tail _ (.tail _ (.tail _ (.tail _ (.head _))))))))))) (SL.cons (h_131.ok _ (.tail _ (.tail _ (.tail _ (.tail _ (.tail _ (.tail _ (.tail _ (.tail _ (.tail _ (.tail _ (.head _)))))))))))) (SL.cons (h_131.ok _ (.tail _ (.tail _ (.tail _ (.tail _ (.tail _ (.tail _ (.tail _ (.tail _ (.tail _ (.tail _ (.tail _ (.head _))))))))))))) (SL.cons (h_131.ok _ (.tail _ (.tail _ (.tail _ (.tail _ (.tail _ (.tail _ (.tail _ (.tail _ (.tail _ (.tail _ (.tail _ (.tail _ (.tail _ (.head _))))))))))))))) (SL.nil _ _)))))))))))), ?_⟩
    refine WT.s ?_
    refine Op1.one rfl (Wn.no rfl) ?_
    refine WL.buildSl (vs := [(0, (.slice a_120 8 cap_121)), (1, (.slice a_126 8 cap_127)), (2, (.slice a_84 64 c_85)), (3, (.slice (some ⟨b_88, 0, none⟩) 1 1))]) (cs := [(.slice a_120 8 cap_121), (.slice a_126 8 cap_127), (.slice a_84 64 c_85), (.slice (some ⟨b_88, 0, none⟩) 1 1)]) h_131 Try.underlying98 Try.sizeOf90 (zv Try.typeInfo90 rfl) rfl rfl (by kernel_rfl) rfl (by simp [Value.oneCell']) rfl rfl (fun b_132 w_133 h_134 => ?_)
    refine WL.nil ?_
    refine ⟨(SL.cons (h_134.ok _ (.tail _ (.tail _ (.tail _ (.head _))))) (SL.cons (h_134.ok _ (.tail _ (.tail _ (.tail _ (.tail _ (.head _)))))) (SL.cons (h_134.ok _ (.tail _ (.tail _ (.tail _ (.tail _ (.tail _ (.head _))))))) (SL.cons (h_134.ok _ (.tail _ (.tail _ (.tail _ (.tail _ (.tail _ (.tail _ (.head _)))))))) (SL.cons (h_134.ok _ (.tail _ (.tail _ (.tail _ (.tail _ (.tail _ (.tail _ (.tail _ (.head _))))))))) (SL.cons (h_134.ok _ (.tail _ (.tail _ (.tail _ (.tail _ (.tail _ (.tail _ (.tail _ (.tail _ (.head _)))))))))) (SL.cons (h_134.ok _ (.tail _ (.tail _ (.tail _ (.tail _ (.tail _ (.tail _ (.tail _ (.tail _ (.tail _ (.head _))))))))))) (SL.cons (h_134.ok _ (.tail _ (.tail _ (.tail _ (.tail _ (.tail _ (.tail _ (.tail _ (.tail _ (.tail _ (.tail _ (.head _)))))))))))) (SL.cons (h_134.ok _ (.tail _ (.tail _ (.tail _ (.tail _ (.tail _ (.tail _ (.tail _ (.tail _ (.tail _ (.tail _ (.tail _ (.head _))))))))))))) (SL.cons (h_134.ok _ (.tail _ (.tail _ (.tail _ (.tail _ (.tail _ (.tail _ (.tail _ (.tail _ (.tail _ (.tail _ (.tail _ (.tail _ (.head _)))))))))))))) (SL.cons (h_134.ok _ (.tail _ (.tail _ (.tail _ (.tail _ (.tail _ (.tail _ (.tail _ (.tail _ (.tail _ (.tail _ (.tail _ (.tail _ (.tail _ (.tail _ (.head _)))))))))))))))) (SL.nil _ _)))))))))))), ?_⟩
    refine WT.s ?_
    refine Op1.one rfl (Wn.no rfl) ?_
    refine WL.call (al := [(.slice (some ⟨b_132, 0, none⟩) 4 4)]) Try.call44 rfl rfl (c_granR (some ⟨b_132, 0, none⟩) 4 4 [(.slice a_120 8 cap_121), (.slice a_126 8 cap_127), (.slice a_84 64 c_85), (.slice (some ⟨b_88, 0, none⟩) 1 1)] [([114, 101, 99] : List UInt8) ++ List.replicate (8 - 3) (0 : UInt8), leN 8 pc.toNat, (((((((([] : List UInt8) ++ (leN 8 (rg.getD 0 0).toNat)) ++ (leN 8 (rg.getD 1 0).toNat)) ++ (leN 8 (rg.getD 2 0).toNat)) ++ (leN 8 (rg.getD 3 0).toNat)) ++ (leN 8 (rg.getD 4 0).toNat)) ++ (leN 8 (rg.getD 5 0).toNat)) ++ (leN 8 (rg.getD 6 0).toNat)) ++ (leN 8 (rg.getD 7 0).toNat), ([0] : List UInt8)] rfl (by simp [leN_len]) (by omega) _ (viewB (h_134.ok _ (.head _)) Sg.h) (Sls.cons (rfl : List.length (([114, 101, 99] : List UInt8) ++ List.replicate (8 - 3) (0 : UInt8)) = 8) (h_134.own (.tail _ (.tail _ (.head _)))).2.2.1 (ownView (h_134.ok _ (.tail _ (.tail _ (.head _))))) (Sls.cons (leN_len ..) (h_134.own (.tail _ (.head _))).2.2.1 (ownView (h_134.ok _ (.tail _ (.head _)))) (Sls.cons (lenApp (a := 56) (b := 8) (lenApp (a := 48) (b := 8) (lenApp (a := 40) (b := 8) (lenApp (a := 32) (b := 8) (lenApp (a := 24) (b := 8) (lenApp (a := 16) (b := 8) (lenApp (a := 8) (b := 8) (lenApp (a := 0) (b := 8) (rfl : List.length ([] : List UInt8) = 0) (leN_len ..) (by omega) : List.length (([] : List UInt8) ++ (leN 8 (rg.getD 0 0).toNat)) = 8) (leN_len ..) (by omega) : List.length ((([] : List UInt8) ++ (leN 8 (rg.getD 0 0).toNat)) ++ (leN 8 (rg.getD 1 0).toNat)) = 16) (leN_len ..) (by omega) : List.length (((([] : List UInt8) ++ (leN 8 (rg.getD 0 0).toNat)) ++ (leN 8 (rg.getD 1 0).toNat)) ++ (leN 8 (rg.getD 2 0).toNat)) = 24) (leN_len ..) (by omega) : List.length ((((([] : List UInt8) ++ (leN 8 (rg.getD 0 0).toNat)) ++ (leN 8 (rg.getD 1 0).toNat)) ++ (leN 8 (rg.getD 2 0).toNat)) ++ (leN 8 (rg.getD 3 0).toNat)) = 32) (leN_len ..) (by omega) : List.length (((((([] : List UInt8) ++ (leN 8 (rg.getD 0 0).toNat)) ++ (leN 8 (rg.getD 1 0).toNat)) ++ (leN 8 (rg.getD 2 0).toNat)) ++ (leN 8 (rg.getD 3 0).toNat)) ++ (leN 8 (rg.getD 4 0).toNat)) = 40) (leN_len ..) (by omega) : List.length ((((((([] : List UInt8) ++ (leN 8 (rg.getD 0 0).toNat)) ++ (leN 8 (rg.getD 1 0).toNat)) ++ (leN 8 (rg.getD 2 0).toNat)) ++ (leN 8 (rg.getD 3 0).toNat)) ++ (leN 8 (rg.getD 4 0).toNat)) ++ (leN 8 (rg.getD 5 0).toNat)) = 48) (leN_len ..) (by omega) : List.length (((((((([] : List UInt8) ++ (leN 8 (rg.getD 0 0).toNat)) ++ (leN 8 (rg.getD 1 0).toNat)) ++ (leN 8 (rg.getD 2 0).toNat)) ++ (leN 8 (rg.getD 3 0).toNat)) ++ (leN 8 (rg.getD 4 0).toNat)) ++ (leN 8 (rg.getD 5 0).toNat)) ++ (leN 8 (rg.getD 6 0).toNat)) = 56) (leN_len ..) (by omega) : List.length ((((((((([] : List UInt8) ++ (leN 8 (rg.getD 0 0).toNat)) ++ (leN 8 (rg.getD 1 0).toNat)) ++ (leN 8 (rg.getD 2 0).toNat)) ++ (leN 8 (rg.getD 3 0).toNat)) ++ (leN 8 (rg.getD 4 0).toNat)) ++ (leN 8 (rg.getD 5 0).toNat)) ++ (leN 8 (rg.getD 6 0).toNat)) ++ (leN 8 (rg.getD 7 0).toNat)) = 64) (h_134.own (.tail _ (.tail _ (.tail _ (.tail _ (.tail _ (.tail _ (.tail _ (.tail _ (.tail _ (.tail _ (.tail _ (.head _))))))))))))).2.2.1 (ownView (h_134.ok _ (.tail _ (.tail _ (.tail _ (.tail _ (.tail _ (.tail _ (.tail _ (.tail _ (.tail _ (.tail _ (.tail _ (.head _)))))))))))))) (Sls.cons (rfl : List.length ([0] : List UInt8) = 1) (by decide) (viewB (h_134.ok _ (.tail _ (.tail _ (.tail _ (.head _))))) Sg.h) Sls.nil))))) rfl ?_
    rintro _ w_136 ⟨rfl, hc_135⟩
    have h_137 := h_134.same hc_135
    refine WL.nil ?_
    refine ⟨(SL.cons (h_137.ok _ (.tail _ (.tail _ (.tail _ (.head _))))) (SL.cons (h_137.ok _ (.tail _ (.tail _ (.tail _ (.tail _ (.head _)))))) (SL.cons (h_137.ok _ (.tail _ (.tail _ (.tail _ (.tail _ (.tail _ (.head _))))))) (SL.cons (h_137.ok _ (.tail _ (.tail _ (.tail _ (.tail _ (.tail _ (.tail _ (.head _)))))))) (SL.cons (h_137.ok _ (.tail _ (.tail _ (.tail _ (.tail _ (.tail _ (.tail _ (.tail _ (.head _))))))))) (SL.cons (h_137.ok _ (.tail _ (.tail _ (.tail _ (.tail _ (.tail _ (.tail _ (.tail _ (.tail _ (.head _)))))))))) (SL.cons (h_137.ok _ (.tail _ (.tail _ (.tail _ (.tail _ (.tail _ (.tail _ (.tail _ (.tail _ (.tail _ (.head _))))))))))) (SL.cons (h_137.ok _ (.tail _ (.tail _ (.tail _ (.tail _ (.tail _ (.tail _ (.tail _ (.tail _ (.tail _ (.tail _ (.head _)))))))))))) (SL.cons (h_137.ok _ (.tail _ (.tail _ (.tail _ (.tail _ (.tail _ (.tail _ (.tail _ (.tail _ (.tail _ (.tail _ (.tail _ (.head _))))))))))))) (SL.cons (h_137.ok _ (.tail _ (.tail _ (.tail _ (.tail _ (.tail _ (.tail _ (.tail _ (.tail _ (.tail _ (.tail _ (.tail _ (.tail _ (.head _)))))))))))))) (SL.cons (h_137.ok _ (.tail _ (.tail _ (.tail _ (.tail _ (.tail _ (.tail _ (.tail _ (.tail _ (.tail _ (.tail _ (.tail _ (.tail _ (.tail _ (.tail _ (.head _)))))))))))))))) (SL.nil _ _)))))))))))), ?_⟩
    refine WT.s ?_
    refine Op1.one rfl (Wn.no rfl) ?_
    refine WL.storeA (b := b_4) (off := 0) [] [(128, (List.replicate 128 (0 : UInt8)).map vu8)] [(128, (ovr (List.replicate 128 (0 : UInt8)) 0 ([([114, 101, 99] : List UInt8) ++ List.replicate (8 - 3) (0 : UInt8), leN 8 pc.toNat, (((((((([] : List UInt8) ++ (leN 8 (rg.getD 0 0).toNat)) ++ (leN 8 (rg.getD 1 0).toNat)) ++ (leN 8 (rg.getD 2 0).toNat)) ++ (leN 8 (rg.getD 3 0).toNat)) ++ (leN 8 (rg.getD 4 0).toNat)) ++ (leN 8 (rg.getD 5 0).toNat)) ++ (leN 8 (rg.getD 6 0).toNat)) ++ (leN 8 (rg.getD 7 0).toNat), ([0] : List UInt8)]).flatten).map vu8)] [] (ys := (ovr (List.replicate 128 (0 : UInt8)) 0 ([([114, 101, 99] : List UInt8) ++ List.replicate (8 - 3) (0 : UInt8), leN 8 pc.toNat, (((((((([] : List UInt8) ++ (leN 8 (rg.getD 0 0).toNat)) ++ (leN 8 (rg.getD 1 0).toNat)) ++ (leN 8 (rg.getD 2 0).toNat)) ++ (leN 8 (rg.getD 3 0).toNat)) ++ (leN 8 (rg.getD 4 0).toNat)) ++ (leN 8 (rg.getD 5 0).toNat)) ++ (leN 8 (rg.getD 6 0).toNat)) ++ (leN 8 (rg.getD 7 0).toNat), ([0] : List UInt8)]).flatten).map vu8) h_137 rfl rfl Try.sizeOf53 (At.t (At.t (At.t (At.t (At.t (At.t (At.t (At.t (At.t (At.t (At.t (At.t (At.t At.h))))))))))))) (by decide) rfl rfl rfl rfl rfl rfl (SsOk.cons (SOk.u8 (ovr_len (List.length_replicate ..) (by have hz : ([([114, 101, 99] : List UInt8) ++ List.replicate (8 - 3) (0 : UInt8), leN 8 pc.toNat, (((((((([] : List UInt8) ++ (leN 8 (rg.getD 0 0).toNat)) ++ (leN 8 (rg.getD 1 0).toNat)) ++ (leN 8 (rg.getD 2 0).toNat)) ++ (leN 8 (rg.getD 3 0).toNat)) ++ (leN 8 (rg.getD 4 0).toNat)) ++ (leN 8 (rg.getD 5 0).toNat)) ++ (leN 8 (rg.getD 6 0).toNat)) ++ (leN 8 (rg.getD 7 0).toNat), ([0] : List UInt8)]).flatten.length ≤ 128 := (by simp [leN_len]); omega))) SsOk.nil) (fun w_138 h_139 => ?_)
    refine WL.nil ?_
    refine ⟨(SL.cons (h_139.ok _ (.tail _ (.tail _ (.tail _ (.head _))))) (SL.cons (h_139.ok _ (.tail _ (.tail _ (.tail _ (.tail _ (.head _)))))) (SL.cons (h_139.ok _ (.tail _ (.tail _ (.tail _ (.tail _ (.tail _ (.head _))))))) (SL.cons (h_139.ok _ (.tail _ (.tail _ (.tail _ (.tail _ (.tail _ (.tail _ (.head _)))))))) (SL.cons (h_139.ok _ (.tail _ (.tail _ (.tail _ (.tail _ (.tail _ (.tail _ (.tail _ (.head _))))))))) (SL.cons (h_139.ok _ (.tail _ (.tail _ (.tail _ (.tail _ (.tail _ (.tail _ (.tail _ (.tail _ (.head _)))))))))) (SL.cons (h_139.ok _ (.tail _ (.tail _ (.tail _ (.tail _ (.tail _ (.tail _ (.tail _ (.tail _ (.tail _ (.head _))))))))))) (SL.cons (h_139.ok _ (.tail _ (.tail _ (.tail _ (.tail _ (.tail _ (.tail _ (.tail _ (.tail _ (.tail _ (.tail _ (.head _)))))))))))) (SL.cons (h_139.ok _ (.tail _ (.tail _ (.tail _ (.tail _ (.tail _ (.tail _ (.tail _ (.tail _ (.tail _ (.tail _ (.tail _ (.head _))))))))))))) (SL.cons (h_139.ok _ (.tail _ (.tail _ (.tail _ (.tail _ (.tail _ (.tail _ (.tail _ (.tail _ (.tail _ (.tail _ (.tail _ (.tail _ (.head _)))))))))))))) (SL.cons (h_139.ok _ (.tail _ (.tail _ (.tail _ (.tail _ (.tail _ (.tail _ (.tail _ (.tail _ (.tail _ (.tail _ (.tail _ (.tail _ (.tail _ (.tail _ (.head _)))))))))))))))) (SL.nil _ _)))))))))))), ?_⟩
    refine WT.nil ?_
    refine thn_n ?_
    refine WP.ret ?_
    refine ret_of Try.results27 (RV.cell rfl (h_139.loadA (cs := (ovr (List.replicate 128 (0 : UInt8)) 0 ([([114, 101, 99] : List UInt8) ++ List.replicate (8 - 3) (0 : UInt8), leN 8 pc.toNat, (((((((([] : List UInt8) ++ (leN 8 (rg.getD 0 0).toNat)) ++ (leN 8 (rg.getD 1 0).toNat)) ++ (leN 8 (rg.getD 2 0).toNat)) ++ (leN 8 (rg.getD 3 0).toNat)) ++ (leN 8 (rg.getD 4 0).toNat)) ++ (leN 8 (rg.getD 5 0).toNat)) ++ (leN 8 (rg.getD 6 0).toNat)) ++ (leN 8 (rg.getD 7 0).toNat), ([0] : List UInt8)]).flatten).map vu8) Try.isAgg53 Try.sizeOf53 (.tail _ (.tail _ (.tail _ (.tail _ (.tail _ (.tail _ (.tail _ (.tail _ (.tail _ (.tail _ (.tail _ (.tail _ (.tail _ (.head _)))))))))))))) rfl rfl) RV.nil) ?_
    exact ⟨by rw [recB, c_91]; rfl, h_139.chgS⟩
end Go.Proofs.Ythkcekgemanfdaa
