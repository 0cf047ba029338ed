/- Rules for walks and contracts of the functions that the law reaches, one behind the other. Conditions: none beyond what each theorem states. -/
import Derived.Test.YtbhllplbbkmndaaZ4TreeMeans
set_option linter.unusedVariables false
set_option linter.unusedSimpArgs false
set_option linter.unusedSectionVars false
namespace Go.Orc
open Go.Vc Go.RowKit
def nd (l : List UInt8) (p j : Nat) : List UInt8 := (l.drop (p + 32 * j)).take 32
def ndQ (i : Nat) (a b : List UInt8) : Qn := (1, List.replicate 32 0, 5, [leN 8 (UInt64.ofNat i).toNat, a, b].flatten)
def noQ (k : Nat) : Qn := (1, List.replicate 32 0, 6, leN 8 (UInt64.ofNat k).toNat)
theorem upQ_nd {w : Nat} {x : Nat → List UInt8} : upQ w (x w) (x (w ^^^ 1)) = ndQ (w / 2) (x (2 * (w / 2))) (x (2 * (w / 2) + 1)) := by
  have h := xor_1 w
  rw [upQ, ndQ]
  by_cases e : w % 2 = 1
  · rw [if_pos e, show w ^^^ 1 = 2 * (w / 2) by omega, show x w = x (2 * (w / 2) + 1) by congr 1; omega]
  · rw [if_neg e, show w ^^^ 1 = 2 * (w / 2) + 1 by omega, show x w = x (2 * (w / 2)) by congr 1; omega]
theorem flat3_inj {a b c a' b' c' : List UInt8} (ha : a.length = a'.length) (hb : b.length = b'.length) (h : [a, b, c].flatten = [a', b', c'].flatten) : b = b' ∧ c = c' := by
  simp only [List.flatten_cons, List.flatten_nil, List.append_nil] at h
  obtain ⟨_, h2⟩ := List.append_inj h ha
  exact List.append_inj h2 hb
theorem upQ_inj {w : Nat} {d d' s : List UInt8} (hd : d.length = d'.length) (h : upQ w d s = upQ w d' s) : d = d' := by
  unfold upQ at h
  split at h
  · have h2 := congrArg (fun q : Qn => q.2.2.2) h
    exact (flat3_inj rfl rfl h2).2
  · have h2 := congrArg (fun q : Qn => q.2.2.2) h
    exact (flat3_inj rfl hd h2).1
section
variable {l : List UInt8} {p pg mn : Nat} {D : Nat → List UInt8}
theorem ovr_at {c : List UInt8} {i n : Nat} (hc : c.length = n) (hi : i ≤ l.length) : ((ovr l i c).drop i).take n = c := by
  have e : (l.take i).length = i := by rw [List.length_take]; omega
  rw [ovr, List.drop_append, List.drop_of_length_le (by omega), List.nil_append, e, Nat.sub_self, List.drop_zero, List.take_append_of_le_length (by omega), List.take_of_length_le (by omega)]
theorem upM_off (hl : l.length = 128 * mn) (hw : p + 8192 ≤ 128 * mn) (hp : pg < 128) (hD : ∀ k, (D k).length = 32) {j : Nat} (hj : j ≤ 255) : ∀ {k}, (∀ i, i < k → (128 + pg) / 2 ^ i ≠ j) → nd (upM l p pg D k) p j = nd l p j
  | 0, _ => rfl
  | k + 1, h => by
    have h1 := half_le (128 + pg) k
    have h2 := h k (by omega)
    have hL := upM_len hl hw hp hD k
    rw [← upM_off hl hw hp hD hj (k := k) fun i hi => h i (by omega)]
    unfold nd
    rw [upM]
    rcases Nat.lt_or_gt_of_ne h2 with h3 | h3
    · exact ovr_win_gt (by rw [hD]; omega) (by rw [hD, hL]; omega)
    · exact ovr_win_lt (by omega) (by rw [hD, hL]; omega)
theorem upM_on (hl : l.length = 128 * mn) (hw : p + 8192 ≤ 128 * mn) (hp : pg < 128) (hD : ∀ k, (D k).length = 32) {i : Nat} : ∀ {k}, i < k → k ≤ 7 → nd (upM l p pg D k) p ((128 + pg) / 2 ^ i) = D i
  | k + 1, h, hk => by
    have h1 := half_le (128 + pg) k
    have hL := upM_len hl hw hp hD k
    rcases Nat.lt_or_eq_of_le (Nat.le_of_lt_succ h) with h3 | h3
    · have h2 := half_le (128 + pg) i
      have h4 := way_mul (x := 128 + pg) h3
      have h5 := half_pos (pg := pg) (k := k) (by omega)
      rw [← upM_on hl hw hp hD h3 (by omega)]
      unfold nd
      rw [upM]
      exact ovr_win_gt (by rw [hD]; omega) (by rw [hD, hL]; omega)
    · subst h3
      unfold nd
      rw [upM]
      exact ovr_at (hD i) (by rw [hL]; omega)
end
structure TInv (id : Bool) (df : List UInt8) (dn gn p pg i u : Nat) (lg : Lg) (l rt lt : List UInt8) : Prop where
  hl : l.length = 128 * gn
  hr : rt.length = 32
  hlt : lt.length = 32
  h32 : ok32 lg
  hu : u ≤ 256 + 7 * i
  hg : lg.length ≤ 256 + 7 * i
  hA : ∀ j, 1 ≤ j → j ≤ 127 → lk (ndQ j (nd l p (2 * j)) (nd l p (2 * j + 1))) lg = some (if j = 1 then rt else nd l p j)
  hB : nd l p (128 + pg) = lt
  hD : id = true → DL df dn u lg
section
variable {id : Bool} {df : List UInt8} {dn gn p pg i u : Nat} {lg : Lg} {l rt lt : List UInt8}
theorem upS_DL (h : DL df dn u lg) {l lf : List UInt8} : ∀ k, DL df dn (upS true df dn l p pg u lg lf k).1 (upS true df dn l p pg u lg lf k).2.1
  | 0 => h
  | k + 1 => DL.an (upS_DL h k)
theorem upS_lk0 {q : Qn} {d lf : List UInt8} (h : lk q lg = some d) (m : Nat) : lk q (upS id df dn l p pg u lg lf m).2.1 = some d := upS_lk (k := 0) h (Nat.zero_le m)
theorem TInv.skip (h : TInv id df dn gn p pg i u lg l rt lt) : TInv id df dn gn p pg (i + 1) u lg l rt lt := ⟨h.hl, h.hr, h.hlt, h.h32, by have := h.hu; omega, by have := h.hg; omega, h.hA, h.hB, h.hD⟩
theorem TInv.way (h : TInv id df dn gn p pg i u lg l rt lt) (hp : pg < 128) : ∀ {k}, k ≤ 7 → upS id df dn l p pg u lg lt k = (u, lg, if k = 7 then rt else nd l p ((128 + pg) / 2 ^ k))
  | 0, _ => by rw [upS, if_neg (by decide), Nat.pow_zero, Nat.div_one, h.hB]
  | k + 1, hk => by
    have h1 := half_two (pg := pg) (k := k) (by omega)
    have h2 := half_le (128 + pg) k
    have h3 := half_s (128 + pg) k
    have hq : upQ ((128 + pg) / 2 ^ k) (nd l p ((128 + pg) / 2 ^ k)) (sbL l p ((128 + pg) / 2 ^ k)) = _ := upQ_nd (x := nd l p)
    have ha := h.hA ((128 + pg) / 2 ^ k / 2) (by omega) (by omega)
    rw [← hq] at ha
    have e : (if (128 + pg) / 2 ^ k / 2 = 1 then rt else nd l p ((128 + pg) / 2 ^ k / 2)) = if k + 1 = 7 then rt else nd l p ((128 + pg) / 2 ^ (k + 1)) := by
      rw [h3]
      by_cases e7 : k + 1 = 7
      · have h7 := half_7 hp
        rw [e7, h7] at h3
        rw [if_pos e7, if_pos h3.symm]
      · have h4 := half_two (pg := pg) (k := k + 1) (by omega)
        rw [if_neg e7, if_neg (by omega)]
    rw [e] at ha
    rw [upS, h.way hp (k := k) (by omega)]
    simp only
    rw [if_neg (show ¬ k = 7 by omega), anU_lk ha, anL_lk ha, anD_lk ha]
theorem TInv.is (h : TInv id df dn gn p pg i u lg l rt lt) (hp : pg < 128) : upS id df dn l p pg u lg lt 7 = (u, lg, rt) := by
  rw [h.way hp (Nat.le_refl 7), if_pos rfl]
theorem TInv.ne {oth : List UInt8} (h : TInv true df dn gn p pg i u lg l rt lt) (hp : pg < 128) (ha : Apt df dn) (hdf : df.length = 32 * dn) (hi : i ≤ 100) (ho : oth.length = 32) (hne : oth ≠ lt) : ∀ {k}, k ≤ 7 → (upS true df dn l p pg u lg oth k).2.2 ≠ (upS true df dn l p pg u lg lt k).2.2
  | 0, _ => hne
  | k + 1, hk => by
    intro he
    have ih := h.ne hp ha hdf hi ho hne (k := k) (by omega)
    have hD := upS_DL (p := p) (pg := pg) (h.hD rfl) (l := l) (lf := oth) (k + 1)
    have hL := upS_l (id := true) (df := df) (dn := dn) (l := l) (p := p) (pg := pg) (u := u) (lg := lg) (lf := oth) (k + 1)
    have hg := h.hg
    have l1 : lk (upQ ((128 + pg) / 2 ^ k) (upS true df dn l p pg u lg oth k).2.2 (sbL l p ((128 + pg) / 2 ^ k))) (upS true df dn l p pg u lg oth (k + 1)).2.1 = some (upS true df dn l p pg u lg oth (k + 1)).2.2 := lk_self
    have l2 : lk (upQ ((128 + pg) / 2 ^ k) (upS true df dn l p pg u lg lt k).2.2 (sbL l p ((128 + pg) / 2 ^ k))) (upS true df dn l p pg u lg lt (k + 1)).2.1 = some (upS true df dn l p pg u lg lt (k + 1)).2.2 := lk_self
    rw [show (upS true df dn l p pg u lg lt (k + 1)).2.1 = lg by rw [h.way hp (by omega)]] at l2
    have l3 := upS_lk0 (id := true) (df := df) (dn := dn) (l := l) (p := p) (pg := pg) (u := u) (lf := oth) l2 (k + 1)
    refine lk_ne ha hD (by omega) l1 l3 (fun hq => ih ?_) he
    exact upQ_inj (by rw [upS_len hdf h.h32 ho, upS_len hdf h.h32 h.hlt]) hq
theorem TInv.not {oth : List UInt8} (h : TInv true df dn gn p pg i u lg l rt lt) (hp : pg < 128) (ha : Apt df dn) (hdf : df.length = 32 * dn) (hi : i ≤ 100) (ho : oth.length = 32) : (upS true df dn l p pg u lg oth 7).2.2 = rt ↔ oth = lt := by
  have e := h.is hp
  constructor
  · intro hq
    refine Classical.byContradiction fun hne => h.ne hp ha hdf hi ho hne (Nat.le_refl 7) ?_
    rw [e]; exact hq
  · rintro rfl
    rw [e]
theorem TInv.set {q : Nat} {lf : List UInt8} (h : TInv id df dn gn p pg i u lg l rt lt) (hp : pg < 128) (hq : q < 128) (hw : p + 8192 ≤ 128 * gn) (hdf : df.length = 32 * dn) (hf : lf.length = 32) :
    TInv id df dn gn p pg (i + 1) (upS id df dn l p q u lg lf 7).1 (upS id df dn l p q u lg lf 7).2.1 (upM l p q (upD id df dn l p q u lg lf) 7) (upS id df dn l p q u lg lf 7).2.2 (if q = pg then lf else lt) := by
  have hD := upD_len (id := id) (dn := dn) (l := l) (p := p) (pg := q) (u := u) (lg := lg) (lf := lf) hdf h.h32 hf
  have hu := upS_u (id := id) (df := df) (dn := dn) (l := l) (p := p) (pg := q) (u := u) (lg := lg) (lf := lf) 7
  have hL := upS_l (id := id) (df := df) (dn := dn) (l := l) (p := p) (pg := q) (u := u) (lg := lg) (lf := lf) 7
  have on := fun {i k : Nat} (h1 : i < k) (h2 : k ≤ 7) => upM_on h.hl hw hq hD (i := i) (k := k) h1 h2
  have off := fun {j : Nat} (hj : j ≤ 255) (h2 : ∀ i, i < 7 → (128 + q) / 2 ^ i ≠ j) => upM_off h.hl hw hq hD hj (k := 7) h2
  have h7 := half_7 hq
  refine ⟨upM_len h.hl hw hq hD 7, upS_len hdf h.h32 hf 7, by split; exact hf; exact h.hlt, upS_32 hdf h.h32 7, by have := h.hu; omega, by have := h.hg; omega, fun j h1 h2 => ?_, ?_, fun e => by subst e; exact upS_DL (h.hD rfl) 7⟩
  · by_cases hk : ∃ k, k ≤ 6 ∧ (128 + q) / 2 ^ k / 2 = j
    · obtain ⟨k, hk6, rfl⟩ := hk
      have s1 := half_s (128 + q) k
      have s2 := half_le (128 + q) k
      have s3 := half_two (pg := q) hk6
      have hx : (128 + q) / 2 ^ k ^^^ 1 ≤ 255 := xor_lt (by omega)
      rw [← upQ_nd (x := nd (upM l p q (upD id df dn l p q u lg lf) 7) p), on (i := k) (k := 7) (by omega) (Nat.le_refl 7), off hx ?_]
      · have l1 : lk (upQ ((128 + q) / 2 ^ k) (upS id df dn l p q u lg lf k).2.2 (sbL l p ((128 + q) / 2 ^ k))) (upS id df dn l p q u lg lf (k + 1)).2.1 = some (upS id df dn l p q u lg lf (k + 1)).2.2 := lk_self
        have l2 := upS_lk l1 (m := 7) (by omega)
        refine l2.trans (congrArg some ?_)
        by_cases e7 : k = 6
        · subst e7
          rw [if_pos (by omega)]
        · have h4 := half_two (pg := q) (k := k + 1) (by omega)
          rw [if_neg (by omega), ← s1, on (i := k + 1) (by omega) (Nat.le_refl 7)]
          rfl
      · intro i hi he
        obtain ⟨x1, x2, x3⟩ := xor_le ((128 + q) / 2 ^ k)
        have h5 := xor_1 ((128 + q) / 2 ^ k)
        rcases Nat.lt_trichotomy i k with h6 | h6 | h6
        · have := way_mul (x := 128 + q) h6
          omega
        · subst h6; omega
        · have := way_mul (x := 128 + q) h6
          omega
    · have hoff : ∀ m, m ≤ 255 → m / 2 = j → nd (upM l p q (upD id df dn l p q u lg lf) 7) p m = nd l p m := fun m hm hmj => off hm fun i hi he => hk ⟨i, by omega, by rw [he, hmj]⟩
      rw [hoff (2 * j) (by omega) (by omega), hoff (2 * j + 1) (by omega) (by omega)]
      refine (upS_lk0 (h.hA j h1 h2) 7).trans (congrArg some ?_)
      by_cases e1 : j = 1
      · exact absurd ⟨6, Nat.le_refl 6, by have := half_s (128 + q) 6; omega⟩ hk
      · rw [if_neg e1, if_neg e1]
        refine (off (by omega) fun i hi he => hk ?_).symm
        cases i with
        | zero => rw [Nat.pow_zero, Nat.div_one] at he; omega
        | succ i => exact ⟨i, by omega, by rw [← half_s, he]⟩
  · by_cases e : q = pg
    · subst e
      rw [if_pos rfl]
      have := on (i := 0) (k := 7) (by omega) (Nat.le_refl 7)
      rw [Nat.pow_zero, Nat.div_one] at this
      exact this
    · rw [if_neg e, off (by omega) ?_]
      · exact h.hB
      · intro i hi he
        cases i with
        | zero => rw [Nat.pow_zero, Nat.div_one] at he; omega
        | succ i =>
          have h1 := way_mul (x := 128 + q) (i := 0) (k := i + 1) (by omega)
          rw [Nat.pow_zero, Nat.div_one] at h1
          omega
theorem laB_lk {q : Qn} {d : List UInt8} {k : Nat} (h : lk q (laB id df dn u lg k).2.1 = some d) : ∀ {m}, k ≤ m → lk q (laB id df dn u lg m).2.1 = some d
  | 0, hm => by
    have e : k = 0 := by omega
    subst e; exact h
  | m + 1, hm => by
    by_cases e : k = m + 1
    · subst e; exact h
    · exact lk_anL (laB_lk h (by omega))
theorem laC_lk {q : Qn} {d : List UInt8} {k : Nat} (h : lk q (laC id df dn u lg k).2.1 = some d) : ∀ {m}, k ≤ m → lk q (laC id df dn u lg m).2.1 = some d
  | 0, hm => by
    have e : k = 0 := by omega
    subst e; exact h
  | m + 1, hm => by
    by_cases e : k = m + 1
    · subst e; exact h
    · exact lk_anL (laC_lk h (by omega))
theorem laB_DL (h : DL df dn u lg) : ∀ k, DL df dn (laB true df dn u lg k).1 (laB true df dn u lg k).2.1
  | 0 => h
  | k + 1 => DL.an (laB_DL h k)
theorem laC_DL (h : DL df dn u lg) : ∀ k, DL df dn (laC true df dn u lg k).1 (laC true df dn u lg k).2.1
  | 0 => laB_DL h 128
  | k + 1 => DL.an (laC_DL h k)
theorem laB_win (h : df.length = 32 * dn) (hl : ok32 lg) {k : Nat} : ∀ {m}, k < m → ((laB id df dn u lg m).2.2.drop (32 * k)).take 32 = anD id df dn (laB id df dn u lg k).1 (laB id df dn u lg k).2.1 (noQ k)
  | m + 1, hm => by
    have e1 := laB_len (id := id) (u := u) h hl m
    have e2 := anD_len (id := id) (u := (laB id df dn u lg m).1) (q := noQ m) h (laB_32 (id := id) (u := u) h hl m)
    by_cases e : k = m
    · subst e
      rw [laB, List.drop_append, List.drop_of_length_le (by omega), List.nil_append, e1, Nat.sub_self, List.drop_zero]
      exact List.take_of_length_le (Nat.le_of_eq e2)
    · rw [laB, List.drop_append_of_le_length (by omega), List.take_append_of_le_length (by rw [List.length_drop]; omega)]
      exact laB_win h hl (by omega)
theorem laC_suf (h : df.length = 32 * dn) (hl : ok32 lg) {t : Nat} : ∀ {s x n}, (laC id df dn u lg (t + s)).2.2.drop (32 * s + x) = (laC id df dn u lg t).2.2.drop (x + 0 * n)
  | 0, x, n => by rw [Nat.mul_zero, Nat.zero_add, Nat.zero_mul, Nat.add_zero]; rfl
  | s + 1, x, n => by
    rw [← laC_suf h hl (s := s) (x := x) (n := n), show 32 * (s + 1) + x = 32 + (32 * s + x) by omega, ← List.drop_drop, show t + (s + 1) = (t + s) + 1 by omega, laC_rest h hl]
theorem TInv.lay {s : Nat} (hs : s = 126) (hl : l.length = 128 * gn) (hw : p + 8192 ≤ 128 * gn) (hp : pg < 128) (h : df.length = 32 * dn) :
    TInv id df dn gn p pg 0 (laC id df dn 0 [] (s + 1)).1 (laC id df dn 0 [] (s + 1)).2.1 (mid l (p + 64) (p + 8192) (laC id df dn 0 [] s).2.2) ((laC id df dn 0 [] (s + 1)).2.2.take 32) (anD id df dn (laC id df dn 0 [] (s + 1)).1 (laC id df dn 0 [] (s + 1)).2.1 (noQ pg)) ∧ anU id (laC id df dn 0 [] (s + 1)).1 (laC id df dn 0 [] (s + 1)).2.1 (noQ pg) = (laC id df dn 0 [] (s + 1)).1 ∧ anL id df dn (laC id df dn 0 [] (s + 1)).1 (laC id df dn 0 [] (s + 1)).2.1 (noQ pg) = (laC id df dn 0 [] (s + 1)).2.1 := by
  have hC := laC_len (id := id) (u := 0) h okN s
  have hu := laC_u (id := id) (df := df) (dn := dn) (u := 0) (lg := []) (s + 1)
  have hL := laC_l (id := id) (df := df) (dn := dn) (u := 0) (lg := []) (s + 1)
  have h32 := laC_32 (id := id) (u := 0) h okN (s + 1)
  rw [List.length_nil] at hL
  have hlk : lk (noQ pg) (laC id df dn 0 [] (s + 1)).2.1 = some (anD id df dn (laB id df dn 0 [] pg).1 (laB id df dn 0 [] pg).2.1 (noQ pg)) :=
    laC_lk (k := 0) (laB_lk (k := pg + 1) lk_self (by omega)) (Nat.zero_le _)
  have hn : ∀ j, 2 ≤ j → j ≤ 255 → nd (mid l (p + 64) (p + 8192) (laC id df dn 0 [] s).2.2) p j = ((laC id df dn 0 [] s).2.2.drop (32 * (j - 2))).take 32 := fun j h1 h2 => mid_get hl (by omega) hw (by omega) (by omega)
  refine ⟨⟨mid_len hl (by omega) hw, by rw [List.length_take, laC_len h okN]; omega, anD_len h h32, h32, by omega, by omega, fun j h1 h2 => ?_, ?_, fun e => by subst e; exact laC_DL DL.nil _⟩, anU_lk hlk, anL_lk hlk⟩
  · rw [hn (2 * j) (by omega) (by omega), hn (2 * j + 1) (by omega) (by omega)]
    have l1 : lk (laQ (127 - j) (laC id df dn 0 [] (127 - j)).2.2) (laC id df dn 0 [] (127 - j + 1)).2.1 = some (anD id df dn (laC id df dn 0 [] (127 - j)).1 (laC id df dn 0 [] (127 - j)).2.1 (laQ (127 - j) (laC id df dn 0 [] (127 - j)).2.2)) := lk_self
    have l2 := laC_lk l1 (m := s + 1) (by omega)
    rw [← laC_root h okN] at l2
    have e0 : 127 - j + (j - 1) = s := by omega
    have e1 := laC_suf (id := id) (dn := dn) (u := 0) h okN (t := 127 - j) (s := j - 1) (x := 32 * (j - 1)) (n := 0)
    have e2 := laC_suf (id := id) (dn := dn) (u := 0) h okN (t := 127 - j) (s := j - 1) (x := 32 * j) (n := 0)
    rw [e0, Nat.zero_mul, Nat.add_zero] at e1 e2
    have eq : laQ (127 - j) (laC id df dn 0 [] (127 - j)).2.2 = ndQ j (((laC id df dn 0 [] s).2.2.drop (32 * (2 * j - 2))).take 32) (((laC id df dn 0 [] s).2.2.drop (32 * (2 * j + 1 - 2))).take 32) := by
      rw [laQ, ndQ, show 127 - (127 - j) = j by omega, show 126 - (127 - j) = j - 1 by omega, ← e1, ← e2, show 32 * (j - 1) + 32 * (j - 1) = 32 * (2 * j - 2) by omega, show 32 * (j - 1) + 32 * j = 32 * (2 * j + 1 - 2) by omega]
    rw [← eq]
    refine l2.trans (congrArg some ?_)
    by_cases ej : j = 1
    · subst ej hs
      rw [if_pos rfl]
    · have e3 := laC_suf (id := id) (dn := dn) (u := 0) h okN (t := 127 - j + 1) (s := j - 2) (x := 0) (n := 0)
      rw [show 127 - j + 1 + (j - 2) = s by omega, Nat.add_zero, Nat.zero_mul, List.drop_zero] at e3
      rw [if_neg ej, hn j (by omega) (by omega), e3]
  · rw [hn (128 + pg) (by omega) (by omega), anD_lk hlk]
    have e3 := laC_suf (id := id) (dn := dn) (u := 0) h okN (t := 0) (s := s) (x := 32 * pg) (n := 0)
    rw [Nat.zero_add, Nat.zero_mul, Nat.add_zero] at e3
    rw [show 32 * (128 + pg - 2) = 32 * s + 32 * pg by omega, e3]
    exact laB_win h okN hp
end
end Go.Orc

namespace Go.Proofs.Ytbhllplbbkmndaa
open Go.Proofs.Try
open Go.Vc Go.Orc Go.Sh Go.RowKit
set_option maxRecDepth 20000
theorem ce46 : Try.prog.cellsOf 46 = 33 := by kernel_rfl
abbrev Lf := Int × List UInt8
def lfC (r : Lf) : List Value := flat [(1, [vi r.1]), (32, r.2.map vu8)]
def okLf (r : Lf) : Prop := r.2.length = 32 ∧ -9223372036854775808 ≤ r.1 ∧ r.1 < 9223372036854775808
def lsC (rs : List Lf) : List Value := (rs.map lfC).flatten
def zLf : Lf := (0, [])
theorem lfC_len {r : Lf} (h : okLf r) : (lfC r).length = 33 := by simp [lfC, flat, h.1]
theorem lsC_len {rs : List Lf} (h : ∀ r ∈ rs, okLf r) : (lsC rs).length = rs.length * 33 := flat_len fun r hr => lfC_len (h r hr)
theorem lsC_at {rs : List Lf} {k : Nat} (h : ∀ r ∈ rs, okLf r) (hk : k < rs.length) : ((lsC rs).drop (k * 33)).take 33 = lfC (rs.getD k zLf) := flat_at (fun r hr => lfC_len (h r hr)) hk
theorem lsC_pg {rs : List Lf} {k : Nat} (h : ∀ r ∈ rs, okLf r) (hk : k < rs.length) : (lsC rs)[k * 33]? = some (vi (rs.getD k zLf).1) := by
 have e := congrArg (fun l : List Value => l[0]?) (lsC_at h hk)
 simpa [List.getElem?_take, List.getElem?_drop, lfC, flat] using e
theorem lsC_pgN {rs : List Lf} {k : Nat} (h : ∀ r ∈ rs, okLf r) (hk : k < rs.length) (h0 : 0 ≤ (rs.getD k zLf).1) : (lsC rs)[k * 33]? = some (vi (((rs.getD k zLf).1.toNat : Nat) : Int)) := by
 rw [Int.toNat_of_nonneg h0]; exact lsC_pg h hk
theorem lsC_lf {rs : List Lf} {k : Nat} (h : ∀ r ∈ rs, okLf r) (hk : k < rs.length) : ((lsC rs).drop (k * 33 + 1)).take 32 = (rs.getD k zLf).2.map vu8 := by
 have e := congrArg (fun l : List Value => l.drop 1) (lsC_at h hk)
 simp only [List.drop_take, List.drop_drop] at e
 refine e.trans ?_
 simp [lfC, flat]
theorem trLf (W : World) {cs : List Value} (h : Tr Try.prog W 29 cs) : ∃ a n cap, ∃ rs : List Lf, cs = [.slice a n cap] ∧ rs.length = n ∧ n ≤ cap ∧ cap ≤ maxLen ∧ (∀ r ∈ rs, okLf r) ∧ (Ent.view a (lsC rs)).ok W.heap.size W := by
 obtain ⟨a, n, cap, els, e1, e2, e3, e4, e5, e6⟩ := Tr.slG underlying29 ce46 (by decide) h
 obtain ⟨rs, hrs, hok⟩ := els_of (f := lfC) (p := okLf) (els := els) (fun y hy => by
  have tr := (e5 y hy).2
  have tl_z := Tr.struct (l := [(1, 3), (32, 23)]) underlying46 ce46 (by kernel_rfl) tr
  obtain ⟨a_z0, r_z0, rfl, n_z0, t_z0, tl_z0⟩ := tl_z
  obtain ⟨z0, rfl, b_z0⟩ := Tr.i64 underlying3 t_z0
  obtain ⟨a_z1, r_z1, rfl, n_z1, t_z1, tl_z1⟩ := tl_z0
  obtain ⟨z1, rfl, l_z1⟩ := Tr.arr8 underlying23 ce23 ce5 underlying5 t_z1
  obtain rfl := tl_z1
  exact ⟨(z0, z1), by simp [lfC, flat], l_z1, by omega, by omega⟩)
 subst hrs
 exact ⟨a, n, cap, rs, e1, by rw [← e2, List.length_map], e3, e4, hok, e6⟩
theorem tNotI {id : Bool} {df : List UInt8} {dn gn p pg i u : Nat} {lg : Lg} {l rt lt oth : List UInt8} (hid : id = true) (h : TInv id df dn gn p pg i u lg l rt lt) (hp : pg < 128) (ha : Apt df dn) (hdf : df.length = 32 * dn) (hi : i ≤ 100) (ho : oth.length = 32) : (upS id df dn l p pg u lg oth 7).2.2 = rt ↔ oth = lt := by
 subst hid; exact h.not hp ha hdf hi ho

theorem c_distinct15 (a : Option Addr) (n cap : Nat) (df : List UInt8) (hl : df.length = 32 * n) (hn : n ≤ 1000000) (w : World) (hv : View w a (df.map vu8)) :
  Cs Try.prog 14 [(.slice a n cap)].toArray w (fun v w1 => ∃ b, v = .bool b ∧ (b = true → Apt df n) ∧ Chg w w1 []) := by
 refine Cs.of (n := 31) (args := [(.slice a n cap)]) Try.func14 rfl rfl rfl ?_
 have h_0 := HP.init w
 have h_00 := h_0.old (View.arg hv) (fun f hf => by cases hf)
 refine WP.seq (WP.reg ?_)
 refine qA (.bool false) rfl rfl ?_
 refine WL.nil (thn_n (WP.seq (WP.seq (WP.reg ?_))))
 refine qA (vi 0) rfl rfl ?_
 refine WL.nil (thn_n (WP.block ?_))
 refine WP.loopG (G := Nat) [2, 3, 4, 5, 6, 7, 8, 9, 10, 11, 12, 13, 14, 15, 16, 17, 18, 19, 20, 21, 22, 23, 24, 25, 26, 27, 28, 29, 30] (fun i => [(3, (vn i))]) (fun i m w1 => HP w w1 [.view a (df.map vu8)] ∧ (i ≤ n) ∧ (∀ j, j < i → (∀ k, k < j → dr df k ≠ dr df j) ∧ df.getD (j * 32 + 31) 0 ≠ 1) ∧ m = n + 1 - i) ⟨0, _, ⟨rfl, trivial⟩, h_00, Nat.zero_le _, (fun j hj => by omega), rfl⟩ ?_
 rintro i m_3 J_4 w_1 ⟨h_2, hin, hA, rfl⟩
 refine WP.seq (WP.seq (WP.reg ?_))
 refine qM (vn i) rfl rfl (qM (.slice a n cap) rfl rfl (qV rfl (R.lenS (a := a) (m := n) rfl rfl underlying24) (qV rfl (R.bin rfl rfl (bi_lss (r := decide ((((i : Nat) : Int) : Int) < ((n : Nat) : Int))) rfl)) ?_)))
 refine WL.nil (thn_n ?_)
 refine WP.cond (b := decide ((((i : Nat) : Int) : Int) < ((n : Nat) : Int))) rfl (fun c_5 => ?_) (fun c_5 => ?_)
 ·have p_6 := of_decide_eq_true c_5
  refine WP.skip (thn_n (WP.seq (WP.block (WP.seq (WP.seq (WP.reg ?_))))))
  refine qA (vi 0) rfl rfl ?_
  refine WL.nil (thn_n (WP.block ?_))
  refine WP.loopG (G := Nat) [2, 4, 11, 12, 13, 14, 15, 16, 17, 18, 19, 20, 21, 22, 23, 24] (fun q => [(4, (vn q))]) (fun q m w1 => HP w w1 [.view a (df.map vu8)] ∧ (q ≤ i) ∧ (∀ k, k < q → dr df k ≠ dr df i) ∧ m = i + 1 - q) ⟨0, _, ⟨rfl, trivial⟩, h_2, Nat.zero_le _, (fun j hj => by omega), rfl⟩ ?_
  rintro q m_9 J_10 w_7 ⟨h_8, hqi, hB, rfl⟩
  refine WP.seq (WP.seq (WP.reg ?_))
  refine qM (vn q) rfl rfl (qM (vn i) rfl rfl (qV rfl (R.bin rfl rfl (bi_lss (r := decide ((((q : Nat) : Int) : Int) < ((i : Nat) : Int))) rfl)) ?_))
  refine WL.nil (thn_n ?_)
  refine WP.cond (b := decide ((((q : Nat) : Int) : Int) < ((i : Nat) : Int))) rfl (fun c_11 => ?_) (fun c_11 => ?_)
  ·have p_12 := of_decide_eq_true c_11
   refine WP.skip (thn_n (WP.seq (WP.block (WP.seq ?_))))
   refine WP.drawT (SL w.heap.size [.view a (df.map vu8)]) (.q 0 (.q 1 (.q 2 (.q 3 (.q 4 (.q 5 (.q 6 (.q 7 (.q 8 .nil))))))))) (by kernel_rfl) (by kernel_rfl) rfl (by kernel_rfl) (fun w_13 hc_15 => (SL.cons ((h_8.same hc_15).ok _ M0) (SL.nil _ _))) (fun w_13 hc_15 => ?_)
   have h_14 := h_8.same hc_15
   refine qT rfl rfl (fun wq hS => R.move (v := (.slice a n cap)) rfl) ?_
   refine qT rfl rfl (fun wq hS => R.move (v := (vn q)) rfl) ?_
   refine qT rfl rfl (fun wq hS => R.indexS (a := a) (i := q) (off := q * 32) (xs := df.map vu8) rfl rfl rfl (by omega) (viewV (hS _ M0)) (lt_len (K := 32 * n) (len_map hl) (by omega)) underlying24 sizeOf23 rfl) ?_
   refine qT rfl rfl (fun wq hS => R.loadGA (a := a) (i := q * 32) (xs := df.map vu8) (cs := (((df).drop (q * 32)).take 32).map vu8) rfl (viewV (hS _ M0)) isAgg23 sizeOf23 (by rw [List.map_take, List.map_drop]) (len_map (subLen (K := 32 * n) hl (by omega) : List.length (((df).drop (q * 32)).take 32) = 32)) (by decide)) ?_
   refine qT rfl rfl (fun wq hS => R.move (v := (.slice a n cap)) rfl) ?_
   refine qT rfl rfl (fun wq hS => R.move (v := (vn i)) rfl) ?_
   refine qT rfl rfl (fun wq hS => R.indexS (a := a) (i := i) (off := i * 32) (xs := df.map vu8) rfl rfl rfl (by omega) (viewV (hS _ M0)) (lt_len (K := 32 * n) (len_map hl) (by omega)) underlying24 sizeOf23 rfl) ?_
   refine qT rfl rfl (fun wq hS => R.loadGA (a := a) (i := i * 32) (xs := df.map vu8) (cs := (((df).drop (i * 32)).take 32).map vu8) rfl (viewV (hS _ M0)) isAgg23 sizeOf23 (by rw [List.map_take, List.map_drop]) (len_map (subLen (K := 32 * n) hl (by omega) : List.length (((df).drop (i * 32)).take 32) = 32)) (by decide)) ?_
   refine qT rfl rfl (fun wq hS => R.eqA (xs := (((df).drop (q * 32)).take 32).map vu8) (ys := (((df).drop (i * 32)).take 32).map vu8) (r := decide (((df).drop (q * 32)).take 32 = ((df).drop (i * 32)).take 32)) rfl rfl eqGuardType23 kt23 (by decide) ag23 (Typ.u8s underlying23 ce23 underlying5 ce5 (subLen (K := 32 * n) hl (by omega) : List.length (((df).drop (q * 32)).take 32) = 32)) (Typ.u8s underlying23 ce23 underlying5 ce5 (subLen (K := 32 * n) hl (by omega) : List.length (((df).drop (i * 32)).take 32) = 32)) (map_inj_u8.trans (decT _))) ?_
   refine WT.nil (thn_n ?_)
   refine WP.cond (b := decide (((df).drop (q * 32)).take 32 = ((df).drop (i * 32)).take 32)) rfl (fun c_16 => ?_) (fun c_16 => ?_)
   ·have p_17 := of_decide_eq_true c_16
    refine WP.seq (WP.reg ?_)
    refine qA (.bool false) rfl rfl ?_
    refine WL.nil (thn_n (WP.ret (inb_r (thn_r (thn_r (inb_r (thn_r (inb_r (thn_r (thn_r (inb_r (thn_r ?_))))))))))))
    refine ret_of results14 (RV.tmp (v := (.bool false)) rfl RV.nil) ?_
    exact ⟨false, rfl, (fun h => by cases h), h_14.chgS⟩
   ·have p_18 := of_decide_eq_false c_16
    refine WP.skip (inb_n (thn_n (WP.reg ?_)))
    refine qM (vn q) rfl rfl (qV rfl (R.bin rfl rfl (bi_add (c := ((q + 1 : Nat) : Int)) (by omega) (by omega))) (qA (vn (q + 1)) rfl rfl ?_))
    refine WL.nil (thn_n ?_)
    exact ⟨q + 1, _, (by omega), (Ag.upd rfl (U2 rfl rfl (U4 rfl rfl rfl rfl (U4 rfl rfl rfl rfl (U4 rfl rfl rfl rfl (Ag.updL rfl (Ag.mix _ _ _))))))), ⟨rfl, trivial⟩, h_14, (by omega), (fun j hj => (Nat.lt_or_eq_of_le (Nat.le_of_lt_succ hj)).elim (fun e => hB j e) (fun e => by rw [e]; exact p_18)), rfl⟩
  ·have p_19 := of_decide_eq_false c_11
   refine WP.exit (thn_x (thn_x (inb_hit (thn_n (WP.seq (WP.reg ?_))))))
   refine qM (.slice a n cap) rfl rfl (qM (vn i) rfl rfl (qV rfl (R.indexS (a := a) (i := i) (off := i * 32) (xs := df.map vu8) rfl rfl rfl (by omega) (viewV (h_8.ok _ M0)) (lt_len (K := 32 * n) (len_map hl) (by omega)) underlying24 sizeOf23 rfl) (qV rfl (R.indexG (a := a) (j := i * 32) (i := 31) (off' := i * 32 + 31) rfl rfl rfl (by decide) underlying23 sizeOf5 rfl) (qV rfl (R.loadG rfl (viewV (h_8.ok _ M0)) isAgg5 (get_u8 (lt_len (K := 32 * n) hl (by omega)))) (qV rfl (R.bin (v := (.bool (decide ((df.getD (i * 32 + 31) 0 : UInt8) = 1)))) rfl rfl (b8_eql (df.getD (i * 32 + 31) 0) 1 (r := decide ((df.getD (i * 32 + 31) 0 : UInt8) = 1)) rfl)) ?_)))))
   refine WL.nil (thn_n ?_)
   refine WP.cond (b := decide ((df.getD (i * 32 + 31) 0 : UInt8) = 1)) rfl (fun c_20 => ?_) (fun c_20 => ?_)
   ·have p_21 := of_decide_eq_true c_20
    refine WP.seq (WP.reg ?_)
    refine qA (.bool false) rfl rfl ?_
    refine WL.nil (thn_n (WP.ret (inb_r (thn_r (thn_r (inb_r (thn_r ?_)))))))
    refine ret_of results14 (RV.tmp (v := (.bool false)) rfl RV.nil) ?_
    exact ⟨false, rfl, (fun h => by cases h), h_8.chgS⟩
   ·have p_22 := of_decide_eq_false c_20
    refine WP.skip (inb_n (thn_n (WP.reg ?_)))
    refine qM (vn i) rfl rfl (qV rfl (R.bin rfl rfl (bi_add (c := ((i + 1 : Nat) : Int)) (by omega) (by omega))) (qA (vn (i + 1)) rfl rfl ?_))
    refine WL.nil (thn_n ?_)
    exact ⟨i + 1, _, (by omega), (U4 rfl rfl rfl rfl (U4 rfl rfl rfl rfl (U4 rfl rfl rfl rfl (Ag.updL rfl (Ag.trans (Ag.sub rfl (Ag.mix _ _ _)) (Ag.upd rfl (Ag.upd rfl (Ag.upd rfl (Ag.upd rfl (Ag.upd rfl (Ag.updL rfl (Ag.mix _ _ _)))))))))))), ⟨rfl, trivial⟩, h_8, (by omega), (fun j hj => (Nat.lt_or_eq_of_le (Nat.le_of_lt_succ hj)).elim (fun e => hA j e) (fun e => by rw [e]; exact ⟨fun q hq => hB q (by omega), p_22⟩)), rfl⟩
 ·have p_23 := of_decide_eq_false c_5
  refine WP.exit (thn_x (thn_x (inb_hit (thn_n (WP.seq (WP.reg ?_))))))
  refine qA (.bool true) rfl rfl ?_
  refine WL.nil (thn_n (WP.ret ?_))
  refine ret_of results14 (RV.tmp (v := (.bool true)) rfl RV.nil) ?_
  exact ⟨_, rfl, (fun h j hj => hA j (by omega)), h_2.chgS⟩

theorem c_mayB (pg : Int) (w : World) : Cs Try.prog 6 [vi pg].toArray w (fun v w1 => v = .bool (decide (0 ≤ pg ∧ pg < 128)) ∧ Chg w w1 []) := by
 by_cases h : 0 ≤ pg ∧ pg < 128
 ·obtain ⟨q, rfl⟩ := Int.eq_ofNat_of_zero_le h.1
  rw [decide_eq_true h]; exact c_mayP_t q (by omega) w
 ·rw [decide_eq_false h]; exact c_mayP_f pg h w

theorem nidm {b : Bool} (h : (!b) = false) : b = true := by simpa using h
end Go.Proofs.Ytbhllplbbkmndaa
