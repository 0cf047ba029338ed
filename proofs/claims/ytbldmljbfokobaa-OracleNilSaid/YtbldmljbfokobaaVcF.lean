/- Integers, slices, calls, results and loops: rules for walks, proved here for every program of the model. Conditions: none beyond what each theorem states. -/
import Derived.Test.YtbldmljbfokobaaVcE
set_option linter.unusedVariables false
set_option linter.unusedSimpArgs false
namespace Go.Vc
open Go.RowKit

/-! ## int -/
theorem w64i {x : Int} (h : -9223372036854775808 ≤ x ∧ x < 9223372036854775808) : IntKind.i64.wrap x = x := by
  have h1 : (2 : Int) ^ IntKind.i64.bits = 18446744073709551616 := by decide
  have h2 : (2 : Int) ^ (IntKind.i64.bits - 1) = 9223372036854775808 := by decide
  unfold IntKind.wrap
  simp only [h1, h2, IntKind.signed, Bool.true_and, decide_eq_true_eq]
  split <;> omega

theorem bi_add {a b c : Int} (e : a + b = c) (h : -9223372036854775808 ≤ c ∧ c < 9223372036854775808) : binI .add .i64 a b = some (vi c) := by
  subst e; simp only [binI, w64i h]
theorem bi_sub {a b c : Int} (e : a - b = c) (h : -9223372036854775808 ≤ c ∧ c < 9223372036854775808) : binI .sub .i64 a b = some (vi c) := by
  subst e; simp only [binI, w64i h]
theorem bi_mul {a b c : Int} (e : a * b = c) (h : -9223372036854775808 ≤ c ∧ c < 9223372036854775808) : binI .mul .i64 a b = some (vi c) := by
  subst e; simp only [binI, w64i h]
theorem bi_quo {a b c : Int} (ha : 0 ≤ a ∧ a < 9223372036854775808) (hb : 0 < b) (e : a / b = c) : binI .quo .i64 a b = some (vi c) := by
  subst e
  have h1 : a.tdiv b = a / b := Int.tdiv_eq_ediv_of_nonneg ha.1
  have h2 : 0 ≤ a / b := Int.ediv_nonneg ha.1 (by omega)
  have h3 : a / b ≤ a := Int.ediv_le_self _ ha.1
  simp only [binI, if_neg (show ¬ b = 0 by omega), h1]
  rw [w64i (by omega)]
theorem bi_rem {a b c : Int} (ha : 0 ≤ a) (hb : 0 < b) (e : a % b = c) : binI .rem .i64 a b = some (vi c) := by
  subst e
  have h1 : a.tmod b = a % b := Int.tmod_eq_emod_of_nonneg ha
  simp only [binI, if_neg (show ¬ b = 0 by omega), h1]
theorem bi_eql {k : IntKind} {a b : Int} {r : Bool} (h : decide (a = b) = r) : binI .eql k a b = some (.bool r) := by
  subst h; simp only [binI]; congr 2
theorem bi_neq {k : IntKind} {a b : Int} {r : Bool} (h : decide (a ≠ b) = r) : binI .neq k a b = some (.bool r) := by
  subst h; simp only [binI]; congr 2; rw [Bool.eq_iff_iff]; simp
theorem bi_lss {k : IntKind} {a b : Int} {r : Bool} (h : decide (a < b) = r) : binI .lss k a b = some (.bool r) := by subst h; rfl
theorem bi_leq {k : IntKind} {a b : Int} {r : Bool} (h : decide (a ≤ b) = r) : binI .leq k a b = some (.bool r) := by subst h; rfl
theorem bi_gtr {k : IntKind} {a b : Int} {r : Bool} (h : decide (a > b) = r) : binI .gtr k a b = some (.bool r) := by subst h; rfl
theorem bi_geq {k : IntKind} {a b : Int} {r : Bool} (h : decide (a ≥ b) = r) : binI .geq k a b = some (.bool r) := by subst h; rfl

section
variable {P : Program} {n : Nat} {ops : Array Oper} {Q : Exit → Fr → World → Prop} {rest : List Oper} {F : Fr} {w w' w0 : World} {L L' : List Ent}
variable {ty : TypeId} {pos : String} {after : Array Edge} {dst : Option Tmp} {g : Option (Nat × Bool)}

/-- a binary operation, by an equation on its run -/
theorem R.binR {op : BinOp} {T T' : TypeId} {x y : Operand} {k k' : IntKind} {a b : Int} {v : Value} (hx : evO F x = .int k a) (hy : evO F y = .int k' b)
    (hv : (binOp op T (.int k a) (.int k' b)).run P w = .ok v w) : (execOp (evO F) ⟨dst, .binOp op T x y T', ty, pos, after, g⟩).run P w = .ok (.value v) w := by
  simp only [execOp, hx, hy, Sem.run_bind, run_eqGuard_int, Result.andThen_ok, hv, Sem.run_pure]

theorem run_equalBool {T : TypeId} {a b : Bool} (hT : P.underlying T = some .bool) : (Op.equal T (.bool a) (.bool b)).run P w = .ok (a == b) w := by
  have : ∀ d, (Op.equalIn (d + 1) T (.bool a) (.bool b)).run P w = .ok (a == b) w := fun d => by
    unfold Op.equalIn
    rw [Sem.run_bind, run_underlying hT]
    rfl
  exact this 9999

theorem R.eqB {T T' : TypeId} {x y : Operand} {a b c : Bool} (hx : evO F x = .bool a) (hy : evO F y = .bool b)
    (hT : P.underlying T = some .bool) (hv : (a == b) = c) : (execOp (evO F) ⟨dst, .binOp .eql T x y T', ty, pos, after, g⟩).run P w = .ok (.value (.bool c)) w := by
  subst hv
  have h1 : (eqGuard .eql T x y (.bool a) (.bool b)).run P w = .ok () w := rfl
  have h2 : (binOp .eql T (.bool a) (.bool b)).run P w = .ok (.bool (a == b)) w := by
    show (do pure (Value.bool (← Op.equal T (.bool a) (.bool b))) : Sem Value).run P w = _
    rw [Sem.run_bind, run_equalBool hT]; rfl
  simp only [execOp, hx, hy, Sem.run_bind, h1, h2, Result.andThen_ok, Sem.run_pure]

theorem R.neB {T T' : TypeId} {x y : Operand} {a b c : Bool} (hx : evO F x = .bool a) (hy : evO F y = .bool b)
    (hT : P.underlying T = some .bool) (hv : (!(a == b)) = c) : (execOp (evO F) ⟨dst, .binOp .neq T x y T', ty, pos, after, g⟩).run P w = .ok (.value (.bool c)) w := by
  subst hv
  have h1 : (eqGuard .neq T x y (.bool a) (.bool b)).run P w = .ok () w := rfl
  have h2 : (binOp .neq T (.bool a) (.bool b)).run P w = .ok (.bool (!(a == b))) w := by
    show (do pure (Value.bool (!(← Op.equal T (.bool a) (.bool b)))) : Sem Value).run P w = _
    rw [Sem.run_bind, run_equalBool hT]; rfl
  simp only [execOp, hx, hy, Sem.run_bind, h1, h2, Result.andThen_ok, Sem.run_pure]

/-- conversions between integers -/
theorem R.conv {S D : TypeId} {x : Operand} {k k' : IntKind} {a b : Int} {sd : TypeDesc} (hx : evO F x = .int k a) (hS : P.underlying S = some sd) (hD : P.underlying D = some (.int k'))
    (hb : k'.wrap a = b) : (execOp (evO F) ⟨dst, .convert S D x, ty, pos, after, g⟩).run P w = .ok (.value (.int k' b)) w := by
  subst hb
  simp [execOp, hx, convert, run_underlying hS, run_underlying hD, Conv.intToInt]

/-! len, cap -/
theorem R.lenS {x : Operand} {a : Option Addr} {m c : Nat} {T E : TypeId} {ats : Array TypeId} (hx : evO F x = .slice a m c) (hT : ats[0]? = some T) (hU : P.underlying T = some (.slice E)) : (execOp (evO F) ⟨dst, .call { callee := .builtin .len, args := #[x], argTypes := ats }, ty, pos, after, g⟩).run P w = .ok (.value (vi m)) w := by
  rw [BigFrame.execOp_builtin, BigFrame.builtin_len]
  simp [Builtin.len_, hx, hT, run_underlying hU, goInt]

theorem R.lenStr {x : Operand} {s : ByteArray} {T : TypeId} {ats : Array TypeId} (hx : evO F x = .string s) (hT : ats[0]? = some T) (hU : P.underlying T = some .string) : (execOp (evO F) ⟨dst, .call { callee := .builtin .len, args := #[x], argTypes := ats }, ty, pos, after, g⟩).run P w = .ok (.value (vi s.size)) w := by
  rw [BigFrame.execOp_builtin, BigFrame.builtin_len]
  simp [Builtin.len_, hx, hT, run_underlying hU, goInt]

theorem R.lenA {x : Operand} {m : Nat} {T E : TypeId} {ats : Array TypeId} (hT : ats[0]? = some T) (hU : P.underlying T = some (.array m E)) : (execOp (evO F) ⟨dst, .call { callee := .builtin .len, args := #[x], argTypes := ats }, ty, pos, after, g⟩).run P w = .ok (.value (vi m)) w := by
  rw [BigFrame.execOp_builtin, BigFrame.builtin_len]
  simp [Builtin.len_, hT, run_underlying hU, goInt]

theorem R.minI {x y : Operand} {k k' : IntKind} {a b : Int} {ats : Array TypeId} (hx : evO F x = .int k a) (hy : evO F y = .int k' b) {c : Int} (hc : (if b < a then b else a) = c) : (execOp (evO F) ⟨dst, .call { callee := .builtin .min, args := #[x, y], argTypes := ats }, ty, pos, after, g⟩).run P w = .ok (.value (.int k c)) w := by
  rw [BigFrame.execOp_builtin, BigFrame.builtin_min]
  subst hc
  simp [Builtin.min_, hx, hy, Builtin.min2, List.foldlM]

theorem R.maxI {x y : Operand} {k k' : IntKind} {a b : Int} {ats : Array TypeId} (hx : evO F x = .int k a) (hy : evO F y = .int k' b) {c : Int} (hc : (if b > a then b else a) = c) : (execOp (evO F) ⟨dst, .call { callee := .builtin .max, args := #[x, y], argTypes := ats }, ty, pos, after, g⟩).run P w = .ok (.value (.int k c)) w := by
  rw [BigFrame.execOp_builtin, BigFrame.builtin_max]
  subst hc
  simp [Builtin.max_, hx, hy, Builtin.max2, List.foldlM]

/-! slicing -/
inductive EvB (F : Fr) : Option Operand → Nat → Nat → Prop
  | dflt {d : Nat} : EvB F none d d
  | it {x : Operand} {k : IntKind} {i : Int} {l d : Nat} (hx : evO F x = .int k i) (hi : i = (l : Int)) : EvB F (some x) d l

theorem run_sliceBound {k : IntKind} {l y : Nat} {code : BoundsCode} (h : l ≤ y) : (Instr.sliceBound (.int k l) y code).run P w = .ok l w := by
  have h1 : (0 : Int) ≤ l ∧ (l : Int) ≤ y := by omega
  simp only [Instr.sliceBound, asIntOf, Sem.run_bind, Sem.run_pure, Result.andThen_ok, h1, and_self, if_true, Int.toNat_natCast]

theorem run_sliceBounds2 {isS : Bool} {len cap l h : Nat} {lo hi : Option Operand} (hlo : EvB F lo 0 l) (hhi : EvB F hi len h) (h1 : l ≤ h) (h2 : h ≤ cap) :
    (Instr.sliceBounds isS len cap (lo.map (evO F)) (hi.map (evO F)) none).run P w = .ok (l, h, cap) w := by
  cases hlo with
  | dflt =>
    cases hhi with
    | dflt => simp [Instr.sliceBounds]
    | it hx e => subst e; simp [Instr.sliceBounds, hx, run_sliceBound h2]
  | it hx e =>
    subst e
    cases hhi with
    | dflt => simp [Instr.sliceBounds, hx, run_sliceBound h1]
    | it hx' e => subst e; simp [Instr.sliceBounds, hx, hx', run_sliceBound h2, run_sliceBound h1]

theorem run_sliceBounds3 {isS : Bool} {len cap l h m : Nat} {lo : Option Operand} {hi mx : Operand} {k k' : IntKind} {ih im : Int} (hlo : EvB F lo 0 l) (hhi : evO F hi = .int k ih) (hmx : evO F mx = .int k' im) (eh : ih = (h : Int)) (em : im = (m : Int)) (h1 : l ≤ h) (h2 : h ≤ m) (h3 : m ≤ cap) :
    (Instr.sliceBounds isS len cap (lo.map (evO F)) (some (evO F hi)) (some (evO F mx))).run P w = .ok (l, h, m) w := by
  subst eh; subst em
  cases hlo with
  | dflt => simp [Instr.sliceBounds, hhi, hmx, run_sliceBound h3, run_sliceBound h2]
  | it hx e => subst e; simp [Instr.sliceBounds, hhi, hmx, hx, run_sliceBound h3, run_sliceBound h2, run_sliceBound h1]

/-- the base of a slice that begins at cell k (and stays where nothing is left) -/
def slA (a : Option Addr) (l m s : Nat) : Option Addr := if m = l then a else a.map (·.add (l * s))

theorem View.sl {xs : List Value} {a : Option Addr} (h : View w a xs) (l m k s : Nat) (hk : l + k ≤ m) : View w (slA a l m s) ((xs.drop (l * s)).take (k * s)) := by
  unfold slA
  split
  · have : k = 0 := by omega
    subst this; simp only [Nat.zero_mul, List.take_zero]; exact View.nil _ _
  · exact (h.drop (l * s)).take (k * s)

theorem R.sliceS {len cap l h s : Nat} {T E : TypeId} {x : Operand} {lo hi : Option Operand} {a : Option Addr} (hx : evO F x = .slice a len cap) (hlo : EvB F lo 0 l) (hhi : EvB F hi len h) (h1 : l ≤ h) (h2 : h ≤ cap)
    (hT : P.underlying T = some (.slice E)) (hs : ∀ w, (sizeOf E).run P w = .ok s w) : (execOp (evO F) ⟨dst, .slice T x lo hi none, ty, pos, after, g⟩).run P w = .ok (.value (.slice (slA a l cap s) (h - l) (cap - l))) w := by
  simp [execOp, hx, Instr.sliceAt, Instr.slice, run_underlying hT, run_sliceBounds2 hlo hhi h1 h2, hs, slA]

theorem R.sliceS3 {len cap l h m s : Nat} {T E : TypeId} {x hi mx : Operand} {lo : Option Operand} {a : Option Addr} {k k' : IntKind} {ih im : Int} (hx : evO F x = .slice a len cap) (hlo : EvB F lo 0 l) (hhi : evO F hi = .int k ih) (hmx : evO F mx = .int k' im) (eh : ih = (h : Int)) (em : im = (m : Int)) (h1 : l ≤ h) (h2 : h ≤ m) (h3 : m ≤ cap)
    (hT : P.underlying T = some (.slice E)) (hs : ∀ w, (sizeOf E).run P w = .ok s w) : (execOp (evO F) ⟨dst, .slice T x lo (some hi) (some mx), ty, pos, after, g⟩).run P w = .ok (.value (.slice (slA a l m s) (h - l) (m - l))) w := by
  have := run_sliceBounds3 (P := P) (w := w) (isS := true) (len := len) hlo hhi hmx eh em h1 h2 h3
  simp only [execOp, hx, Instr.sliceAt, Instr.slice, run_underlying hT, Sem.run_bind, Result.andThen_ok, Option.map_some, this, hs, Sem.run_pure, slA]

theorem R.sliceA {b off off' len l h s : Nat} {T E : TypeId} {x : Operand} {lo hi : Option Operand} (hx : evO F x = .pointer (some ⟨b, off, none⟩)) (hlo : EvB F lo 0 l) (hhi : EvB F hi len h) (h1 : l ≤ h) (h2 : h ≤ len)
    (hT : P.underlying T = some (.array len E)) (hs : ∀ w, (sizeOf E).run P w = .ok s w) (hoff : off' = off + (if len = l then 0 else l * s)) : (execOp (evO F) ⟨dst, .slice T x lo hi none, ty, pos, after, g⟩).run P w = .ok (.value (.slice (some ⟨b, off', none⟩) (h - l) (len - l))) w := by
  have := run_sliceBounds2 (P := P) (w := w) (isS := false) (len := len) (cap := len) hlo hhi h1 h2
  simp only [execOp, hx, Instr.sliceAt, run_underlying hT, Sem.run_bind, Result.andThen_ok, Instr.sureAddr, Sem.run_pure, Option.map_none, this, hs]
  congr 4
  subst hoff
  split
  · simp
  · rw [addr_add]

theorem R.sliceStr {l h : Nat} {T : TypeId} {x : Operand} {lo hi : Option Operand} {s : ByteArray} (hx : evO F x = .string s) (hlo : EvB F lo 0 l) (hhi : EvB F hi s.size h) (h1 : l ≤ h) (h2 : h ≤ s.size)
    (hT : P.underlying T = some .string) : (execOp (evO F) ⟨dst, .slice T x lo hi none, ty, pos, after, g⟩).run P w = .ok (.value (.string (s.extract l h))) w := by
  simp [execOp, hx, Instr.sliceAt, Instr.slice, run_underlying hT, run_sliceBounds2 hlo hhi h1 h2]

theorem R.indexStr {i : Nat} {T : TypeId} {x y : Operand} {s : ByteArray} {kd : IntKind} {iv : Int} {b : UInt8} (hx : evO F x = .string s) (hy : evO F y = .int kd iv) (hi : iv = (i : Int)) (hb : s[i]? = some b)
    (hT : P.underlying T = some .string) : (execOp (evO F) ⟨dst, .index T x y, ty, pos, after, g⟩).run P w = .ok (.value (vu8 b)) w := by
  subst hi
  have h0 : (0 : Int) ≤ i := by omega
  simp only [execOp, hx, hy, Instr.index, asIntOf, run_underlying hT, Sem.run_bind, Sem.run_pure, Result.andThen_ok, h0, if_true, Int.toNat_natCast, hb]

/-! calls -/
theorem WL.call {d : Nat} {f : Operand} {xs : List Operand} {ats : Array TypeId} {fid : FuncId} {fi ca : List Value} {al : List Value} {R : Value → World → Prop} (hcf : ∀ args w, (callFunc fid args).run P w = .ok (.enter fid args) w)
    (hf : evO F f = .func (.func fid) fi.toArray ca.toArray) (hal : fi ++ xs.map (evO F) ++ ca = al) (hc : Cs P fid al.toArray w R) (hd : Nat.blt d n = true)
    (kk : ∀ v w', R v w' → WL P n ops Q rest (upd F d v) w') : WL P n ops Q (⟨some d, .call { callee := .value f, args := xs.toArray, argTypes := ats }, ty, pos, after, none⟩ :: rest) F w := by
  subst hal
  refine WL.ent (o := ⟨some d, .call { callee := .value f, args := xs.toArray, argTypes := ats }, ty, pos, after, none⟩) rfl ?_ hc (fun v w' r a ha => kk v w' r _ (ha.put hd))
  simp [execOp, resolve, hf, Deferred.ofValue, invoke, hcf]

theorem WL.call0 {f : Operand} {xs : List Operand} {ats : Array TypeId} {fid : FuncId} {fi ca : List Value} {al : List Value} {R : Value → World → Prop} (hcf : ∀ args w, (callFunc fid args).run P w = .ok (.enter fid args) w)
    (hf : evO F f = .func (.func fid) fi.toArray ca.toArray) (hal : fi ++ xs.map (evO F) ++ ca = al) (hc : Cs P fid al.toArray w R)
    (kk : ∀ v w', R v w' → WL P n ops Q rest F w') : WL P n ops Q (⟨none, .call { callee := .value f, args := xs.toArray, argTypes := ats }, ty, pos, after, none⟩ :: rest) F w := by
  subst hal
  refine WL.ent (o := ⟨none, .call { callee := .value f, args := xs.toArray, argTypes := ats }, ty, pos, after, none⟩) rfl ?_ hc (fun v w' r a ha => kk v w' r _ ha)
  simp [execOp, resolve, hf, Deferred.ofValue, invoke, hcf]

end

/-! ## results -/
inductive RV (P : Program) (F : Fr) (w : World) : List ResultVar → List Value → Prop
  | nil : RV P F w [] []
  | tmp {t : Tmp} {v : Value} {r : List ResultVar} {vs : List Value} (h : F t = v) (hr : RV P F w r vs) : RV P F w (.tmp t :: r) (v :: vs)
  | cell {t : Tmp} {T : TypeId} {a : Addr} {v : Value} {r : List ResultVar} {vs : List Value} (h : F t = .pointer (some a)) (hl : (loadVar T a).run P w = .ok v w) (hr : RV P F w r vs) : RV P F w (.cell t T :: r) (v :: vs)

def rvS (F : Fr) : ResultVar → Sem Value
  | .tmp t => pure (F t)
  | .cell a t => do loadVar t (← asAddr (F a))

theorem RV.run {P : Program} {F : Fr} {w : World} {rs : List ResultVar} {vs : List Value} (h : RV P F w rs vs) : (rs.mapM (rvS F)).run P w = .ok vs w := by
  induction h with
  | nil => simp
  | tmp h _ ih => rw [List.mapM_cons]; simp only [rvS, h, Sem.run_bind, Sem.run_pure, Result.andThen_ok, ih]
  | cell h hl _ ih => rw [List.mapM_cons]; simp only [rvS, h, asAddr, Sem.run_bind, Sem.run_pure, Result.andThen_ok, hl, ih]

def packed : List Value → Value
  | [v] => v
  | vs => .tuple vs.toArray

theorem ret_of {P : Program} {fn : Func} {R : Value → World → Prop} {F : Fr} {w : World} {rs : List ResultVar} {vs : List Value} (hr : fn.results = rs.toArray) (h : RV P F w rs vs) (k : R (packed vs) w) (hd : F.ds = [] := by rfl) : retQ P fn R .ret F w := by
  refine ⟨hd, packed vs, fun tmps ht => ?_, k⟩
  have h1 := h.run
  have h2 : results fn tmps = (do let vs ← fn.results.mapM (rvS F); pure (if h : vs.size = 1 then vs[0] else .tuple vs)) := by
    unfold results
    refine congrArg (fun g : ResultVar → Sem Value => (do let vs ← fn.results.mapM g; pure (if h : vs.size = 1 then vs[0] else .tuple vs))) ?_
    funext r
    cases r <;> simp only [rvS, ht]
  rw [h2, hr, Sem.run_bind, List.mapM_toArray, Sem.run_map, h1]
  simp only [Result.andThen_ok, Sem.run_pure]
  congr 1
  match vs with
  | [] => simp [packed]
  | [v] => simp [packed]
  | v :: u :: r => simp [packed]

theorem ret_n {P : Program} {fn : Func} {R : Value → World → Prop} {F : Fr} {w : World} (h : retQ P fn R .ret F w) : retQ P fn R .normal F w := h

section
variable {P : Program} {w w0 : World} {L : List Ent}
/-- the load of a whole variable that the call made -/
theorem HP.loadA (h : HP w0 w L) {b : Nat} {m : Md} {T Tb : TypeId} {segs : List Sgm} {cs : List Value} {z : Nat} (hT : ∀ w, (isAgg T).run P w = .ok true w) (hz : ∀ w, (sizeOf T).run P w = .ok z w)
    (hm : Ent.blk b m Tb segs ∈ L) (hl : lenS segs = z) (hcs : flat segs = cs) : (loadVar T ⟨b, 0, none⟩).run P w = .ok (.agg ⟨cs⟩) w := by
  obtain ⟨ok, hc⟩ := h.blk hm
  refine run_loadVarA hT hz (by rw [← hcs, ok.len, hl]) fun j v hv => ?_
  rw [addr_add, hc.cell, Nat.zero_add, hcs]; exact hv

theorem HP.load1 (h : HP w0 w L) {b : Nat} {m : Md} {T Tb : TypeId} {v : Value} (hT : ∀ w, (isAgg T).run P w = .ok false w)
    (hm : Ent.blk b m Tb [(1, [v])] ∈ L) : (loadVar T ⟨b, 0, none⟩).run P w = .ok v w := by
  obtain ⟨ok, hc⟩ := h.blk hm
  exact run_loadVar1 hT (by rw [hc.cell]; rfl)
end

/-! ## loops -/
def memN : List Nat → Nat → Bool
  | [], _ => false
  | a :: l, t => bif Nat.beq a t then true else memN l t
def mix (M : List Nat) (J F : Fr) : Fr := ⟨fun t => bif memN M t then J.t t else F.t t, F.ds⟩
def updL : List (Nat × Value) → Fr → Fr
  | [], G => G
  | (s, v) :: l, G => upd (updL l G) s v
theorem Fr.ext' {F G : Fr} (h : ∀ t, F t = G t) (hd : F.ds = G.ds) : F = G := by
  cases F; cases G
  simp only at hd
  subst hd
  congr
  funext t
  exact h t
def Ag (M : List Nat) (F F0 : Fr) : Prop := F.ds = F0.ds ∧ ∀ t, memN M t = false → F t = F0 t
def Hds (F : Fr) : List (Nat × Value) → Prop
  | [] => True
  | (s, v) :: l => F s = v ∧ Hds F l

theorem Ag.refl (M : List Nat) (F : Fr) : Ag M F F := ⟨rfl, fun _ _ => rfl⟩
theorem Ag.upd {M : List Nat} {F F0 : Fr} {d : Nat} {v : Value} (hd : memN M d = true) (h : Ag M F F0) : Ag M (Go.Vc.upd F d v) F0 := ⟨h.1, fun t ht => by
  rw [upd_ne (fun e => by rw [e, hd] at ht; cases ht)]; exact h.2 t ht⟩
theorem Ag.mix (M : List Nat) (J F0 : Fr) : Ag M (mix M J F0) F0 := ⟨rfl, fun t ht => by simp [Go.Vc.mix, ht]⟩
theorem Ag.updL {M : List Nat} {F F0 : Fr} {l : List (Nat × Value)} (hl : (l.all fun p => memN M p.1) = true) (h : Ag M F F0) : Ag M (Go.Vc.updL l F) F0 := by
  induction l with
  | nil => exact h
  | cons p l ih =>
    simp only [List.all_cons, Bool.and_eq_true] at hl
    exact (ih hl.2).upd hl.1
theorem Ag.trans {M : List Nat} {F F1 F0 : Fr} (h : Ag M F F1) (k : Ag M F1 F0) : Ag M F F0 := ⟨h.1.trans k.1, fun t ht => (h.2 t ht).trans (k.2 t ht)⟩
/-- within a bigger list -/
theorem Ag.sub {M M' : List Nat} {F F0 : Fr} (hs : (M.all fun t => memN M' t) = true) (h : Ag M F F0) : Ag M' F F0 := ⟨h.1, fun t ht => h.2 t (by
  cases hm : memN M t with
  | false => rfl
  | true =>
    have : ∀ (l : List Nat), (l.all fun t => memN M' t) = true → memN l t = true → memN M' t = true := by
      intro l
      induction l with
      | nil => intro _ h; cases h
      | cons a l ih =>
        intro hl h
        simp only [List.all_cons, Bool.and_eq_true] at hl
        unfold memN at h
        cases hb : Nat.beq a t with
        | true => rw [← Nat.eq_of_beq_eq_true hb]; exact hl.1
        | false => rw [hb] at h; exact ih hl.2 h
    rw [this M hs hm] at ht; cases ht)⟩

theorem eq_mix {M : List Nat} {F F0 : Fr} {l : List (Nat × Value)} (h : Ag M F F0) (hl : Hds F l) : F = updL l (mix M F F0) := by
  have h0 : F = mix M F F0 := by
    refine Fr.ext' (fun t => ?_) h.1
    cases hm : memN M t with
    | true => simp [mix, hm]
    | false => simp [mix, hm, h.2 t hm]
  suffices ∀ l, Hds F l → F = updL l F by
    have := this l hl
    rw [← h0]; exact this
  intro l
  induction l with
  | nil => intro _; rfl
  | cons p l ih =>
    intro hl
    have hi := ih hl.2
    refine Fr.ext' (fun t => ?_) (by obtain ⟨s, v⟩ := p; show F.ds = (updL l F).ds; exact congrArg Fr.ds hi)
    by_cases e : t = p.1
    · subst e; rw [updL, upd_same]; exact hl.1
    · rw [updL, upd_ne e, ← hi]

theorem WP.loopG {P : Program} {n : Nat} {Q : Exit → Fr → World → Prop} {c : Code} {F0 : Fr} {w : World} {G : Type} (M : List Nat) (S : G → List (Nat × Value)) (H : G → Nat → World → Prop)
    (h0 : ∃ g m, Hds F0 (S g) ∧ H g m w)
    (round : ∀ g m J w', H g m w' → WP P n c (thn (fun F' w'' => ∃ g' m', m' < m ∧ Ag M F' F0 ∧ Hds F' (S g') ∧ H g' m' w'') Q) (updL (S g) (mix M J F0)) w') :
    WP P n (.loop c) Q F0 w := by
  obtain ⟨g, m, hS, hH⟩ := h0
  refine WP.loop (fun m F w => Ag M F F0 ∧ ∃ g, Hds F (S g) ∧ H g m w) m ⟨Ag.refl _ _, g, hS, hH⟩ ?_
  rintro m F w ⟨hag, g, hS, hH⟩
  rw [eq_mix hag hS]
  refine (round g m F w hH).mono ?_
  intro e F' w' q
  cases e <;> first | exact q | skip
  obtain ⟨g', m', hlt, h1, h2, h3⟩ := q
  exact ⟨m', hlt, h1, g', h2, h3⟩

/-- the ways through a piece of code meet again: the slots of M have turned; of those of S the values are told -/
theorem WP.cutG {P : Program} {n : Nat} {Q : Exit → Fr → World → Prop} {c : Code} {F0 : Fr} {w : World} {G : Type} (M : List Nat) (S : G → List (Nat × Value)) (H : G → World → Prop)
    (h : WP P n c (thn (fun F' w' => ∃ g, Ag M F' F0 ∧ Hds F' (S g) ∧ H g w') Q) F0 w)
    (k : ∀ g J w', H g w' → Q .normal (updL (S g) (mix M J F0)) w') : WP P n c Q F0 w := by
  refine h.mono ?_
  intro e F' w' q
  cases e <;> first | exact q | skip
  obtain ⟨g, h1, h2, h3⟩ := q
  show Q .normal F' w'
  rw [eq_mix h1 h2]
  exact k g F' w' h3

theorem inb_hit {id : Nat} {Q : Exit → Fr → World → Prop} {F : Fr} {w : World} (h : Q .normal F w) : inb id Q (.exit id) F w := by
  simp only [inb, if_true]; exact h
theorem inb_miss {id id' : Nat} {Q : Exit → Fr → World → Prop} {F : Fr} {w : World} (hne : Nat.beq id' id = false) (h : Q (.exit id') F w) : inb id Q (.exit id') F w := by
  have : id' ≠ id := by rintro rfl; simp at hne
  simp only [inb, if_neg this]; exact h
theorem thn_n {K : Fr → World → Prop} {Q : Exit → Fr → World → Prop} {F : Fr} {w : World} (h : K F w) : thn K Q .normal F w := h
theorem thn_x {K : Fr → World → Prop} {Q : Exit → Fr → World → Prop} {id : Nat} {F : Fr} {w : World} (h : Q (.exit id) F w) : thn K Q (.exit id) F w := h
theorem thn_r {K : Fr → World → Prop} {Q : Exit → Fr → World → Prop} {F : Fr} {w : World} (h : Q .ret F w) : thn K Q .ret F w := h
theorem inb_r {id : Nat} {Q : Exit → Fr → World → Prop} {F : Fr} {w : World} (h : Q .ret F w) : inb id Q .ret F w := h
theorem inb_n {id : Nat} {Q : Exit → Fr → World → Prop} {F : Fr} {w : World} (h : Q .normal F w) : inb id Q .normal F w := h

end Go.Vc
