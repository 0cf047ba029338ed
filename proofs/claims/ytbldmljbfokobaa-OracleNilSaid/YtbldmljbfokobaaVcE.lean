/- Typed arithmetic: rules for walks, proved here for every program of the model. Conditions: none beyond what each theorem states. -/
import Derived.Test.YtbldmljbfokobaaVcD
set_option linter.unusedVariables false
set_option linter.unusedSimpArgs false
namespace Go.Vc
open Go.RowKit
set_option linter.unusedSectionVars false


theorem w8 (x : Int) : IntKind.u8.wrap x = x % 256 := by simp [IntKind.wrap, IntKind.bits, IntKind.signed]
theorem w8_nat (m : Nat) : IntKind.u8.wrap m = (UInt8.ofNat m).toNat := by
  rw [w8, UInt8.toNat_ofNat']; omega
theorem bv8 (x : UInt8) : BitVec.ofInt IntKind.u8.bits (x.toNat : Int) = x.toBitVec := by
  show BitVec.ofInt 8 (x.toNat : Int) = _
  rw [BitVec.ofInt_natCast]
  exact BitVec.ofNat_toNat _ _ |>.trans (by simp)
theorem b8_add (a b : UInt8) : binI .add .u8 a.toNat b.toNat = some (vu8 (a + b)) := by
  simp only [binI, w8, UInt8.toNat_add]; congr 2
theorem b8_sub (a b : UInt8) : binI .sub .u8 a.toNat b.toNat = some (vu8 (a - b)) := by
  have h1 := a.toNat_lt; have h2 := b.toNat_lt
  simp only [binI, w8]; show some (Value.int .u8 _) = some (Value.int .u8 _); congr 2; rw [UInt8.toNat_sub]; omega
theorem b8_mul (a b : UInt8) : binI .mul .u8 a.toNat b.toNat = some (vu8 (a * b)) := by
  simp only [binI, w8, UInt8.toNat_mul]; congr 2
theorem w8_back (m : BitVec IntKind.u8.bits) : IntKind.u8.wrap (m.toNat : Int) = m.toNat := by
  have : m.toNat < 256 := m.isLt
  rw [w8]; omega
theorem b8_and (a b : UInt8) : binI .and .u8 a.toNat b.toNat = some (vu8 (a &&& b)) := by
  simp only [binI, bv8, w8_back]; rfl
theorem b8_or (a b : UInt8) : binI .or .u8 a.toNat b.toNat = some (vu8 (a ||| b)) := by
  simp only [binI, bv8, w8_back]; rfl
theorem b8_xor (a b : UInt8) : binI .xor .u8 a.toNat b.toNat = some (vu8 (a ^^^ b)) := by
  simp only [binI, bv8, w8_back]; rfl
theorem b8_quo (a b : UInt8) (h : b ≠ 0) : binI .quo .u8 a.toNat b.toNat = some (vu8 (a / b)) := by
  have h2 : (b.toNat : Int) ≠ 0 := by intro e; apply h; rw [← UInt8.toNat_inj]; simpa using e
  have h3 : a.toNat / b.toNat < 256 := Nat.lt_of_le_of_lt (Nat.div_le_self _ _) a.toNat_lt
  simp only [binI, if_neg h2, ← Int.ofNat_tdiv, w8]; show some (Value.int .u8 _) = some (Value.int .u8 _); congr 2; rw [UInt8.toNat_div]; generalize a.toNat / b.toNat = q at *; omega
theorem b8_rem (a b : UInt8) (h : b ≠ 0) : binI .rem .u8 a.toNat b.toNat = some (vu8 (a % b)) := by
  have h2 : (b.toNat : Int) ≠ 0 := by intro e; apply h; rw [← UInt8.toNat_inj]; simpa using e
  simp only [binI, if_neg h2, ← Int.ofNat_tmod]; show some (Value.int .u8 _) = some (Value.int .u8 _); congr 2
theorem b8_eql (a b : UInt8) {r : Bool} (h : decide (a = b) = r) : binI .eql .u8 a.toNat b.toNat = some (.bool r) := by
  subst h; simp only [binI]; congr 2
  rw [Bool.eq_iff_iff]; simp [← UInt8.toNat_inj]; omega
theorem b8_neq (a b : UInt8) {r : Bool} (h : decide (a ≠ b) = r) : binI .neq .u8 a.toNat b.toNat = some (.bool r) := by
  subst h; simp only [binI]; congr 2
  rw [Bool.eq_iff_iff]; simp [← UInt8.toNat_inj]; omega
theorem b8_lss (a b : UInt8) {r : Bool} (h : decide (a < b) = r) : binI .lss .u8 a.toNat b.toNat = some (.bool r) := by
  subst h; simp only [binI]; congr 2
  rw [Bool.eq_iff_iff]; simp [UInt8.lt_iff_toNat_lt]
theorem b8_leq (a b : UInt8) {r : Bool} (h : decide (a ≤ b) = r) : binI .leq .u8 a.toNat b.toNat = some (.bool r) := by
  subst h; simp only [binI]; congr 2
  rw [Bool.eq_iff_iff]; simp [UInt8.le_iff_toNat_le]
theorem b8_gtr (a b : UInt8) {r : Bool} (h : decide (a > b) = r) : binI .gtr .u8 a.toNat b.toNat = some (.bool r) := by
  subst h; simp only [binI]; congr 2
  rw [Bool.eq_iff_iff]; simp [UInt8.lt_iff_toNat_lt]
theorem b8_geq (a b : UInt8) {r : Bool} (h : decide (a ≥ b) = r) : binI .geq .u8 a.toNat b.toNat = some (.bool r) := by
  subst h; simp only [binI]; congr 2
  rw [Bool.eq_iff_iff]; simp [UInt8.le_iff_toNat_le]
def shl8 (a : UInt8) (s : Nat) : UInt8 := UInt8.ofNat (a.toNat * 2 ^ s)
def shr8 (a : UInt8) (s : Nat) : UInt8 := UInt8.ofNat (a.toNat / 2 ^ s)
theorem run_shl8 (P : Program) (w : World) (T : TypeId) (a : UInt8) (yk : IntKind) (s : Nat) : (binOp .shl T (.int .u8 a.toNat) (.int yk s)).run P w = .ok (vu8 (shl8 a s)) w := by
  have h0 : ¬ ((s : Int) < 0) := by omega
  simp only [binOp, Op.shift, h0, if_false, Int.toNat_natCast, Sem.run_pure]
  congr 2
  show IntKind.u8.wrap _ = _
  rw [w8, shl8, UInt8.toNat_ofNat']
  by_cases hs : s ≤ 8
  · rw [show min s IntKind.u8.bits = s from Nat.min_eq_left hs]
    have e : (a.toNat : Int) * 2 ^ s = ((a.toNat * 2 ^ s : Nat) : Int) := by rw [Int.natCast_mul, Int.natCast_pow]; rfl
    rw [e]; generalize a.toNat * 2 ^ s = q; omega
  · rw [show min s IntKind.u8.bits = 8 from Nat.min_eq_right (by show 8 ≤ s; omega)]
    obtain ⟨t, rfl⟩ : ∃ t, s = 8 + t := ⟨s - 8, by omega⟩
    rw [Nat.pow_add, Nat.mul_comm (2 ^ 8) (2 ^ t), ← Nat.mul_assoc, Nat.mul_mod_left]
    exact Int.mul_emod_left _ _
theorem run_shr8 (P : Program) (w : World) (T : TypeId) (a : UInt8) (yk : IntKind) (s : Nat) : (binOp .shr T (.int .u8 a.toNat) (.int yk s)).run P w = .ok (vu8 (shr8 a s)) w := by
  have h0 : ¬ ((s : Int) < 0) := by omega
  simp only [binOp, Op.shift, h0, if_false, Int.toNat_natCast, Sem.run_pure]
  congr 2
  have ha := a.toNat_lt
  have hq : ∀ q, a.toNat / 2 ^ q < 256 := fun q => Nat.lt_of_le_of_lt (Nat.div_le_self _ _) ha
  have hd : ∀ q : Nat, (a.toNat : Int).fdiv (2 ^ q) = ((a.toNat / 2 ^ q : Nat) : Int) := fun q => by
    rw [Int.fdiv_eq_ediv_of_nonneg _ (Int.le_of_lt (Int.pow_pos (by decide)))]
    rw [Int.natCast_ediv, Int.natCast_pow]; rfl
  rw [hd, shr8, UInt8.toNat_ofNat', Nat.mod_eq_of_lt (hq s)]
  by_cases hs : s ≤ 8
  · rw [show min s IntKind.u8.bits = s from Nat.min_eq_left hs]
  · rw [show min s IntKind.u8.bits = 8 from Nat.min_eq_right (by show 8 ≤ s; omega)]
    have h1 : a.toNat / 2 ^ 8 = 0 := Nat.div_eq_of_lt ha
    have h2 : a.toNat / 2 ^ s = 0 := Nat.div_eq_of_lt (Nat.lt_of_lt_of_le ha (Nat.pow_le_pow_right (by omega) (by omega : 8 ≤ s)))
    rw [h1, h2]


theorem w32 (x : Int) : IntKind.u32.wrap x = x % 4294967296 := by simp [IntKind.wrap, IntKind.bits, IntKind.signed]
theorem w32_nat (m : Nat) : IntKind.u32.wrap m = (UInt32.ofNat m).toNat := by
  rw [w32, UInt32.toNat_ofNat']; omega
theorem bv32 (x : UInt32) : BitVec.ofInt IntKind.u32.bits (x.toNat : Int) = x.toBitVec := by
  show BitVec.ofInt 32 (x.toNat : Int) = _
  rw [BitVec.ofInt_natCast]
  exact BitVec.ofNat_toNat _ _ |>.trans (by simp)
theorem b32_add (a b : UInt32) : binI .add .u32 a.toNat b.toNat = some (vu32 (a + b)) := by
  simp only [binI, w32, UInt32.toNat_add]; congr 2
theorem b32_sub (a b : UInt32) : binI .sub .u32 a.toNat b.toNat = some (vu32 (a - b)) := by
  have h1 := a.toNat_lt; have h2 := b.toNat_lt
  simp only [binI, w32]; show some (Value.int .u32 _) = some (Value.int .u32 _); congr 2; rw [UInt32.toNat_sub]; omega
theorem b32_mul (a b : UInt32) : binI .mul .u32 a.toNat b.toNat = some (vu32 (a * b)) := by
  simp only [binI, w32, UInt32.toNat_mul]; congr 2
theorem w32_back (m : BitVec IntKind.u32.bits) : IntKind.u32.wrap (m.toNat : Int) = m.toNat := by
  have : m.toNat < 4294967296 := m.isLt
  rw [w32]; omega
theorem b32_and (a b : UInt32) : binI .and .u32 a.toNat b.toNat = some (vu32 (a &&& b)) := by
  simp only [binI, bv32, w32_back]; rfl
theorem b32_or (a b : UInt32) : binI .or .u32 a.toNat b.toNat = some (vu32 (a ||| b)) := by
  simp only [binI, bv32, w32_back]; rfl
theorem b32_xor (a b : UInt32) : binI .xor .u32 a.toNat b.toNat = some (vu32 (a ^^^ b)) := by
  simp only [binI, bv32, w32_back]; rfl
theorem b32_quo (a b : UInt32) (h : b ≠ 0) : binI .quo .u32 a.toNat b.toNat = some (vu32 (a / b)) := by
  have h2 : (b.toNat : Int) ≠ 0 := by intro e; apply h; rw [← UInt32.toNat_inj]; simpa using e
  have h3 : a.toNat / b.toNat < 4294967296 := Nat.lt_of_le_of_lt (Nat.div_le_self _ _) a.toNat_lt
  simp only [binI, if_neg h2, ← Int.ofNat_tdiv, w32]; show some (Value.int .u32 _) = some (Value.int .u32 _); congr 2; rw [UInt32.toNat_div]; generalize a.toNat / b.toNat = q at *; omega
theorem b32_rem (a b : UInt32) (h : b ≠ 0) : binI .rem .u32 a.toNat b.toNat = some (vu32 (a % b)) := by
  have h2 : (b.toNat : Int) ≠ 0 := by intro e; apply h; rw [← UInt32.toNat_inj]; simpa using e
  simp only [binI, if_neg h2, ← Int.ofNat_tmod]; show some (Value.int .u32 _) = some (Value.int .u32 _); congr 2
theorem b32_eql (a b : UInt32) {r : Bool} (h : decide (a = b) = r) : binI .eql .u32 a.toNat b.toNat = some (.bool r) := by
  subst h; simp only [binI]; congr 2
  rw [Bool.eq_iff_iff]; simp [← UInt32.toNat_inj]; omega
theorem b32_neq (a b : UInt32) {r : Bool} (h : decide (a ≠ b) = r) : binI .neq .u32 a.toNat b.toNat = some (.bool r) := by
  subst h; simp only [binI]; congr 2
  rw [Bool.eq_iff_iff]; simp [← UInt32.toNat_inj]; omega
theorem b32_lss (a b : UInt32) {r : Bool} (h : decide (a < b) = r) : binI .lss .u32 a.toNat b.toNat = some (.bool r) := by
  subst h; simp only [binI]; congr 2
  rw [Bool.eq_iff_iff]; simp [UInt32.lt_iff_toNat_lt]
theorem b32_leq (a b : UInt32) {r : Bool} (h : decide (a ≤ b) = r) : binI .leq .u32 a.toNat b.toNat = some (.bool r) := by
  subst h; simp only [binI]; congr 2
  rw [Bool.eq_iff_iff]; simp [UInt32.le_iff_toNat_le]
theorem b32_gtr (a b : UInt32) {r : Bool} (h : decide (a > b) = r) : binI .gtr .u32 a.toNat b.toNat = some (.bool r) := by
  subst h; simp only [binI]; congr 2
  rw [Bool.eq_iff_iff]; simp [UInt32.lt_iff_toNat_lt]
theorem b32_geq (a b : UInt32) {r : Bool} (h : decide (a ≥ b) = r) : binI .geq .u32 a.toNat b.toNat = some (.bool r) := by
  subst h; simp only [binI]; congr 2
  rw [Bool.eq_iff_iff]; simp [UInt32.le_iff_toNat_le]
def shl32 (a : UInt32) (s : Nat) : UInt32 := UInt32.ofNat (a.toNat * 2 ^ s)
def shr32 (a : UInt32) (s : Nat) : UInt32 := UInt32.ofNat (a.toNat / 2 ^ s)
theorem run_shl32 (P : Program) (w : World) (T : TypeId) (a : UInt32) (yk : IntKind) (s : Nat) : (binOp .shl T (.int .u32 a.toNat) (.int yk s)).run P w = .ok (vu32 (shl32 a s)) w := by
  have h0 : ¬ ((s : Int) < 0) := by omega
  simp only [binOp, Op.shift, h0, if_false, Int.toNat_natCast, Sem.run_pure]
  congr 2
  show IntKind.u32.wrap _ = _
  rw [w32, shl32, UInt32.toNat_ofNat']
  by_cases hs : s ≤ 32
  · rw [show min s IntKind.u32.bits = s from Nat.min_eq_left hs]
    have e : (a.toNat : Int) * 2 ^ s = ((a.toNat * 2 ^ s : Nat) : Int) := by rw [Int.natCast_mul, Int.natCast_pow]; rfl
    rw [e]; generalize a.toNat * 2 ^ s = q; omega
  · rw [show min s IntKind.u32.bits = 32 from Nat.min_eq_right (by show 32 ≤ s; omega)]
    obtain ⟨t, rfl⟩ : ∃ t, s = 32 + t := ⟨s - 32, by omega⟩
    rw [Nat.pow_add, Nat.mul_comm (2 ^ 32) (2 ^ t), ← Nat.mul_assoc, Nat.mul_mod_left]
    exact Int.mul_emod_left _ _
theorem run_shr32 (P : Program) (w : World) (T : TypeId) (a : UInt32) (yk : IntKind) (s : Nat) : (binOp .shr T (.int .u32 a.toNat) (.int yk s)).run P w = .ok (vu32 (shr32 a s)) w := by
  have h0 : ¬ ((s : Int) < 0) := by omega
  simp only [binOp, Op.shift, h0, if_false, Int.toNat_natCast, Sem.run_pure]
  congr 2
  have ha := a.toNat_lt
  have hq : ∀ q, a.toNat / 2 ^ q < 4294967296 := fun q => Nat.lt_of_le_of_lt (Nat.div_le_self _ _) ha
  have hd : ∀ q : Nat, (a.toNat : Int).fdiv (2 ^ q) = ((a.toNat / 2 ^ q : Nat) : Int) := fun q => by
    rw [Int.fdiv_eq_ediv_of_nonneg _ (Int.le_of_lt (Int.pow_pos (by decide)))]
    rw [Int.natCast_ediv, Int.natCast_pow]; rfl
  rw [hd, shr32, UInt32.toNat_ofNat', Nat.mod_eq_of_lt (hq s)]
  by_cases hs : s ≤ 32
  · rw [show min s IntKind.u32.bits = s from Nat.min_eq_left hs]
  · rw [show min s IntKind.u32.bits = 32 from Nat.min_eq_right (by show 32 ≤ s; omega)]
    have h1 : a.toNat / 2 ^ 32 = 0 := Nat.div_eq_of_lt ha
    have h2 : a.toNat / 2 ^ s = 0 := Nat.div_eq_of_lt (Nat.lt_of_lt_of_le ha (Nat.pow_le_pow_right (by omega) (by omega : 32 ≤ s)))
    rw [h1, h2]


theorem w64 (x : Int) : IntKind.u64.wrap x = x % 18446744073709551616 := by simp [IntKind.wrap, IntKind.bits, IntKind.signed]
theorem w64_nat (m : Nat) : IntKind.u64.wrap m = (UInt64.ofNat m).toNat := by
  rw [w64, UInt64.toNat_ofNat']; omega
theorem bv64 (x : UInt64) : BitVec.ofInt IntKind.u64.bits (x.toNat : Int) = x.toBitVec := by
  show BitVec.ofInt 64 (x.toNat : Int) = _
  rw [BitVec.ofInt_natCast]
  exact BitVec.ofNat_toNat _ _ |>.trans (by simp)
theorem b64_add (a b : UInt64) : binI .add .u64 a.toNat b.toNat = some (vu64 (a + b)) := by
  simp only [binI, w64, UInt64.toNat_add]; congr 2
theorem b64_sub (a b : UInt64) : binI .sub .u64 a.toNat b.toNat = some (vu64 (a - b)) := by
  have h1 := a.toNat_lt; have h2 := b.toNat_lt
  simp only [binI, w64]; show some (Value.int .u64 _) = some (Value.int .u64 _); congr 2; rw [UInt64.toNat_sub]; omega
theorem b64_mul (a b : UInt64) : binI .mul .u64 a.toNat b.toNat = some (vu64 (a * b)) := by
  simp only [binI, w64, UInt64.toNat_mul]; congr 2
theorem w64_back (m : BitVec IntKind.u64.bits) : IntKind.u64.wrap (m.toNat : Int) = m.toNat := by
  have : m.toNat < 18446744073709551616 := m.isLt
  rw [w64]; omega
theorem b64_and (a b : UInt64) : binI .and .u64 a.toNat b.toNat = some (vu64 (a &&& b)) := by
  simp only [binI, bv64, w64_back]; rfl
theorem b64_or (a b : UInt64) : binI .or .u64 a.toNat b.toNat = some (vu64 (a ||| b)) := by
  simp only [binI, bv64, w64_back]; rfl
theorem b64_xor (a b : UInt64) : binI .xor .u64 a.toNat b.toNat = some (vu64 (a ^^^ b)) := by
  simp only [binI, bv64, w64_back]; rfl
theorem b64_quo (a b : UInt64) (h : b ≠ 0) : binI .quo .u64 a.toNat b.toNat = some (vu64 (a / b)) := by
  have h2 : (b.toNat : Int) ≠ 0 := by intro e; apply h; rw [← UInt64.toNat_inj]; simpa using e
  have h3 : a.toNat / b.toNat < 18446744073709551616 := Nat.lt_of_le_of_lt (Nat.div_le_self _ _) a.toNat_lt
  simp only [binI, if_neg h2, ← Int.ofNat_tdiv, w64]; show some (Value.int .u64 _) = some (Value.int .u64 _); congr 2; rw [UInt64.toNat_div]; generalize a.toNat / b.toNat = q at *; omega
theorem b64_rem (a b : UInt64) (h : b ≠ 0) : binI .rem .u64 a.toNat b.toNat = some (vu64 (a % b)) := by
  have h2 : (b.toNat : Int) ≠ 0 := by intro e; apply h; rw [← UInt64.toNat_inj]; simpa using e
  simp only [binI, if_neg h2, ← Int.ofNat_tmod]; show some (Value.int .u64 _) = some (Value.int .u64 _); congr 2
theorem b64_eql (a b : UInt64) {r : Bool} (h : decide (a = b) = r) : binI .eql .u64 a.toNat b.toNat = some (.bool r) := by
  subst h; simp only [binI]; congr 2
  rw [Bool.eq_iff_iff]; simp [← UInt64.toNat_inj]; omega
theorem b64_neq (a b : UInt64) {r : Bool} (h : decide (a ≠ b) = r) : binI .neq .u64 a.toNat b.toNat = some (.bool r) := by
  subst h; simp only [binI]; congr 2
  rw [Bool.eq_iff_iff]; simp [← UInt64.toNat_inj]; omega
theorem b64_lss (a b : UInt64) {r : Bool} (h : decide (a < b) = r) : binI .lss .u64 a.toNat b.toNat = some (.bool r) := by
  subst h; simp only [binI]; congr 2
  rw [Bool.eq_iff_iff]; simp [UInt64.lt_iff_toNat_lt]
theorem b64_leq (a b : UInt64) {r : Bool} (h : decide (a ≤ b) = r) : binI .leq .u64 a.toNat b.toNat = some (.bool r) := by
  subst h; simp only [binI]; congr 2
  rw [Bool.eq_iff_iff]; simp [UInt64.le_iff_toNat_le]
theorem b64_gtr (a b : UInt64) {r : Bool} (h : decide (a > b) = r) : binI .gtr .u64 a.toNat b.toNat = some (.bool r) := by
  subst h; simp only [binI]; congr 2
  rw [Bool.eq_iff_iff]; simp [UInt64.lt_iff_toNat_lt]
theorem b64_geq (a b : UInt64) {r : Bool} (h : decide (a ≥ b) = r) : binI .geq .u64 a.toNat b.toNat = some (.bool r) := by
  subst h; simp only [binI]; congr 2
  rw [Bool.eq_iff_iff]; simp [UInt64.le_iff_toNat_le]
def shl64 (a : UInt64) (s : Nat) : UInt64 := UInt64.ofNat (a.toNat * 2 ^ s)
def shr64 (a : UInt64) (s : Nat) : UInt64 := UInt64.ofNat (a.toNat / 2 ^ s)
theorem run_shl64 (P : Program) (w : World) (T : TypeId) (a : UInt64) (yk : IntKind) (s : Nat) : (binOp .shl T (.int .u64 a.toNat) (.int yk s)).run P w = .ok (vu64 (shl64 a s)) w := by
  have h0 : ¬ ((s : Int) < 0) := by omega
  simp only [binOp, Op.shift, h0, if_false, Int.toNat_natCast, Sem.run_pure]
  congr 2
  show IntKind.u64.wrap _ = _
  rw [w64, shl64, UInt64.toNat_ofNat']
  by_cases hs : s ≤ 64
  · rw [show min s IntKind.u64.bits = s from Nat.min_eq_left hs]
    have e : (a.toNat : Int) * 2 ^ s = ((a.toNat * 2 ^ s : Nat) : Int) := by rw [Int.natCast_mul, Int.natCast_pow]; rfl
    rw [e]; generalize a.toNat * 2 ^ s = q; omega
  · rw [show min s IntKind.u64.bits = 64 from Nat.min_eq_right (by show 64 ≤ s; omega)]
    obtain ⟨t, rfl⟩ : ∃ t, s = 64 + t := ⟨s - 64, by omega⟩
    rw [Nat.pow_add, Nat.mul_comm (2 ^ 64) (2 ^ t), ← Nat.mul_assoc, Nat.mul_mod_left]
    exact Int.mul_emod_left _ _
theorem run_shr64 (P : Program) (w : World) (T : TypeId) (a : UInt64) (yk : IntKind) (s : Nat) : (binOp .shr T (.int .u64 a.toNat) (.int yk s)).run P w = .ok (vu64 (shr64 a s)) w := by
  have h0 : ¬ ((s : Int) < 0) := by omega
  simp only [binOp, Op.shift, h0, if_false, Int.toNat_natCast, Sem.run_pure]
  congr 2
  have ha := a.toNat_lt
  have hq : ∀ q, a.toNat / 2 ^ q < 18446744073709551616 := fun q => Nat.lt_of_le_of_lt (Nat.div_le_self _ _) ha
  have hd : ∀ q : Nat, (a.toNat : Int).fdiv (2 ^ q) = ((a.toNat / 2 ^ q : Nat) : Int) := fun q => by
    rw [Int.fdiv_eq_ediv_of_nonneg _ (Int.le_of_lt (Int.pow_pos (by decide)))]
    rw [Int.natCast_ediv, Int.natCast_pow]; rfl
  rw [hd, shr64, UInt64.toNat_ofNat', Nat.mod_eq_of_lt (hq s)]
  by_cases hs : s ≤ 64
  · rw [show min s IntKind.u64.bits = s from Nat.min_eq_left hs]
  · rw [show min s IntKind.u64.bits = 64 from Nat.min_eq_right (by show 64 ≤ s; omega)]
    have h1 : a.toNat / 2 ^ 64 = 0 := Nat.div_eq_of_lt ha
    have h2 : a.toNat / 2 ^ s = 0 := Nat.div_eq_of_lt (Nat.lt_of_lt_of_le ha (Nat.pow_le_pow_right (by omega) (by omega : 64 ≤ s)))
    rw [h1, h2]

end Go.Vc