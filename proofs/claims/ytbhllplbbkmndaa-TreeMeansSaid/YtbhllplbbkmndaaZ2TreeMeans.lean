/- Rules for walks and contracts of the functions that the law reaches, one behind the other. Conditions: none beyond what each theorem states. -/
import Derived.Test.YtbhllplbbkmndaaZ1TreeMeans
set_option linter.unusedVariables false
set_option linter.unusedSimpArgs false
set_option linter.unusedSectionVars false
namespace Go.Vc
open Go.RowKit
section
variable {α : Type} {a b c d e f g h i j k l m n o p q r s t u v : α} {L : List α}
theorem M0 : a ∈ a :: L := .head _
theorem M1 : b ∈ a :: b :: L := .tail _ M0
theorem M2 : c ∈ a :: b :: c :: L := .tail _ M1
theorem M3 : d ∈ a :: b :: c :: d :: L := .tail _ M2
theorem M4 : e ∈ a :: b :: c :: d :: e :: L := .tail _ M3
theorem M5 : f ∈ a :: b :: c :: d :: e :: f :: L := .tail _ M4
theorem M6 : g ∈ a :: b :: c :: d :: e :: f :: g :: L := .tail _ M5
theorem M7 : h ∈ a :: b :: c :: d :: e :: f :: g :: h :: L := .tail _ M6
theorem M8 : i ∈ a :: b :: c :: d :: e :: f :: g :: h :: i :: L := .tail _ M7
theorem M9 : j ∈ a :: b :: c :: d :: e :: f :: g :: h :: i :: j :: L := .tail _ M8
theorem M10 : k ∈ a :: b :: c :: d :: e :: f :: g :: h :: i :: j :: k :: L := .tail _ M9
theorem M11 : l ∈ a :: b :: c :: d :: e :: f :: g :: h :: i :: j :: k :: l :: L := .tail _ M10
theorem M12 : m ∈ a :: b :: c :: d :: e :: f :: g :: h :: i :: j :: k :: l :: m :: L := .tail _ M11
theorem M13 : n ∈ a :: b :: c :: d :: e :: f :: g :: h :: i :: j :: k :: l :: m :: n :: L := .tail _ M12
theorem M14 : o ∈ a :: b :: c :: d :: e :: f :: g :: h :: i :: j :: k :: l :: m :: n :: o :: L := .tail _ M13
theorem M15 : p ∈ a :: b :: c :: d :: e :: f :: g :: h :: i :: j :: k :: l :: m :: n :: o :: p :: L := .tail _ M14
theorem M16 : q ∈ a :: b :: c :: d :: e :: f :: g :: h :: i :: j :: k :: l :: m :: n :: o :: p :: q :: L := .tail _ M15
theorem M17 : r ∈ a :: b :: c :: d :: e :: f :: g :: h :: i :: j :: k :: l :: m :: n :: o :: p :: q :: r :: L := .tail _ M16
theorem M18 : s ∈ a :: b :: c :: d :: e :: f :: g :: h :: i :: j :: k :: l :: m :: n :: o :: p :: q :: r :: s :: L := .tail _ M17
theorem M19 : t ∈ a :: b :: c :: d :: e :: f :: g :: h :: i :: j :: k :: l :: m :: n :: o :: p :: q :: r :: s :: t :: L := .tail _ M18
theorem M20 : u ∈ a :: b :: c :: d :: e :: f :: g :: h :: i :: j :: k :: l :: m :: n :: o :: p :: q :: r :: s :: t :: u :: L := .tail _ M19
theorem M21 : v ∈ a :: b :: c :: d :: e :: f :: g :: h :: i :: j :: k :: l :: m :: n :: o :: p :: q :: r :: s :: t :: u :: v :: L := .tail _ M20
theorem lr {n : Nat} : (List.replicate n a).length = n := List.length_replicate ..
theorem sC {s : Sgm} {r : List Sgm} (h : SOk s) (k : SsOk r) : SsOk (s :: r) := SsOk.cons h k
theorem sN : SsOk [] := SsOk.nil
theorem sV {x : Value} (h : x.oneCell' = true := by rfl) : SOk (1, [x]) := SOk.v h
theorem s8 {k : Nat} {l : List UInt8} (h : l.length = k) : SOk (k, l.map vu8) := SOk.u8 h
end
section
variable {a b c d e f g h i j k l m n o p q r s t z y : Ent} {L : List Ent}
theorem J0 : Pick z (z :: L) (L) := .h
theorem J1 : Pick z (a :: z :: L) (a :: L) := .t J0
theorem J2 : Pick z (a :: b :: z :: L) (a :: b :: L) := .t J1
theorem J3 : Pick z (a :: b :: c :: z :: L) (a :: b :: c :: L) := .t J2
theorem J4 : Pick z (a :: b :: c :: d :: z :: L) (a :: b :: c :: d :: L) := .t J3
theorem J5 : Pick z (a :: b :: c :: d :: e :: z :: L) (a :: b :: c :: d :: e :: L) := .t J4
theorem J6 : Pick z (a :: b :: c :: d :: e :: f :: z :: L) (a :: b :: c :: d :: e :: f :: L) := .t J5
theorem J7 : Pick z (a :: b :: c :: d :: e :: f :: g :: z :: L) (a :: b :: c :: d :: e :: f :: g :: L) := .t J6
theorem J8 : Pick z (a :: b :: c :: d :: e :: f :: g :: h :: z :: L) (a :: b :: c :: d :: e :: f :: g :: h :: L) := .t J7
theorem J9 : Pick z (a :: b :: c :: d :: e :: f :: g :: h :: i :: z :: L) (a :: b :: c :: d :: e :: f :: g :: h :: i :: L) := .t J8
theorem J10 : Pick z (a :: b :: c :: d :: e :: f :: g :: h :: i :: j :: z :: L) (a :: b :: c :: d :: e :: f :: g :: h :: i :: j :: L) := .t J9
theorem J11 : Pick z (a :: b :: c :: d :: e :: f :: g :: h :: i :: j :: k :: z :: L) (a :: b :: c :: d :: e :: f :: g :: h :: i :: j :: k :: L) := .t J10
theorem J12 : Pick z (a :: b :: c :: d :: e :: f :: g :: h :: i :: j :: k :: l :: z :: L) (a :: b :: c :: d :: e :: f :: g :: h :: i :: j :: k :: l :: L) := .t J11
theorem J13 : Pick z (a :: b :: c :: d :: e :: f :: g :: h :: i :: j :: k :: l :: m :: z :: L) (a :: b :: c :: d :: e :: f :: g :: h :: i :: j :: k :: l :: m :: L) := .t J12
theorem J14 : Pick z (a :: b :: c :: d :: e :: f :: g :: h :: i :: j :: k :: l :: m :: n :: z :: L) (a :: b :: c :: d :: e :: f :: g :: h :: i :: j :: k :: l :: m :: n :: L) := .t J13
theorem J15 : Pick z (a :: b :: c :: d :: e :: f :: g :: h :: i :: j :: k :: l :: m :: n :: o :: z :: L) (a :: b :: c :: d :: e :: f :: g :: h :: i :: j :: k :: l :: m :: n :: o :: L) := .t J14
theorem J16 : Pick z (a :: b :: c :: d :: e :: f :: g :: h :: i :: j :: k :: l :: m :: n :: o :: p :: z :: L) (a :: b :: c :: d :: e :: f :: g :: h :: i :: j :: k :: l :: m :: n :: o :: p :: L) := .t J15
theorem J17 : Pick z (a :: b :: c :: d :: e :: f :: g :: h :: i :: j :: k :: l :: m :: n :: o :: p :: q :: z :: L) (a :: b :: c :: d :: e :: f :: g :: h :: i :: j :: k :: l :: m :: n :: o :: p :: q :: L) := .t J16
theorem J18 : Pick z (a :: b :: c :: d :: e :: f :: g :: h :: i :: j :: k :: l :: m :: n :: o :: p :: q :: r :: z :: L) (a :: b :: c :: d :: e :: f :: g :: h :: i :: j :: k :: l :: m :: n :: o :: p :: q :: r :: L) := .t J17
theorem J19 : Pick z (a :: b :: c :: d :: e :: f :: g :: h :: i :: j :: k :: l :: m :: n :: o :: p :: q :: r :: s :: z :: L) (a :: b :: c :: d :: e :: f :: g :: h :: i :: j :: k :: l :: m :: n :: o :: p :: q :: r :: s :: L) := .t J18
theorem Y1 : At z y (a :: z :: L) (a :: y :: L) := .t .h
theorem Y2 : At z y (a :: b :: z :: L) (a :: b :: y :: L) := .t Y1
theorem Y3 : At z y (a :: b :: c :: z :: L) (a :: b :: c :: y :: L) := .t Y2
theorem Y4 : At z y (a :: b :: c :: d :: z :: L) (a :: b :: c :: d :: y :: L) := .t Y3
theorem Y5 : At z y (a :: b :: c :: d :: e :: z :: L) (a :: b :: c :: d :: e :: y :: L) := .t Y4
theorem Y6 : At z y (a :: b :: c :: d :: e :: f :: z :: L) (a :: b :: c :: d :: e :: f :: y :: L) := .t Y5
theorem Y7 : At z y (a :: b :: c :: d :: e :: f :: g :: z :: L) (a :: b :: c :: d :: e :: f :: g :: y :: L) := .t Y6
theorem Y8 : At z y (a :: b :: c :: d :: e :: f :: g :: h :: z :: L) (a :: b :: c :: d :: e :: f :: g :: h :: y :: L) := .t Y7
theorem Y9 : At z y (a :: b :: c :: d :: e :: f :: g :: h :: i :: z :: L) (a :: b :: c :: d :: e :: f :: g :: h :: i :: y :: L) := .t Y8
theorem Y10 : At z y (a :: b :: c :: d :: e :: f :: g :: h :: i :: j :: z :: L) (a :: b :: c :: d :: e :: f :: g :: h :: i :: j :: y :: L) := .t Y9
theorem Y11 : At z y (a :: b :: c :: d :: e :: f :: g :: h :: i :: j :: k :: z :: L) (a :: b :: c :: d :: e :: f :: g :: h :: i :: j :: k :: y :: L) := .t Y10
theorem Y12 : At z y (a :: b :: c :: d :: e :: f :: g :: h :: i :: j :: k :: l :: z :: L) (a :: b :: c :: d :: e :: f :: g :: h :: i :: j :: k :: l :: y :: L) := .t Y11
theorem Y13 : At z y (a :: b :: c :: d :: e :: f :: g :: h :: i :: j :: k :: l :: m :: z :: L) (a :: b :: c :: d :: e :: f :: g :: h :: i :: j :: k :: l :: m :: y :: L) := .t Y12
theorem Y14 : At z y (a :: b :: c :: d :: e :: f :: g :: h :: i :: j :: k :: l :: m :: n :: z :: L) (a :: b :: c :: d :: e :: f :: g :: h :: i :: j :: k :: l :: m :: n :: y :: L) := .t Y13
theorem Y15 : At z y (a :: b :: c :: d :: e :: f :: g :: h :: i :: j :: k :: l :: m :: n :: o :: z :: L) (a :: b :: c :: d :: e :: f :: g :: h :: i :: j :: k :: l :: m :: n :: o :: y :: L) := .t Y14
end
section
variable {P : Program} {n : Nat} {ops : Array Oper} {Q : Exit → Fr → World → Prop} {rest : List Oper} {F : Fr} {w : World} {op : Op} {d : Nat} {v : Value} {ty : TypeId} {pos : String} {after : Array Edge}
theorem qV (hd : Nat.blt d n = true) (hrun : (execOp (evO F) ⟨some d, op, ty, pos, after, none⟩).run P w = .ok (.value v) w) (k : WL P n ops Q rest (upd F d v) w) : WL P n ops Q (⟨some d, op, ty, pos, after, none⟩ :: rest) F w := WL.q (Wn.no rfl) rfl hd hrun k
theorem qM {x : Operand} (v : Value) (hd : Nat.blt d n = true) (hx : evO F x = v) (k : WL P n ops Q rest (upd F d v) w) : WL P n ops Q (⟨some d, .move x, ty, pos, after, none⟩ :: rest) F w := qV hd (R.move hx) k
theorem qA {x : Operand} (v : Value) (hd : Nat.blt d n = true) (hx : evO F x = v) (k : WL P n ops Q rest (upd F d v) w) : WL P n ops Q (⟨some d, .assign x, ty, pos, after, none⟩ :: rest) F w := qV hd (R.assign hx) k
theorem qT {S : World → Prop} {i : Nat} {r : Pn} {K : Fr → World → Prop} (hi : ops.toList[i]? = some ⟨some d, op, ty, pos, after, none⟩) (hd : Nat.blt d n = true) (hrun : ∀ w, S w → (execOp (evO F) ⟨some d, op, ty, pos, after, none⟩).run P w = .ok (.value v) w) (k : WT P n ops S K r (upd F d v) w) : WT P n ops S K (.q i r) F w := WT.q hi (Wn.no rfl) rfl hd hrun k
theorem oN {S : World → Prop} {K : Fr → World → Prop} {i : Nat} {r : Pn} {dst : Option Tmp} (hi : ops.toList[i]? = some ⟨dst, op, ty, pos, after, none⟩) (h : WL P n ops (onlyN fun G v => S v ∧ WT P n ops S K r G v) [⟨dst, op, ty, pos, after, none⟩] F w) : Op1 P n ops S K i r F w := Op1.one hi (Wn.no rfl) h
end
abbrev pO (b o : Nat) : Value := .pointer (some ⟨b, o, none⟩)
abbrev vn (k : Nat) : Value := vi (k : Int)
abbrev zB (n : Nat) : List UInt8 := List.replicate n 0
abbrev zW (n : Nat) : List UInt64 := List.replicate n 0
abbrev zV (n : Nat) : List UInt32 := List.replicate n 0
section
variable {M : List Nat} {F F0 : Fr}
theorem U2 {d0 d1 : Nat} {v0 v1 : Value} (h0 : memN M d0 = true) (h1 : memN M d1 = true) (h : Ag M F F0) : Ag M (upd (upd F d1 v1) d0 v0) F0 := (Ag.upd h0 (Ag.upd h1 h))
theorem U4 {d0 d1 d2 d3 : Nat} {v0 v1 v2 v3 : Value} (h0 : memN M d0 = true) (h1 : memN M d1 = true) (h2 : memN M d2 = true) (h3 : memN M d3 = true) (h : Ag M F F0) : Ag M (upd (upd (upd (upd F d3 v3) d2 v2) d1 v1) d0 v0) F0 := (Ag.upd h0 (Ag.upd h1 (Ag.upd h2 (Ag.upd h3 h))))
end
end Go.Vc
namespace Go.Vc
open Go.RowKit
section
variable {a b c d e f g i j k l m n o p q r s t u v y z : Ent} {L : List Ent} {B : Nat} {w : World}
theorem N0 (h : ∀ x ∈ a :: L, x.ok B w) : SL B [a] w := SL.cons (h _ M0) (SL.nil _ _)
theorem N0_1 (h : ∀ x ∈ a :: b :: L, x.ok B w) : SL B [a, b] w := SL.cons (h _ M0) (SL.cons (h _ M1) (SL.nil _ _))
theorem N0_1_2_3_4_5_6_7_8 (h : ∀ x ∈ a :: b :: c :: d :: e :: f :: g :: i :: j :: L, x.ok B w) : SL B [a, b, c, d, e, f, g, i, j] w := SL.cons (h _ M0) (SL.cons (h _ M1) (SL.cons (h _ M2) (SL.cons (h _ M3) (SL.cons (h _ M4) (SL.cons (h _ M5) (SL.cons (h _ M6) (SL.cons (h _ M7) (SL.cons (h _ M8) (SL.nil _ _)))))))))
theorem N0_1_2_3_4_5_6_7_8_9 (h : ∀ x ∈ a :: b :: c :: d :: e :: f :: g :: i :: j :: k :: L, x.ok B w) : SL B [a, b, c, d, e, f, g, i, j, k] w := SL.cons (h _ M0) (SL.cons (h _ M1) (SL.cons (h _ M2) (SL.cons (h _ M3) (SL.cons (h _ M4) (SL.cons (h _ M5) (SL.cons (h _ M6) (SL.cons (h _ M7) (SL.cons (h _ M8) (SL.cons (h _ M9) (SL.nil _ _))))))))))
theorem N0_2 (h : ∀ x ∈ a :: b :: c :: L, x.ok B w) : SL B [a, c] w := SL.cons (h _ M0) (SL.cons (h _ M2) (SL.nil _ _))
theorem N1_2 (h : ∀ x ∈ a :: b :: c :: L, x.ok B w) : SL B [b, c] w := SL.cons (h _ M1) (SL.cons (h _ M2) (SL.nil _ _))
theorem N1_2_3 (h : ∀ x ∈ a :: b :: c :: d :: L, x.ok B w) : SL B [b, c, d] w := SL.cons (h _ M1) (SL.cons (h _ M2) (SL.cons (h _ M3) (SL.nil _ _)))
theorem N1_2_3_4_5 (h : ∀ x ∈ a :: b :: c :: d :: e :: f :: L, x.ok B w) : SL B [b, c, d, e, f] w := SL.cons (h _ M1) (SL.cons (h _ M2) (SL.cons (h _ M3) (SL.cons (h _ M4) (SL.cons (h _ M5) (SL.nil _ _)))))
theorem N1_2_3_4_5_6_7_8_9_10 (h : ∀ x ∈ a :: b :: c :: d :: e :: f :: g :: i :: j :: k :: l :: L, x.ok B w) : SL B [b, c, d, e, f, g, i, j, k, l] w := SL.cons (h _ M1) (SL.cons (h _ M2) (SL.cons (h _ M3) (SL.cons (h _ M4) (SL.cons (h _ M5) (SL.cons (h _ M6) (SL.cons (h _ M7) (SL.cons (h _ M8) (SL.cons (h _ M9) (SL.cons (h _ M10) (SL.nil _ _))))))))))
theorem N1_2_3_4_5_6_7_8_9_10_11_12 (h : ∀ x ∈ a :: b :: c :: d :: e :: f :: g :: i :: j :: k :: l :: m :: n :: L, x.ok B w) : SL B [b, c, d, e, f, g, i, j, k, l, m, n] w := SL.cons (h _ M1) (SL.cons (h _ M2) (SL.cons (h _ M3) (SL.cons (h _ M4) (SL.cons (h _ M5) (SL.cons (h _ M6) (SL.cons (h _ M7) (SL.cons (h _ M8) (SL.cons (h _ M9) (SL.cons (h _ M10) (SL.cons (h _ M11) (SL.cons (h _ M12) (SL.nil _ _))))))))))))
theorem N1_2_3_4_5_8_9_10_11_12 (h : ∀ x ∈ a :: b :: c :: d :: e :: f :: g :: i :: j :: k :: l :: m :: n :: L, x.ok B w) : SL B [b, c, d, e, f, j, k, l, m, n] w := SL.cons (h _ M1) (SL.cons (h _ M2) (SL.cons (h _ M3) (SL.cons (h _ M4) (SL.cons (h _ M5) (SL.cons (h _ M8) (SL.cons (h _ M9) (SL.cons (h _ M10) (SL.cons (h _ M11) (SL.cons (h _ M12) (SL.nil _ _))))))))))
theorem N1_3_4_5_6_7_8_9 (h : ∀ x ∈ a :: b :: c :: d :: e :: f :: g :: i :: j :: k :: L, x.ok B w) : SL B [b, d, e, f, g, i, j, k] w := SL.cons (h _ M1) (SL.cons (h _ M3) (SL.cons (h _ M4) (SL.cons (h _ M5) (SL.cons (h _ M6) (SL.cons (h _ M7) (SL.cons (h _ M8) (SL.cons (h _ M9) (SL.nil _ _))))))))
theorem N1_3_4_5_6_7_9_10_11 (h : ∀ x ∈ a :: b :: c :: d :: e :: f :: g :: i :: j :: k :: l :: m :: L, x.ok B w) : SL B [b, d, e, f, g, i, k, l, m] w := SL.cons (h _ M1) (SL.cons (h _ M3) (SL.cons (h _ M4) (SL.cons (h _ M5) (SL.cons (h _ M6) (SL.cons (h _ M7) (SL.cons (h _ M9) (SL.cons (h _ M10) (SL.cons (h _ M11) (SL.nil _ _)))))))))
theorem N2_3 (h : ∀ x ∈ a :: b :: c :: d :: L, x.ok B w) : SL B [c, d] w := SL.cons (h _ M2) (SL.cons (h _ M3) (SL.nil _ _))
theorem N2_3_4 (h : ∀ x ∈ a :: b :: c :: d :: e :: L, x.ok B w) : SL B [c, d, e] w := SL.cons (h _ M2) (SL.cons (h _ M3) (SL.cons (h _ M4) (SL.nil _ _)))
theorem N2_3_4_5_6 (h : ∀ x ∈ a :: b :: c :: d :: e :: f :: g :: L, x.ok B w) : SL B [c, d, e, f, g] w := SL.cons (h _ M2) (SL.cons (h _ M3) (SL.cons (h _ M4) (SL.cons (h _ M5) (SL.cons (h _ M6) (SL.nil _ _)))))
theorem N2_3_4_5_6_7_8_9_10_11 (h : ∀ x ∈ a :: b :: c :: d :: e :: f :: g :: i :: j :: k :: l :: m :: L, x.ok B w) : SL B [c, d, e, f, g, i, j, k, l, m] w := SL.cons (h _ M2) (SL.cons (h _ M3) (SL.cons (h _ M4) (SL.cons (h _ M5) (SL.cons (h _ M6) (SL.cons (h _ M7) (SL.cons (h _ M8) (SL.cons (h _ M9) (SL.cons (h _ M10) (SL.cons (h _ M11) (SL.nil _ _))))))))))
theorem N2_3_4_5_6_7_8_9_10_11_12_13 (h : ∀ x ∈ a :: b :: c :: d :: e :: f :: g :: i :: j :: k :: l :: m :: n :: o :: L, x.ok B w) : SL B [c, d, e, f, g, i, j, k, l, m, n, o] w := SL.cons (h _ M2) (SL.cons (h _ M3) (SL.cons (h _ M4) (SL.cons (h _ M5) (SL.cons (h _ M6) (SL.cons (h _ M7) (SL.cons (h _ M8) (SL.cons (h _ M9) (SL.cons (h _ M10) (SL.cons (h _ M11) (SL.cons (h _ M12) (SL.cons (h _ M13) (SL.nil _ _))))))))))))
theorem N3_4 (h : ∀ x ∈ a :: b :: c :: d :: e :: L, x.ok B w) : SL B [d, e] w := SL.cons (h _ M3) (SL.cons (h _ M4) (SL.nil _ _))
theorem N5_6_7 (h : ∀ x ∈ a :: b :: c :: d :: e :: f :: g :: i :: L, x.ok B w) : SL B [f, g, i] w := SL.cons (h _ M5) (SL.cons (h _ M6) (SL.cons (h _ M7) (SL.nil _ _)))
theorem N5_7_8_10_11_12 (h : ∀ x ∈ a :: b :: c :: d :: e :: f :: g :: i :: j :: k :: l :: m :: n :: L, x.ok B w) : SL B [f, i, j, l, m, n] w := SL.cons (h _ M5) (SL.cons (h _ M7) (SL.cons (h _ M8) (SL.cons (h _ M10) (SL.cons (h _ M11) (SL.cons (h _ M12) (SL.nil _ _))))))
end
end Go.Vc
namespace Go.Proofs.Ytbhllplbbkmndaa
open Go.Proofs.Try
open Go.Vc Go.RowKit
set_option maxRecDepth 20000
theorem el72 : ElT Try.prog 72 5 1 1 := ElT.mk' underlying72 (i := Try.t5) rfl rfl rfl rfl rfl rfl
def rvL (bs : List UInt8) (i : Nat) : List UInt8 := (List.range bs.length).map fun k => if k < i ∨ bs.length - 1 - k < i then bs.getD (bs.length - 1 - k) 0 else bs.getD k 0
theorem rvL_len (bs : List UInt8) (i : Nat) : (rvL bs i).length = bs.length := by simp [rvL]
theorem rvL_0 (bs : List UInt8) : rvL bs 0 = bs := by
 apply List.ext_getElem
 ·simp [rvL]
 ·intro k h1 h2; simp [rvL, h2]
theorem rvL_get {bs : List UInt8} {i k : Nat} (h : k < bs.length) : (rvL bs i).getD k 0 = if k < i ∨ bs.length - 1 - k < i then bs.getD (bs.length - 1 - k) 0 else bs.getD k 0 := by
 simp [rvL, h]
theorem rvL_end {bs : List UInt8} {i : Nat} (h : ¬ i < bs.length - 1 - i) (hi : bs.length ≤ 2 * i + 1) : rvL bs i = bs.reverse := by
 apply List.ext_getElem
 ·simp [rvL]
 ·intro k h1 h2
  have hk : k < bs.length := by simpa using h2
  simp only [rvL, List.getElem_map, List.getElem_range, List.getElem_reverse]
  by_cases hc : k < i ∨ bs.length - 1 - k < i
  ·rw [if_pos hc]; simp [List.getD_eq_getElem?_getD, show bs.length - 1 - k < bs.length by omega]
  ·rw [if_neg hc]
   have : bs.length - 1 - k = k := by omega
   simp [List.getD_eq_getElem?_getD, hk, this]
theorem rvL_step {bs : List UInt8} {i n : Nat} (hn : bs.length = n) (h : i < n - 1 - i) : ((rvL bs i).set i ((rvL bs i).getD (n - 1 - i) 0)).set (n - 1 - i) ((rvL bs i).getD i 0) = rvL bs (i + 1) := by
 subst hn
 rw [rvL_get (by omega), rvL_get (by omega), if_neg (by omega), if_neg (by omega)]
 apply List.ext_getElem
 ·simp [rvL]
 ·intro k h1 h2
  have hk : k < bs.length := by simpa [rvL] using h2
  simp only [List.getElem_set, rvL, List.getElem_map, List.getElem_range]
  by_cases e1 : bs.length - 1 - i = k
  ·rw [if_pos e1, if_pos (by omega)]; congr 1; omega
  ·rw [if_neg e1]
   by_cases e2 : i = k
   ·rw [if_pos e2, if_pos (by omega)]; congr 1; omega
   ·rw [if_neg e2]
    by_cases hc : k < i ∨ bs.length - 1 - k < i
    ·rw [if_pos hc, if_pos (by omega)]
    ·rw [if_neg hc, if_neg (by omega)]
theorem c_Clone (a : Option Addr) (n cap : Nat) (bs : List UInt8) (hl : bs.length = n) (hn : n ≤ 1099511627776) (w : World) (hv : View w a (bs.map vu8)) :
  Cs Try.prog 55 [(.slice a n cap)].toArray w (fun v w1 => ∃ a cap, v = .slice a n cap ∧ Chg w w1 [] ∧ Own w.heap.size w1 5 1 a n cap ((bs).map vu8)) := by
 refine Cs.of (n := 8) (args := [(.slice a n cap)]) Try.func55 rfl rfl rfl ?_
 have h_0 := HP.init w
 have h_00 := h_0.old (View.arg hv) (fun f hf => by cases hf)
 refine WP.seq (WP.reg ?_)
 refine qA (.slice none 0 0) rfl rfl ?_
 refine WL.nil (thn_n (WP.seq (WP.seq (WP.reg ?_))))
 refine qM (.slice a n cap) rfl rfl (qV rfl (R.eqNilS rfl rfl underlying72) ?_)
 refine WL.nil (thn_n ?_)
 refine WP.cond (b := a.isNone) rfl (fun c_1 => ?_) (fun c_1 => ?_)
 ·refine WP.seq (WP.reg ?_)
  refine qA (.slice none 0 0) rfl rfl ?_
  refine WL.nil (thn_n (WP.ret (thn_r ?_)))
  refine ret_of results55 (RV.tmp (v := (.slice none 0 0)) rfl RV.nil) ?_
  obtain rfl : bs = [] := view_none c_1 hv
  obtain rfl : n = 0 := hl.symm
  exact ⟨none, 0, rfl, h_00.chgS, Own.nil ..⟩
 ·refine WP.skip (thn_n (WP.seq (WP.reg ?_)))
  refine WL.buildSl0 h_00 underlying72 sizeOf5 rfl (fun b_2 w_3 h_4 => ?_)
  refine qM (.slice a n cap) rfl rfl ?_
  refine WL.append (km := n) (xs := []) (ys := bs.map vu8) (zs := (([] : List UInt8) ++ bs).map vu8) h_4 rfl rfl el72 (viewV (h_4.ok _ M1)) ((len_map hl).trans (Nat.mul_one _).symm) (one_u8 _) (by simp only [List.map_append, List.map_nil]) (by omega) (by omega) (by omega) (fun _ _ => At.h) rfl (fun a_5 c_6 w_7 h_8 => ?_)
  refine qA (.slice a_5 n c_6) rfl rfl ?_
  refine WL.nil (thn_n (WP.ret ?_))
  refine ret_of results55 (RV.tmp (v := (.slice a_5 n c_6)) rfl RV.nil) ?_
  rw [List.nil_append] at h_8
  exact ⟨_, _, rfl, h_8.chgS, h_8.ok _ M0⟩

theorem c_Reverse {w00 : World} {L : List Ent} (a : Option Addr) (n cap : Nat) (bs : List UInt8) (hl : bs.length = n) (hn : n ≤ 1099511627776) (w : World) (h_0 : HP w00 w (Ent.row a n cap 5 1 ((bs).map vu8) :: L)) :
  Cs Try.prog 75 [(.slice a n cap)].toArray w (fun v w1 => v = .tuple [].toArray ∧ HP w00 w1 (.row a n cap 5 1 (bs.reverse.map vu8) :: L)) := by
 refine Cs.of (n := 28) (args := [(.slice a n cap)]) Try.func75 rfl rfl rfl ?_
 refine WP.seq (WP.reg ?_)
 refine qM (.slice a n cap) rfl rfl (qV rfl (R.lenS (a := a) (m := n) rfl rfl underlying72) (qV rfl (R.bin rfl rfl (bi_sub (c := (n : Int) - 1) (by omega) (by omega))) (qA (vi 0) rfl rfl (qA (vi ((n : Int) - 1)) rfl rfl ?_))))
 refine WL.nil (thn_n (WP.block ?_))
 refine WP.loopG (G := Nat) [2, 3, 7, 8, 9, 10, 11, 12, 13, 14, 15, 16, 17, 18, 19, 20, 21, 22, 23, 24, 25, 26, 27] (fun i => [(2, (vn i)), (3, (vi ((n : Int) - 1 - (i : Int))))]) (fun i m w1 => HP w00 w1 (Ent.row a n cap 5 1 ((rvL bs i).map vu8) :: L) ∧ (2 * i ≤ n + 1) ∧ m = n + 1 - 2 * i) ⟨0, _, ⟨rfl, congrArg vi (by omega), trivial⟩, (by rw [rvL_0]; exact h_0), (by omega), rfl⟩ ?_
 rintro i m_3 J_4 w_1 ⟨h_2, hi, rfl⟩
 refine WP.seq (WP.seq (WP.reg ?_))
 refine qM (vn i) rfl rfl (qM (vi ((n : Int) - 1 - (i : Int))) rfl rfl (qV rfl (R.bin rfl rfl (bi_lss (r := decide ((((i : Nat) : Int) : Int) < ((n : Int) - 1 - (i : Int)))) rfl)) ?_))
 refine WL.nil (thn_n ?_)
 refine WP.cond (b := decide ((((i : Nat) : Int) : Int) < ((n : Int) - 1 - (i : Int)))) rfl (fun c_5 => ?_) (fun c_5 => ?_)
 ·have p_6 := of_decide_eq_true c_5
  refine WP.skip (thn_n (WP.seq (WP.block ?_)))
  refine WP.cutG (G := Unit) [14, 15, 16, 17, 18, 19, 20, 21, 22, 23, 24, 25, 26, 27] (fun _ => [(14, (.slice a n cap)), (15, (vn i)), (16, (.slice a n cap)), (17, (vn (n - 1 - i))), (18, (.slice a n cap)), (19, (vn (n - 1 - i))), (22, (.slice a n cap)), (23, (vn i)), (20, (.pointer (some (gA a (n - 1 - i))))), (21, (vu8 ((rvL bs i).getD (n - 1 - i) 0))), (24, (.pointer (some (gA a i)))), (25, (vu8 ((rvL bs i).getD i 0))), (26, (.pointer (some (gA a i)))), (27, (.pointer (some (gA a (n - 1 - i)))))]) (fun _ w1 => HP w00 w1 (Ent.row a n cap 5 1 ((((rvL bs i).set i ((rvL bs i).getD (n - 1 - i) 0)).set (n - 1 - i) ((rvL bs i).getD i 0)).map vu8) :: L)) ?_ ?_
  ·refine WP.drawZ 15 (SL w00.heap.size []) (.q 0 (.q 1 (.q 2 (.q 3 (.q 4 (.q 5 (.q 8 (.q 9 (.s2 6 10 (.s2 7 10 (.s 10 (.s 11 (.s 12 (.s 13 (.s 14 (.s 15 .nil)))))) (.s2 7 11 (.s 11 (.s 12 (.s 13 (.s 14 (.s 15 .nil))))) (.s 7 (.s 12 (.s 13 (.s 14 (.s 15 .nil))))))) (.s2 6 11 (.s2 7 11 (.s 11 (.s 12 (.s 13 (.s 14 (.s 15 .nil))))) (.s 7 (.s 12 (.s 13 (.s 14 (.s 15 .nil)))))) (.s 6 (.s 7 (.s 12 (.s 13 (.s 14 (.s 15 .nil)))))))))))))))) (by kernel_rfl) (by kernel_rfl) rfl (by kernel_rfl) (fun w_7 hc_9 => (SL.nil _ _)) (fun w_7 hc_9 => ?_)
   have h_8 := h_2.same hc_9
   refine ZT.q rfl (Wn.no rfl) rfl rfl (fun wq hS => R.move (v := (.slice a n cap)) rfl) ?_
   refine ZT.q rfl (Wn.no rfl) rfl rfl (fun wq hS => R.move (v := (vn i)) rfl) ?_
   refine ZT.q rfl (Wn.no rfl) rfl rfl (fun wq hS => R.move (v := (.slice a n cap)) rfl) ?_
   refine ZT.q rfl (Wn.no rfl) rfl rfl (fun wq hS => R.move (v := (vn (n - 1 - i))) (congrArg vi (show (n : Int) - 1 - (i : Int) = ((n - 1 - i : Nat) : Int) by omega))) ?_
   refine ZT.q rfl (Wn.no rfl) rfl rfl (fun wq hS => R.move (v := (.slice a n cap)) rfl) ?_
   refine ZT.q rfl (Wn.no rfl) rfl rfl (fun wq hS => R.move (v := (vn (n - 1 - i))) (congrArg vi (show (n : Int) - 1 - (i : Int) = ((n - 1 - i : Nat) : Int) by omega))) ?_
   refine ZT.q rfl (Wn.no rfl) rfl rfl (fun wq hS => R.move (v := (.slice a n cap)) rfl) ?_
   refine ZT.q rfl (Wn.no rfl) rfl rfl (fun wq hS => R.move (v := (vn i)) rfl) ?_
   refine ZT.s2 ?_ ?_
   ·refine OpZ.one rfl (Wn.no rfl) ?_
    refine qV rfl (R.indexS (a := a) (i := n - 1 - i) (off := n - 1 - i) (xs := (rvL bs i).map vu8) rfl rfl rfl (by omega) (ownView (h_8.ok _ M0)) (lt_len (K := n) (len_map ((rvL_len bs i).trans hl)) (by omega)) underlying72 sizeOf5 (Nat.mul_one _).symm) ?_
    refine WL.nil ?_
    refine ⟨(SL.nil _ _), ?_⟩
    refine ZT.s2 ?_ ?_
    ·refine OpZ.one rfl (Wn.no rfl) ?_
     refine qV rfl (R.loadG rfl (ownView (h_8.ok _ M0)) isAgg5 (get_u8 (lt_len (K := n) ((rvL_len bs i).trans hl) (by omega)))) ?_
     refine WL.nil ?_
     refine ⟨(SL.nil _ _), ?_⟩
     refine ZT.s ?_
     refine OpZ.one rfl (Wn.no rfl) ?_
     refine qV rfl (R.indexS (a := a) (i := i) (off := i) (xs := (rvL bs i).map vu8) rfl rfl rfl (by omega) (ownView (h_8.ok _ M0)) (lt_len (K := n) (len_map ((rvL_len bs i).trans hl)) (by omega)) underlying72 sizeOf5 (Nat.mul_one _).symm) ?_
     refine WL.nil ?_
     refine ⟨(SL.nil _ _), ?_⟩
     refine ZT.s ?_
     refine OpZ.one rfl (Wn.no rfl) ?_
     refine qV rfl (R.loadG rfl (ownView (h_8.ok _ M0)) isAgg5 (get_u8 (lt_len (K := n) ((rvL_len bs i).trans hl) (by omega)))) ?_
     refine WL.nil ?_
     refine ⟨(SL.nil _ _), ?_⟩
     refine ZT.s ?_
     refine OpZ.one rfl (Wn.no rfl) ?_
     refine qV rfl (R.indexS (a := a) (i := i) (off := i) (xs := (rvL bs i).map vu8) rfl rfl rfl (by omega) (ownView (h_8.ok _ M0)) (lt_len (K := n) (len_map ((rvL_len bs i).trans hl)) (by omega)) underlying72 sizeOf5 (Nat.mul_one _).symm) ?_
     refine WL.nil ?_
     refine ⟨(SL.nil _ _), ?_⟩
     refine ZT.s ?_
     refine OpZ.one rfl (Wn.no rfl) ?_
     refine WL.storeR (a := a) (i := i) (v := (vu8 ((rvL bs i).getD (n - 1 - i) 0))) (xs' := ((rvL bs i).set i ((rvL bs i).getD (n - 1 - i) 0)).map vu8) h_8 rfl rfl sizeOf5 rfl At.h (lt_len (K := n) (len_map ((rvL_len bs i).trans hl)) (by omega)) (set_u8 _ _ _) (fun w_10 h_11 => ?_)
     refine WL.nil ?_
     refine ⟨(SL.nil _ _), ?_⟩
     refine ZT.s ?_
     refine OpZ.one rfl (Wn.no rfl) ?_
     refine qV rfl (R.indexS (a := a) (i := n - 1 - i) (off := n - 1 - i) (xs := ((rvL bs i).set i ((rvL bs i).getD (n - 1 - i) 0)).map vu8) rfl rfl rfl (by omega) (ownView (h_11.ok _ M0)) (lt_len (K := n) (len_map (len_set ((rvL_len bs i).trans hl) _ _)) (by omega)) underlying72 sizeOf5 (Nat.mul_one _).symm) ?_
     refine WL.nil ?_
     refine ⟨(SL.nil _ _), ?_⟩
     refine ZT.s ?_
     refine OpZ.last rfl (Wn.no rfl) ?_
     refine WL.storeR (a := a) (i := n - 1 - i) (v := (vu8 ((rvL bs i).getD i 0))) (xs' := (((rvL bs i).set i ((rvL bs i).getD (n - 1 - i) 0)).set (n - 1 - i) ((rvL bs i).getD i 0)).map vu8) h_11 rfl rfl sizeOf5 rfl At.h (lt_len (K := n) (len_map (len_set ((rvL_len bs i).trans hl) _ _)) (by omega)) (set_u8 _ _ _) (fun w_12 h_13 => ?_)
     refine WL.nil (ZT.nil (thn_n ?_))
     exact ⟨(), (U2 rfl rfl (U4 rfl rfl rfl rfl (U4 rfl rfl rfl rfl (U4 rfl rfl rfl rfl (Ag.refl _ _))))), ⟨rfl, rfl, rfl, rfl, rfl, rfl, rfl, rfl, rfl, rfl, rfl, rfl, rfl, rfl, trivial⟩, h_13⟩
    ·refine OpZ.one rfl (Wn.no rfl) ?_
     refine qV rfl (R.indexS (a := a) (i := i) (off := i) (xs := (rvL bs i).map vu8) rfl rfl rfl (by omega) (ownView (h_8.ok _ M0)) (lt_len (K := n) (len_map ((rvL_len bs i).trans hl)) (by omega)) underlying72 sizeOf5 (Nat.mul_one _).symm) ?_
     refine WL.nil ?_
     refine ⟨(SL.nil _ _), ?_⟩
     refine ZT.s2 ?_ ?_
     ·refine OpZ.one rfl (Wn.no rfl) ?_
      refine qV rfl (R.loadG rfl (ownView (h_8.ok _ M0)) isAgg5 (get_u8 (lt_len (K := n) ((rvL_len bs i).trans hl) (by omega)))) ?_
      refine WL.nil ?_
      refine ⟨(SL.nil _ _), ?_⟩
      refine ZT.s ?_
      refine OpZ.one rfl (Wn.no rfl) ?_
      refine qV rfl (R.loadG rfl (ownView (h_8.ok _ M0)) isAgg5 (get_u8 (lt_len (K := n) ((rvL_len bs i).trans hl) (by omega)))) ?_
      refine WL.nil ?_
      refine ⟨(SL.nil _ _), ?_⟩
      refine ZT.s ?_
      refine OpZ.one rfl (Wn.no rfl) ?_
      refine qV rfl (R.indexS (a := a) (i := i) (off := i) (xs := (rvL bs i).map vu8) rfl rfl rfl (by omega) (ownView (h_8.ok _ M0)) (lt_len (K := n) (len_map ((rvL_len bs i).trans hl)) (by omega)) underlying72 sizeOf5 (Nat.mul_one _).symm) ?_
      refine WL.nil ?_
      refine ⟨(SL.nil _ _), ?_⟩
      refine ZT.s ?_
      refine OpZ.one rfl (Wn.no rfl) ?_
      refine WL.storeR (a := a) (i := i) (v := (vu8 ((rvL bs i).getD (n - 1 - i) 0))) (xs' := ((rvL bs i).set i ((rvL bs i).getD (n - 1 - i) 0)).map vu8) h_8 rfl rfl sizeOf5 rfl At.h (lt_len (K := n) (len_map ((rvL_len bs i).trans hl)) (by omega)) (set_u8 _ _ _) (fun w_14 h_15 => ?_)
      refine WL.nil ?_
      refine ⟨(SL.nil _ _), ?_⟩
      refine ZT.s ?_
      refine OpZ.one rfl (Wn.no rfl) ?_
      refine qV rfl (R.indexS (a := a) (i := n - 1 - i) (off := n - 1 - i) (xs := ((rvL bs i).set i ((rvL bs i).getD (n - 1 - i) 0)).map vu8) rfl rfl rfl (by omega) (ownView (h_15.ok _ M0)) (lt_len (K := n) (len_map (len_set ((rvL_len bs i).trans hl) _ _)) (by omega)) underlying72 sizeOf5 (Nat.mul_one _).symm) ?_
      refine WL.nil ?_
      refine ⟨(SL.nil _ _), ?_⟩
      refine ZT.s ?_
      refine OpZ.last rfl (Wn.no rfl) ?_
      refine WL.storeR (a := a) (i := n - 1 - i) (v := (vu8 ((rvL bs i).getD i 0))) (xs' := (((rvL bs i).set i ((rvL bs i).getD (n - 1 - i) 0)).set (n - 1 - i) ((rvL bs i).getD i 0)).map vu8) h_15 rfl rfl sizeOf5 rfl At.h (lt_len (K := n) (len_map (len_set ((rvL_len bs i).trans hl) _ _)) (by omega)) (set_u8 _ _ _) (fun w_16 h_17 => ?_)
      refine WL.nil (ZT.nil (thn_n ?_))
      exact ⟨(), (U2 rfl rfl (U4 rfl rfl rfl rfl (U4 rfl rfl rfl rfl (U4 rfl rfl rfl rfl (Ag.refl _ _))))), ⟨rfl, rfl, rfl, rfl, rfl, rfl, rfl, rfl, rfl, rfl, rfl, rfl, rfl, rfl, trivial⟩, h_17⟩
     ·refine OpZ.one rfl (Wn.no rfl) ?_
      refine qV rfl (R.loadG rfl (ownView (h_8.ok _ M0)) isAgg5 (get_u8 (lt_len (K := n) ((rvL_len bs i).trans hl) (by omega)))) ?_
      refine WL.nil ?_
      refine ⟨(SL.nil _ _), ?_⟩
      refine ZT.s ?_
      refine OpZ.one rfl (Wn.no rfl) ?_
      refine qV rfl (R.loadG rfl (ownView (h_8.ok _ M0)) isAgg5 (get_u8 (lt_len (K := n) ((rvL_len bs i).trans hl) (by omega)))) ?_
      refine WL.nil ?_
      refine ⟨(SL.nil _ _), ?_⟩
      refine ZT.s ?_
      refine OpZ.one rfl (Wn.no rfl) ?_
      refine qV rfl (R.indexS (a := a) (i := i) (off := i) (xs := (rvL bs i).map vu8) rfl rfl rfl (by omega) (ownView (h_8.ok _ M0)) (lt_len (K := n) (len_map ((rvL_len bs i).trans hl)) (by omega)) underlying72 sizeOf5 (Nat.mul_one _).symm) ?_
      refine WL.nil ?_
      refine ⟨(SL.nil _ _), ?_⟩
      refine ZT.s ?_
      refine OpZ.one rfl (Wn.no rfl) ?_
      refine WL.storeR (a := a) (i := i) (v := (vu8 ((rvL bs i).getD (n - 1 - i) 0))) (xs' := ((rvL bs i).set i ((rvL bs i).getD (n - 1 - i) 0)).map vu8) h_8 rfl rfl sizeOf5 rfl At.h (lt_len (K := n) (len_map ((rvL_len bs i).trans hl)) (by omega)) (set_u8 _ _ _) (fun w_18 h_19 => ?_)
      refine WL.nil ?_
      refine ⟨(SL.nil _ _), ?_⟩
      refine ZT.s ?_
      refine OpZ.one rfl (Wn.no rfl) ?_
      refine qV rfl (R.indexS (a := a) (i := n - 1 - i) (off := n - 1 - i) (xs := ((rvL bs i).set i ((rvL bs i).getD (n - 1 - i) 0)).map vu8) rfl rfl rfl (by omega) (ownView (h_19.ok _ M0)) (lt_len (K := n) (len_map (len_set ((rvL_len bs i).trans hl) _ _)) (by omega)) underlying72 sizeOf5 (Nat.mul_one _).symm) ?_
      refine WL.nil ?_
      refine ⟨(SL.nil _ _), ?_⟩
      refine ZT.s ?_
      refine OpZ.last rfl (Wn.no rfl) ?_
      refine WL.storeR (a := a) (i := n - 1 - i) (v := (vu8 ((rvL bs i).getD i 0))) (xs' := (((rvL bs i).set i ((rvL bs i).getD (n - 1 - i) 0)).set (n - 1 - i) ((rvL bs i).getD i 0)).map vu8) h_19 rfl rfl sizeOf5 rfl At.h (lt_len (K := n) (len_map (len_set ((rvL_len bs i).trans hl) _ _)) (by omega)) (set_u8 _ _ _) (fun w_20 h_21 => ?_)
      refine WL.nil (ZT.nil (thn_n ?_))
      exact ⟨(), (U2 rfl rfl (U4 rfl rfl rfl rfl (U4 rfl rfl rfl rfl (U4 rfl rfl rfl rfl (Ag.refl _ _))))), ⟨rfl, rfl, rfl, rfl, rfl, rfl, rfl, rfl, rfl, rfl, rfl, rfl, rfl, rfl, trivial⟩, h_21⟩
   ·refine OpZ.one rfl (Wn.no rfl) ?_
    refine qV rfl (R.indexS (a := a) (i := i) (off := i) (xs := (rvL bs i).map vu8) rfl rfl rfl (by omega) (ownView (h_8.ok _ M0)) (lt_len (K := n) (len_map ((rvL_len bs i).trans hl)) (by omega)) underlying72 sizeOf5 (Nat.mul_one _).symm) ?_
    refine WL.nil ?_
    refine ⟨(SL.nil _ _), ?_⟩
    refine ZT.s2 ?_ ?_
    ·refine OpZ.one rfl (Wn.no rfl) ?_
     refine qV rfl (R.indexS (a := a) (i := n - 1 - i) (off := n - 1 - i) (xs := (rvL bs i).map vu8) rfl rfl rfl (by omega) (ownView (h_8.ok _ M0)) (lt_len (K := n) (len_map ((rvL_len bs i).trans hl)) (by omega)) underlying72 sizeOf5 (Nat.mul_one _).symm) ?_
     refine WL.nil ?_
     refine ⟨(SL.nil _ _), ?_⟩
     refine ZT.s2 ?_ ?_
     ·refine OpZ.one rfl (Wn.no rfl) ?_
      refine qV rfl (R.loadG rfl (ownView (h_8.ok _ M0)) isAgg5 (get_u8 (lt_len (K := n) ((rvL_len bs i).trans hl) (by omega)))) ?_
      refine WL.nil ?_
      refine ⟨(SL.nil _ _), ?_⟩
      refine ZT.s ?_
      refine OpZ.one rfl (Wn.no rfl) ?_
      refine qV rfl (R.loadG rfl (ownView (h_8.ok _ M0)) isAgg5 (get_u8 (lt_len (K := n) ((rvL_len bs i).trans hl) (by omega)))) ?_
      refine WL.nil ?_
      refine ⟨(SL.nil _ _), ?_⟩
      refine ZT.s ?_
      refine OpZ.one rfl (Wn.no rfl) ?_
      refine qV rfl (R.indexS (a := a) (i := i) (off := i) (xs := (rvL bs i).map vu8) rfl rfl rfl (by omega) (ownView (h_8.ok _ M0)) (lt_len (K := n) (len_map ((rvL_len bs i).trans hl)) (by omega)) underlying72 sizeOf5 (Nat.mul_one _).symm) ?_
      refine WL.nil ?_
      refine ⟨(SL.nil _ _), ?_⟩
      refine ZT.s ?_
      refine OpZ.one rfl (Wn.no rfl) ?_
      refine WL.storeR (a := a) (i := i) (v := (vu8 ((rvL bs i).getD (n - 1 - i) 0))) (xs' := ((rvL bs i).set i ((rvL bs i).getD (n - 1 - i) 0)).map vu8) h_8 rfl rfl sizeOf5 rfl At.h (lt_len (K := n) (len_map ((rvL_len bs i).trans hl)) (by omega)) (set_u8 _ _ _) (fun w_22 h_23 => ?_)
      refine WL.nil ?_
      refine ⟨(SL.nil _ _), ?_⟩
      refine ZT.s ?_
      refine OpZ.one rfl (Wn.no rfl) ?_
      refine qV rfl (R.indexS (a := a) (i := n - 1 - i) (off := n - 1 - i) (xs := ((rvL bs i).set i ((rvL bs i).getD (n - 1 - i) 0)).map vu8) rfl rfl rfl (by omega) (ownView (h_23.ok _ M0)) (lt_len (K := n) (len_map (len_set ((rvL_len bs i).trans hl) _ _)) (by omega)) underlying72 sizeOf5 (Nat.mul_one _).symm) ?_
      refine WL.nil ?_
      refine ⟨(SL.nil _ _), ?_⟩
      refine ZT.s ?_
      refine OpZ.last rfl (Wn.no rfl) ?_
      refine WL.storeR (a := a) (i := n - 1 - i) (v := (vu8 ((rvL bs i).getD i 0))) (xs' := (((rvL bs i).set i ((rvL bs i).getD (n - 1 - i) 0)).set (n - 1 - i) ((rvL bs i).getD i 0)).map vu8) h_23 rfl rfl sizeOf5 rfl At.h (lt_len (K := n) (len_map (len_set ((rvL_len bs i).trans hl) _ _)) (by omega)) (set_u8 _ _ _) (fun w_24 h_25 => ?_)
      refine WL.nil (ZT.nil (thn_n ?_))
      exact ⟨(), (U2 rfl rfl (U4 rfl rfl rfl rfl (U4 rfl rfl rfl rfl (U4 rfl rfl rfl rfl (Ag.refl _ _))))), ⟨rfl, rfl, rfl, rfl, rfl, rfl, rfl, rfl, rfl, rfl, rfl, rfl, rfl, rfl, trivial⟩, h_25⟩
     ·refine OpZ.one rfl (Wn.no rfl) ?_
      refine qV rfl (R.loadG rfl (ownView (h_8.ok _ M0)) isAgg5 (get_u8 (lt_len (K := n) ((rvL_len bs i).trans hl) (by omega)))) ?_
      refine WL.nil ?_
      refine ⟨(SL.nil _ _), ?_⟩
      refine ZT.s ?_
      refine OpZ.one rfl (Wn.no rfl) ?_
      refine qV rfl (R.loadG rfl (ownView (h_8.ok _ M0)) isAgg5 (get_u8 (lt_len (K := n) ((rvL_len bs i).trans hl) (by omega)))) ?_
      refine WL.nil ?_
      refine ⟨(SL.nil _ _), ?_⟩
      refine ZT.s ?_
      refine OpZ.one rfl (Wn.no rfl) ?_
      refine qV rfl (R.indexS (a := a) (i := i) (off := i) (xs := (rvL bs i).map vu8) rfl rfl rfl (by omega) (ownView (h_8.ok _ M0)) (lt_len (K := n) (len_map ((rvL_len bs i).trans hl)) (by omega)) underlying72 sizeOf5 (Nat.mul_one _).symm) ?_
      refine WL.nil ?_
      refine ⟨(SL.nil _ _), ?_⟩
      refine ZT.s ?_
      refine OpZ.one rfl (Wn.no rfl) ?_
      refine WL.storeR (a := a) (i := i) (v := (vu8 ((rvL bs i).getD (n - 1 - i) 0))) (xs' := ((rvL bs i).set i ((rvL bs i).getD (n - 1 - i) 0)).map vu8) h_8 rfl rfl sizeOf5 rfl At.h (lt_len (K := n) (len_map ((rvL_len bs i).trans hl)) (by omega)) (set_u8 _ _ _) (fun w_26 h_27 => ?_)
      refine WL.nil ?_
      refine ⟨(SL.nil _ _), ?_⟩
      refine ZT.s ?_
      refine OpZ.one rfl (Wn.no rfl) ?_
      refine qV rfl (R.indexS (a := a) (i := n - 1 - i) (off := n - 1 - i) (xs := ((rvL bs i).set i ((rvL bs i).getD (n - 1 - i) 0)).map vu8) rfl rfl rfl (by omega) (ownView (h_27.ok _ M0)) (lt_len (K := n) (len_map (len_set ((rvL_len bs i).trans hl) _ _)) (by omega)) underlying72 sizeOf5 (Nat.mul_one _).symm) ?_
      refine WL.nil ?_
      refine ⟨(SL.nil _ _), ?_⟩
      refine ZT.s ?_
      refine OpZ.last rfl (Wn.no rfl) ?_
      refine WL.storeR (a := a) (i := n - 1 - i) (v := (vu8 ((rvL bs i).getD i 0))) (xs' := (((rvL bs i).set i ((rvL bs i).getD (n - 1 - i) 0)).set (n - 1 - i) ((rvL bs i).getD i 0)).map vu8) h_27 rfl rfl sizeOf5 rfl At.h (lt_len (K := n) (len_map (len_set ((rvL_len bs i).trans hl) _ _)) (by omega)) (set_u8 _ _ _) (fun w_28 h_29 => ?_)
      refine WL.nil (ZT.nil (thn_n ?_))
      exact ⟨(), (U2 rfl rfl (U4 rfl rfl rfl rfl (U4 rfl rfl rfl rfl (U4 rfl rfl rfl rfl (Ag.refl _ _))))), ⟨rfl, rfl, rfl, rfl, rfl, rfl, rfl, rfl, rfl, rfl, rfl, rfl, rfl, rfl, trivial⟩, h_29⟩
    ·refine OpZ.one rfl (Wn.no rfl) ?_
     refine qV rfl (R.loadG rfl (ownView (h_8.ok _ M0)) isAgg5 (get_u8 (lt_len (K := n) ((rvL_len bs i).trans hl) (by omega)))) ?_
     refine WL.nil ?_
     refine ⟨(SL.nil _ _), ?_⟩
     refine ZT.s ?_
     refine OpZ.one rfl (Wn.no rfl) ?_
     refine qV rfl (R.indexS (a := a) (i := n - 1 - i) (off := n - 1 - i) (xs := (rvL bs i).map vu8) rfl rfl rfl (by omega) (ownView (h_8.ok _ M0)) (lt_len (K := n) (len_map ((rvL_len bs i).trans hl)) (by omega)) underlying72 sizeOf5 (Nat.mul_one _).symm) ?_
     refine WL.nil ?_
     refine ⟨(SL.nil _ _), ?_⟩
     refine ZT.s ?_
     refine OpZ.one rfl (Wn.no rfl) ?_
     refine qV rfl (R.loadG rfl (ownView (h_8.ok _ M0)) isAgg5 (get_u8 (lt_len (K := n) ((rvL_len bs i).trans hl) (by omega)))) ?_
     refine WL.nil ?_
     refine ⟨(SL.nil _ _), ?_⟩
     refine ZT.s ?_
     refine OpZ.one rfl (Wn.no rfl) ?_
     refine qV rfl (R.indexS (a := a) (i := i) (off := i) (xs := (rvL bs i).map vu8) rfl rfl rfl (by omega) (ownView (h_8.ok _ M0)) (lt_len (K := n) (len_map ((rvL_len bs i).trans hl)) (by omega)) underlying72 sizeOf5 (Nat.mul_one _).symm) ?_
     refine WL.nil ?_
     refine ⟨(SL.nil _ _), ?_⟩
     refine ZT.s ?_
     refine OpZ.one rfl (Wn.no rfl) ?_
     refine WL.storeR (a := a) (i := i) (v := (vu8 ((rvL bs i).getD (n - 1 - i) 0))) (xs' := ((rvL bs i).set i ((rvL bs i).getD (n - 1 - i) 0)).map vu8) h_8 rfl rfl sizeOf5 rfl At.h (lt_len (K := n) (len_map ((rvL_len bs i).trans hl)) (by omega)) (set_u8 _ _ _) (fun w_30 h_31 => ?_)
     refine WL.nil ?_
     refine ⟨(SL.nil _ _), ?_⟩
     refine ZT.s ?_
     refine OpZ.one rfl (Wn.no rfl) ?_
     refine qV rfl (R.indexS (a := a) (i := n - 1 - i) (off := n - 1 - i) (xs := ((rvL bs i).set i ((rvL bs i).getD (n - 1 - i) 0)).map vu8) rfl rfl rfl (by omega) (ownView (h_31.ok _ M0)) (lt_len (K := n) (len_map (len_set ((rvL_len bs i).trans hl) _ _)) (by omega)) underlying72 sizeOf5 (Nat.mul_one _).symm) ?_
     refine WL.nil ?_
     refine ⟨(SL.nil _ _), ?_⟩
     refine ZT.s ?_
     refine OpZ.last rfl (Wn.no rfl) ?_
     refine WL.storeR (a := a) (i := n - 1 - i) (v := (vu8 ((rvL bs i).getD i 0))) (xs' := (((rvL bs i).set i ((rvL bs i).getD (n - 1 - i) 0)).set (n - 1 - i) ((rvL bs i).getD i 0)).map vu8) h_31 rfl rfl sizeOf5 rfl At.h (lt_len (K := n) (len_map (len_set ((rvL_len bs i).trans hl) _ _)) (by omega)) (set_u8 _ _ _) (fun w_32 h_33 => ?_)
     refine WL.nil (ZT.nil (thn_n ?_))
     exact ⟨(), (U2 rfl rfl (U4 rfl rfl rfl rfl (U4 rfl rfl rfl rfl (U4 rfl rfl rfl rfl (Ag.refl _ _))))), ⟨rfl, rfl, rfl, rfl, rfl, rfl, rfl, rfl, rfl, rfl, rfl, rfl, rfl, rfl, trivial⟩, h_33⟩
  ·rintro _ J_34 w_35 h_36
   refine inb_n (thn_n (WP.reg ?_))
   refine qM (vn i) rfl rfl (qV rfl (R.bin rfl rfl (bi_add (c := ((i + 1 : Nat) : Int)) (by omega) (by omega))) (qM (vi ((n : Int) - 1 - (i : Int))) rfl rfl (qV rfl (R.bin rfl rfl (bi_sub (c := ((n : Int) - 1 - (i : Int)) - 1) (by omega) (by omega))) (qA (vn (i + 1)) rfl rfl (qA (vi (((n : Int) - 1 - (i : Int)) - 1)) rfl rfl ?_)))))
   refine WL.nil (thn_n ?_)
   rw [rvL_step hl (by omega)] at h_36
   exact ⟨i + 1, _, (by omega), (U2 rfl rfl (U4 rfl rfl rfl rfl (Ag.updL rfl (Ag.trans (Ag.sub rfl (Ag.mix _ _ _)) (Ag.upd rfl (Ag.upd rfl (Ag.upd rfl (Ag.updL rfl (Ag.mix _ _ _))))))))), ⟨rfl, congrArg vi (by omega), trivial⟩, h_36, (by omega), rfl⟩
 ·have p_37 := of_decide_eq_false c_5
  refine WP.exit (thn_x (thn_x (inb_hit (ret_n ?_))))
  refine ret_of results75 RV.nil ?_
  rw [rvL_end (i := i) (by omega) (by omega)] at h_2
  exact ⟨rfl, h_2⟩

theorem c_Turned (a : Option Addr) (n cap : Nat) (bs : List UInt8) (hl : bs.length = n) (hn : n ≤ 1099511627776) (w : World) (hv : View w a (bs.map vu8)) :
  Cs Try.prog 68 [(.slice a n cap)].toArray w (fun v w1 => ∃ a cap, v = .slice a n cap ∧ Chg w w1 [] ∧ Own w.heap.size w1 5 1 a n cap ((bs.reverse).map vu8)) := by
 refine Cs.of (n := 9) (args := [(.slice a n cap)]) Try.func68 rfl rfl rfl ?_
 have h_0 := HP.init w
 have h_00 := h_0.old (View.arg hv) (fun f hf => by cases hf)
 refine WP.seq (WP.reg ?_)
 refine qA (.slice none 0 0) rfl rfl ?_
 refine WL.nil (thn_n (WP.seq (WP.reg ?_)))
 refine qM (.slice a n cap) rfl rfl ?_
 refine WL.call Try.call55 rfl rfl (c_Clone a n cap bs hl (by omega) _ (viewV (h_00.ok _ M0))) rfl ?_
 rintro _ w_3 ⟨a_1, cap_2, rfl, hc_4, ho_5⟩
 have h_6 := h_00.gotRow hc_4 ho_5
 refine qA (.slice a_1 n cap_2) rfl rfl ?_
 refine WL.nil (thn_n (WP.seq (WP.reg ?_)))
 refine qM (.slice a_1 n cap_2) rfl rfl ?_
 refine WL.call Try.call75 rfl rfl (c_Reverse a_1 n cap_2 bs hl (by omega) _ h_6) rfl ?_
 rintro _ w_7 ⟨rfl, h_8⟩
 refine WL.nil (thn_n (WP.seq (WP.reg ?_)))
 refine qM (.slice a_1 n cap_2) rfl rfl (qA (.slice a_1 n cap_2) rfl rfl ?_)
 refine WL.nil (thn_n (WP.ret ?_))
 refine ret_of results68 (RV.tmp (v := (.slice a_1 n cap_2)) rfl RV.nil) ?_
 exact ⟨_, _, rfl, h_8.chgS, h_8.ok _ M0⟩

theorem c_Grow (m : Nat) (hm : m ≤ 1099511627776) (w : World) :
  Cs Try.prog 61 [(.slice none 0 0), (vi ((m : Nat) : Int))].toArray w (fun v w1 => ∃ a cap, v = .slice a 0 cap ∧ Chg w w1 [] ∧ Own w.heap.size w1 5 1 a 0 cap ((([] : List UInt8)).map vu8)) := by
 refine Cs.of (n := 27) (args := [(.slice none 0 0), (vn m)]) Try.func61 rfl rfl rfl ?_
 have h_0 := HP.init w
 refine WP.seq (WP.reg ?_)
 refine qA (.slice none 0 0) rfl rfl ?_
 refine WL.nil (thn_n (WP.seq (WP.seq (WP.reg ?_))))
 refine qM (vn m) rfl rfl (qV rfl (R.bin rfl rfl (bi_lss (r := decide ((((m : Nat) : Int) : Int) < 0)) rfl)) ?_)
 refine WL.nil (thn_n ?_)
 refine WP.condF (congrArg Value.bool (decide_eq_false (by omega))) ?_
 refine WP.skip (thn_n (WP.seq (WP.seq (WP.reg ?_))))
 refine qM (vn m) rfl rfl (qM (.slice none 0 0) rfl rfl (qV rfl (R.capS (a := none) (c := 0) rfl rfl underlying72) (qM (.slice none 0 0) rfl rfl (qV rfl (R.lenS (a := none) (m := 0) rfl rfl underlying72) (qV rfl (R.bin rfl rfl (bi_sub (c := 0) (by omega) (by omega))) (qV rfl (R.bin rfl rfl (bi_sub (c := ((m - 0 : Nat) : Int)) (by omega) (by omega))) (qA (vn (m - 0)) rfl rfl ?_)))))))
 refine WL.nil (thn_n (WP.seq (WP.reg ?_)))
 refine qM (vn (m - 0)) rfl rfl (qV rfl (R.bin rfl rfl (bi_gtr (r := decide ((((m - 0 : Nat) : Int) : Int) > 0)) rfl)) ?_)
 refine WL.nil (thn_n ?_)
 refine WP.cond (b := decide ((((m - 0 : Nat) : Int) : Int) > 0)) rfl (fun c_1 => ?_) (fun c_1 => ?_)
 ·have p_2 := of_decide_eq_true c_1
  refine WP.reg ?_
  refine qM (.slice none 0 0) rfl rfl (qM (.slice none 0 0) rfl rfl (qV rfl (R.capS (a := none) (c := 0) rfl rfl underlying72) (qV rfl (R.sliceS (a := none) (len := 0) (l := 0) (h := 0) rfl EvB.dflt (EvB.it (l := 0) rfl rfl) (by decide) (by omega) underlying72 sizeOf5) (qM (vn (m - 0)) rfl rfl ?_))))
  have h_3 := h_0.rowNil 5 1
  refine WL.appendZ (i := Try.t5) (m := m - 0) (km := m - 0) (xs := []) (zs := (([] : List UInt8) ++ List.replicate (m - 0) (0 : UInt8)).map vu8) h_3 rfl rfl underlying72 underlying3 rfl rfl rfl rfl (by simp only [List.map_append, List.map_replicate, List.map_nil]) (by omega) (by omega) (fun _ _ => At.h) rfl (fun a_4 c_5 w_6 h_7 => ?_)
  refine qM (.slice none 0 0) rfl rfl (qV rfl (R.lenS (a := none) (m := 0) rfl rfl underlying72) (qV rfl (R.sliceR0 (h := 0) rfl EvB.dflt (EvB.it (l := 0) rfl rfl) (Nat.le_trans (by omega) (h_7.own M0).2.2.1) underlying72 sizeOf5 (h_7.ok _ M0)) ?_))
  have h_8 := HP.rowCut (k := 0) h_7 At.h (by omega)
  rw [show ((([] : List UInt8) ++ List.replicate (m - 0) (0 : UInt8)).map vu8).take (0 * 1) = ((([] : List UInt8) ++ List.replicate (m - 0) (0 : UInt8)).take 0).map vu8 from by rw [Nat.mul_one, ← List.map_take]] at h_8
  refine qA (.slice a_4 0 c_5) rfl rfl ?_
  refine WL.nil (thn_n (WP.seq (WP.reg ?_)))
  refine qM (.slice a_4 0 c_5) rfl rfl (qA (.slice a_4 0 c_5) rfl rfl ?_)
  refine WL.nil (thn_n (WP.ret ?_))
  refine ret_of results61 (RV.tmp (v := (.slice a_4 0 c_5)) rfl RV.nil) ?_
  exact ⟨_, _, rfl, h_8.chgS, h_8.ok _ M0⟩
 ·have p_9 := of_decide_eq_false c_1
  refine WP.skip (thn_n (WP.seq (WP.reg ?_)))
  refine qM (.slice none 0 0) rfl rfl (qA (.slice none 0 0) rfl rfl ?_)
  refine WL.nil (thn_n (WP.ret ?_))
  refine ret_of results61 (RV.tmp (v := (.slice none 0 0)) rfl RV.nil) ?_
  exact ⟨none, 0, rfl, h_0.chgS, Own.nil ..⟩

theorem c_Concat (a : Option Addr) (n cap : Nat) (xs : List Value) (ls : List (List UInt8)) (hln : ls.length = n) (hb : ls.flatten.length ≤ 1099511627776) (hnb : n ≤ 1099511627776) (w : World) (hv : View w a xs) (hs : Sls w xs ls) :
  Cs Try.prog 52 [(.slice a n cap)].toArray w (fun v w1 => ∃ a cap, v = .slice a ls.flatten.length cap ∧ Chg w w1 [] ∧ Own w.heap.size w1 5 1 a ls.flatten.length cap ((ls.flatten).map vu8)) := by
 refine Cs.of (n := 36) (args := [(.slice a n cap)]) Try.func52 rfl rfl rfl ?_
 have h_0 := HP.init w
 have h_01 := h_0.old (View.arg hv) (fun f hf => by cases hf)
 have h_00 := h_01.old hs.pin (fun f hf => by rw [List.mem_singleton] at hf; subst hf; intro hm; simp [Ent.mut] at hm)
 have hxl : xs.length = n := hs.len.trans hln
 refine WP.seq (WP.reg ?_)
 refine qA (.slice none 0 0) rfl rfl ?_
 refine WL.nil (thn_n (WP.seq (WP.reg ?_)))
 refine qA (vi 0) rfl rfl ?_
 refine WL.nil (thn_n (WP.seq (WP.seq (WP.reg ?_))))
 refine qM (.slice a n cap) rfl rfl (qV rfl (R.lenS (a := a) (m := n) rfl rfl underlying97) (qM (vi 0) rfl rfl ?_))
 refine WL.nil (thn_n (WP.block ?_))
 refine WP.loopG (G := Nat) [3, 5, 11, 12, 13, 14, 15, 16, 17, 18, 19, 20, 21, 22] (fun k => [(3, (vn (((ls.take k).flatten).length))), (11, (vn k))]) (fun k m w1 => HP w w1 [.pin (sblks xs) (fun w => Sls w xs ls), .view a xs] ∧ (k ≤ n) ∧ m = n - k) ⟨0, _, ⟨rfl, rfl, trivial⟩, h_00, (by omega), rfl⟩ ?_
 rintro k m_3 J_4 w_1 ⟨h_2, hk, rfl⟩
 have hfl := Go.Wr.flat_take_le ls k
 have hfl1 : k < n → (ls.take k).flatten.length + (ls.getD k []).length ≤ ls.flatten.length := fun h => by have h2 := Go.Wr.flat_take_le ls (k + 1); rw [Go.Wr.flat_take (by omega), List.length_append] at h2; exact h2
 refine WP.seq (WP.reg ?_)
 refine qV rfl (R.bin rfl rfl (bi_lss (r := decide ((((k : Nat) : Int) : Int) < ((n : Nat) : Int))) rfl)) ?_
 refine WL.nil (thn_n (WP.seq ?_))
 refine WP.cond (b := decide ((((k : Nat) : Int) : Int) < ((n : Nat) : Int))) rfl (fun c_5 => ?_) (fun c_5 => ?_)
 ·have p_6 := of_decide_eq_true c_5
  refine WP.skip (thn_n (WP.seq (WP.block (WP.seq (WP.reg ?_)))))
  refine qV rfl (R.indexS (a := a) (i := k) (off := k) (xs := xs) rfl rfl rfl (by omega) (viewV (h_2.ok _ M1)) (by omega) underlying97 sizeOf72 (Nat.mul_one _).symm) ?_
  obtain ⟨a_7, n_8, c_9, hx_10, hl_11, hn_12, hv_13, hb_14⟩ := Sls.get (i := k) (h_2.ok _ M0).1 (by rw [hln]; omega)
  have h_15 := h_2.within (e' := .view a_7 ((ls.getD k []).map vu8)) M0 rfl (View.arg hv_13) rfl rfl (fun b hb_ => hb_14 _ (view_sblk hl_11 b hb_))
  refine qV rfl (R.loadG rfl (viewV (h_15.ok _ M2)) isAgg72 hx_10) (qA (.slice a_7 n_8 c_9) rfl rfl ?_)
  refine WL.nil (thn_n (WP.seq (WP.reg ?_)))
  refine qM (vn (((ls.take k).flatten).length)) rfl rfl (qM (.slice a_7 n_8 c_9) rfl rfl (qV rfl (R.lenS (a := a_7) (m := n_8) rfl rfl underlying72) (qV rfl (R.bin rfl rfl (bi_add (c := ((((ls.take k).flatten).length + n_8 : Nat) : Int)) (by omega) (by omega))) (qA (vn (((ls.take k).flatten).length + n_8)) rfl rfl ?_))))
  refine WL.nil (thn_n (WP.seq (WP.reg ?_)))
  refine qM (vn (((ls.take k).flatten).length + n_8)) rfl rfl (qV rfl (R.bin rfl rfl (bi_lss (r := decide ((((((ls.take k).flatten).length + n_8 : Nat) : Int) : Int) < 0)) rfl)) ?_)
  refine WL.nil (thn_n ?_)
  refine WP.condF (congrArg Value.bool (decide_eq_false (by omega))) ?_
  refine WP.skip (inb_n (thn_n (WP.reg ?_)))
  refine qV rfl (R.bin rfl rfl (bi_add (c := ((k + 1 : Nat) : Int)) (by omega) (by omega))) (qM (vn (k + 1)) rfl rfl ?_)
  refine WL.nil (thn_n ?_)
  have h_16 := h_15.drop rfl
  have e := Go.Wr.flat_take (ls := ls) (k := k) (by omega)
  have el : ((ls.take k).flatten).length + n_8 = (((ls.take (k + 1)).flatten)).length := by rw [e, List.length_append]; omega
  exact ⟨k + 1, _, (by omega), (Ag.upd rfl (U4 rfl rfl rfl rfl (U4 rfl rfl rfl rfl (U4 rfl rfl rfl rfl (Ag.updL rfl (Ag.mix _ _ _)))))), ⟨by rw [← el]; rfl, rfl, trivial⟩, h_16, (by omega), rfl⟩
 ·have p_17 := of_decide_eq_false c_5
  refine WP.exit (thn_x (thn_x (inb_hit (thn_n (WP.seq (WP.reg ?_))))))
  refine qM (vn (((ls.take k).flatten).length)) rfl rfl ?_
  refine WL.call Try.call61 rfl rfl (c_Grow (((ls.take k).flatten).length) (by omega) _) rfl ?_
  rintro _ w_20 ⟨a_18, cap_19, rfl, hc_21, ho_22⟩
  have h_23 := h_2.gotRow hc_21 ho_22
  refine qA (.slice a_18 0 cap_19) rfl rfl ?_
  refine WL.nil (thn_n (WP.seq (WP.seq (WP.reg ?_))))
  refine qM (.slice a n cap) rfl rfl (qV rfl (R.lenS (a := a) (m := n) rfl rfl underlying97) (qM (vi 0) rfl rfl ?_))
  refine WL.nil (thn_n (WP.block ?_))
  have hkn : k = n := by omega
  refine WP.loopG (G := Nat × Option Addr × Nat) [6, 8, 27, 28, 29, 30, 31, 32, 33, 34] (fun (q, ra, rc) => [(6, (.slice ra (((ls.take q).flatten).length) rc)), (27, (vn q))]) (fun (q, ra, rc) m w1 => HP w w1 [.row ra (((ls.take q).flatten).length) rc 5 1 (((ls.take q).flatten).map vu8), .pin (sblks xs) (fun w => Sls w xs ls), .view a xs] ∧ (q ≤ n) ∧ m = n - q) ⟨(0, a_18, cap_19), _, ⟨rfl, rfl, trivial⟩, h_23, (by omega), rfl⟩ ?_
  rintro ⟨q, ra, rc⟩ m_26 J_27 w_24 ⟨h_25, hq, rfl⟩
  have hfq := Go.Wr.flat_take_le ls q
  refine WP.seq (WP.reg ?_)
  refine qV rfl (R.bin rfl rfl (bi_lss (r := decide ((((q : Nat) : Int) : Int) < ((n : Nat) : Int))) rfl)) ?_
  refine WL.nil (thn_n (WP.seq ?_))
  refine WP.cond (b := decide ((((q : Nat) : Int) : Int) < ((n : Nat) : Int))) rfl (fun c_28 => ?_) (fun c_28 => ?_)
  ·have p_29 := of_decide_eq_true c_28
   refine WP.skip (thn_n (WP.seq (WP.block (WP.seq (WP.reg ?_)))))
   refine qV rfl (R.indexS (a := a) (i := q) (off := q) (xs := xs) rfl rfl rfl (by omega) (viewV (h_25.ok _ M2)) (by omega) underlying97 sizeOf72 (Nat.mul_one _).symm) ?_
   obtain ⟨a_30, n_31, c_32, hx_33, hl_34, hn_35, hv_36, hb_37⟩ := Sls.get (i := q) (h_25.ok _ M1).1 (by rw [hln]; omega)
   have h_38 := h_25.within (e' := .view a_30 ((ls.getD q []).map vu8)) M1 rfl (View.arg hv_36) rfl rfl (fun b hb_ => hb_37 _ (view_sblk hl_34 b hb_))
   refine qV rfl (R.loadG rfl (viewV (h_38.ok _ M3)) isAgg72 hx_33) (qA (.slice a_30 n_31 c_32) rfl rfl ?_)
   refine WL.nil (thn_n (WP.reg ?_))
   refine qM (.slice ra (((ls.take q).flatten).length) rc) rfl rfl (qM (.slice a_30 n_31 c_32) rfl rfl ?_)
   have hle := Go.Wr.flat_take_le ls (q + 1)
   rw [Go.Wr.flat_take (by omega), List.length_append] at hle
   refine WL.append (km := ((ls.take q).flatten).length + n_31) (xs := ((ls.take q).flatten).map vu8) (ys := (ls.getD q []).map vu8) (zs := (((ls.take q).flatten).map vu8) ++ ((ls.getD q []).map vu8)) h_38 rfl rfl el72 (viewV (h_38.ok _ M0)) ((len_map hl_34).trans (Nat.mul_one _).symm) (one_u8 _) rfl (by omega) (by omega) (by omega) (fun _ _ => Y1) rfl (fun a_39 c_40 w_41 h_42 => ?_)
   refine qA (.slice a_39 (((ls.take q).flatten).length + n_31) c_40) rfl rfl ?_
   refine WL.nil (inb_n (thn_n (WP.reg ?_)))
   refine qV rfl (R.bin rfl rfl (bi_add (c := ((q + 1 : Nat) : Int)) (by omega) (by omega))) (qM (vn (q + 1)) rfl rfl ?_)
   refine WL.nil (thn_n ?_)
   have h_43 := h_42.drop rfl
   have e := Go.Wr.flat_take (ls := ls) (k := q) (by omega)
   have el : ((ls.take q).flatten).length + n_31 = (((ls.take (q + 1)).flatten)).length := by rw [e, List.length_append]; omega
   rw [el, show (((ls.take q).flatten).map vu8) ++ ((ls.getD q []).map vu8) = (((ls.take (q + 1)).flatten)).map vu8 from by rw [e, List.map_append]] at h_43
   exact ⟨(q + 1, a_39, c_40), _, (by omega), (U2 rfl rfl (U4 rfl rfl rfl rfl (U4 rfl rfl rfl rfl (Ag.updL rfl (Ag.mix _ _ _))))), ⟨by rw [← el]; rfl, rfl, trivial⟩, h_43, (by omega), rfl⟩
  ·have p_44 := of_decide_eq_false c_28
   refine WP.exit (thn_x (thn_x (inb_hit (thn_n (WP.seq (WP.reg ?_))))))
   refine qM (.slice ra (((ls.take q).flatten).length) rc) rfl rfl (qA (.slice ra (((ls.take q).flatten).length) rc) rfl rfl ?_)
   refine WL.nil (thn_n (WP.ret ?_))
   refine ret_of results52 (RV.tmp (v := (.slice ra (((ls.take q).flatten).length) rc)) rfl RV.nil) ?_
   have hqn : q = n := by omega
   rw [hqn, List.take_of_length_le (by omega)] at h_25
   refine ⟨_, _, ?_, h_25.chgS, h_25.ok _ M0⟩
   rw [hqn, List.take_of_length_le (by omega)]; rfl

theorem c_wJoin (a : Option Addr) (n cap : Nat) (xs : List Value) (ls : List (List UInt8)) (hln : ls.length = n) (hb : ls.flatten.length ≤ 1099511627776) (hnb : n ≤ 1099511627776) (w : World) (hv : View w a xs) (hs : Sls w xs ls) :
  Cs Try.prog 60 [(.slice a n cap)].toArray w (fun v w1 => ∃ a cap, v = .slice a ls.flatten.length cap ∧ Chg w w1 [] ∧ Own w.heap.size w1 5 1 a ls.flatten.length cap ((ls.flatten).map vu8)) := by
 refine Cs.of (n := 5) (args := [(.slice a n cap)]) Try.func60 rfl rfl rfl ?_
 have h_0 := HP.init w
 have h_01 := h_0.old (View.arg hv) (fun f hf => by cases hf)
 have h_00 := h_01.old hs.pin (fun f hf => by rw [List.mem_singleton] at hf; subst hf; intro hm; simp [Ent.mut] at hm)
 have hxl : xs.length = n := hs.len.trans hln
 refine WP.seq (WP.reg ?_)
 refine qA (.slice none 0 0) rfl rfl ?_
 refine WL.nil (thn_n (WP.seq (WP.reg ?_)))
 refine qM (.slice a n cap) rfl rfl ?_
 refine WL.call Try.call52 rfl rfl (c_Concat a n cap xs ls hln (by omega) (by omega) _ (viewV (h_00.ok _ M1)) (h_00.ok _ M0).1) rfl ?_
 rintro _ w_3 ⟨a_1, cap_2, rfl, hc_4, ho_5⟩
 have h_6 := h_00.gotRow hc_4 ho_5
 refine qA (.slice a_1 ls.flatten.length cap_2) rfl rfl ?_
 refine WL.nil (thn_n (WP.ret ?_))
 refine ret_of results60 (RV.tmp (v := (.slice a_1 ls.flatten.length cap_2)) rfl RV.nil) ?_
 exact ⟨_, _, rfl, h_6.chgS, h_6.ok _ M0⟩
theorem c_get (a : Option Addr) (n cap : Nat) (bs : List UInt8) (hl : bs.length = n) (h8 : n ≤ 8) (w : World) (hv : View w a (bs.map vu8)) :
  Cs Try.prog 84 [(.slice a n cap)].toArray w (fun v w1 => v = vu64 (UInt64.ofNat (natLE bs)) ∧ Chg w w1 []) := by
 refine Cs.of (n := 22) (args := [(.slice a n cap)]) Try.func84 rfl rfl rfl ?_
 have h_0 := HP.init w
 have h_00 := h_0.old (View.arg hv) (fun f hf => by cases hf)
 refine WP.seq (WP.reg ?_)
 refine qA (vu64 0) rfl rfl ?_
 refine WL.nil (thn_n (WP.seq (WP.reg ?_)))
 refine qA (vu64 0) rfl rfl ?_
 refine WL.nil (thn_n (WP.seq (WP.seq (WP.reg ?_))))
 refine qM (.slice a n cap) rfl rfl (qV rfl (R.lenS (a := a) (m := n) rfl rfl underlying72) (qM (vi 0) rfl rfl ?_))
 refine WL.nil (thn_n (WP.block ?_))
 refine WP.loopG (G := Nat) [3, 4, 5, 8, 9, 10, 11, 12, 13, 14, 15, 16, 17, 18, 19, 20] (fun k => [(3, (vu64 (UInt64.ofNat (natLE (bs.take k))))), (8, (vn k))]) (fun k m w1 => HP w w1 [.view a (bs.map vu8)] ∧ (k ≤ n) ∧ m = n - k) ⟨0, _, ⟨rfl, rfl, trivial⟩, h_00, Nat.zero_le _, rfl⟩ ?_
 rintro k m_3 J_4 w_1 ⟨h_2, hk, rfl⟩
 refine WP.seq (WP.reg ?_)
 refine qV rfl (R.bin rfl rfl (bi_lss (r := decide ((((k : Nat) : Int) : Int) < ((n : Nat) : Int))) rfl)) ?_
 refine WL.nil (thn_n (WP.seq ?_))
 refine WP.cond (b := decide ((((k : Nat) : Int) : Int) < ((n : Nat) : Int))) rfl (fun c_5 => ?_) (fun c_5 => ?_)
 ·have p_6 := of_decide_eq_true c_5
  refine WP.skip (thn_n (WP.seq (WP.block (WP.seq (WP.reg ?_)))))
  refine qM (vn k) rfl rfl (qV rfl (R.indexS (a := a) (i := k) (off := k) (xs := bs.map vu8) rfl rfl rfl (by omega) (viewV (h_2.ok _ M0)) (lt_len (K := n) (len_map hl) (by omega)) underlying72 sizeOf5 (Nat.mul_one _).symm) (qV rfl (R.loadG rfl (viewV (h_2.ok _ M0)) isAgg5 (get_u8 (lt_len (K := n) hl (by omega)))) (qA (vn k) rfl rfl (qA (vu8 (bs.getD k 0)) rfl rfl ?_))))
  refine WL.nil (thn_n (WP.reg ?_))
  refine qM (vu64 (UInt64.ofNat (natLE (bs.take k)))) rfl rfl (qM (vu8 (bs.getD k 0)) rfl rfl (qV rfl (R.conv (b := ((UInt64.ofNat ((bs.getD k 0).toNat)) : UInt64).toNat) rfl underlying5 underlying26 (w64_nat ((bs.getD k 0).toNat))) (qM (vn k) rfl rfl (qV rfl (R.bin rfl rfl (bi_mul (c := ((8 * k : Nat) : Int)) (by omega) (by omega))) (qV rfl (R.binR (v := vu64 (shl64 (UInt64.ofNat ((bs.getD k 0).toNat)) (8 * k))) rfl rfl (run_shl64 _ _ _ (UInt64.ofNat ((bs.getD k 0).toNat)) _ (8 * k))) (qV rfl (R.bin rfl rfl (b64_or (UInt64.ofNat (natLE (bs.take k))) (shl64 (UInt64.ofNat ((bs.getD k 0).toNat)) (8 * k)))) (qA (vu64 ((UInt64.ofNat (natLE (bs.take k))) ||| (shl64 (UInt64.ofNat ((bs.getD k 0).toNat)) (8 * k)))) rfl rfl ?_)))))))
  refine WL.nil (inb_n (thn_n (WP.reg ?_)))
  refine qV rfl (R.bin rfl rfl (bi_add (c := ((k + 1 : Nat) : Int)) (by omega) (by omega))) (qM (vn (k + 1)) rfl rfl ?_)
  refine WL.nil (thn_n ?_)
  exact ⟨k + 1, _, (by omega), (U4 rfl rfl rfl rfl (U4 rfl rfl rfl rfl (U4 rfl rfl rfl rfl (U4 rfl rfl rfl rfl (Ag.updL rfl (Ag.mix _ _ _)))))), ⟨congrArg (fun x : UInt64 => vu64 x) (by rw [natLE_take bs k (by omega)]; exact or_shl (by have := natLE_lt (bs.take k); rwa [List.length_take, Nat.min_eq_left (by omega)] at this) (by omega) (UInt8.toNat_lt _)), rfl, trivial⟩, h_2, (by omega), rfl⟩
 ·have p_7 := of_decide_eq_false c_5
  refine WP.exit (thn_x (thn_x (inb_hit (thn_n (WP.seq (WP.reg ?_))))))
  refine qM (vu64 (UInt64.ofNat (natLE (bs.take k)))) rfl rfl (qA (vu64 (UInt64.ofNat (natLE (bs.take k)))) rfl rfl ?_)
  refine WL.nil (thn_n (WP.ret ?_))
  refine ret_of results84 (RV.tmp (v := (vu64 (UInt64.ofNat (natLE (bs.take k))))) rfl RV.nil) ?_
  have hkn : k = n := by omega
  subst hkn
  exact ⟨by rw [List.take_of_length_le (by omega)]; rfl, h_2.chgS⟩

theorem shr_zero (x : UInt64) (k : Nat) : shr64 x (8 * k) = 0 ↔ x.toNat < 256 ^ k := by
 have hx := x.toNat_lt
 have h1 : x.toNat / 2 ^ (8 * k) ≤ x.toNat := Nat.div_le_self _ _
 rw [← UInt64.toNat_inj, shr64, pow256]
 have h2 : (UInt64.ofNat (x.toNat / 2 ^ (8 * k))).toNat = x.toNat / 2 ^ (8 * k) := by simp; omega
 rw [h2]
 show x.toNat / 2 ^ (8 * k) = 0 ↔ _
 rw [Nat.div_eq_zero_iff]
 have : 0 < 2 ^ (8 * k) := Nat.pow_pos (by omega)
 omega

theorem c_Put_a (x : UInt64) (n : Nat) (h1 : 1 ≤ n) (h8 : n < 8) (hx : x.toNat < 256 ^ n) (w : World) :
  Cs Try.prog 43 [(vu64 x), (vi ((n : Nat) : Int))].toArray w (fun v w1 => ∃ a cap, v = .tuple [.slice a n cap, vi 0].toArray ∧ Chg w w1 [] ∧ Own w.heap.size w1 5 1 a n cap ((leN n x.toNat).map vu8)) := by
 refine Cs.of (n := 39) (args := [(vu64 x), (vn n)]) Try.func43 rfl rfl rfl ?_
 have h_0 := HP.init w
 refine WP.seq (WP.reg ?_)
 refine qA (.slice none 0 0) rfl rfl (qA (vi 0) rfl rfl ?_)
 refine WL.nil (thn_n (WP.seq (WP.seq (WP.reg ?_))))
 refine qM (vn n) rfl rfl (qV rfl (R.bin rfl rfl (bi_lss (r := decide ((((n : Nat) : Int) : Int) < 1)) rfl)) (qM (.bool (decide ((((n : Nat) : Int) : Int) < 1))) rfl rfl ?_))
 refine WL.want rfl (congrArg Value.bool (decide_eq_false (by omega))) ?_
 refine qM (vn n) rfl rfl ?_
 refine WL.want rfl (congrArg Value.bool (decide_eq_false (by omega))) ?_
 refine qV rfl (R.bin rfl rfl (bi_gtr (r := decide ((((n : Nat) : Int) : Int) > 8)) rfl)) (qV rfl (R.pickF (v := (.bool (decide ((((n : Nat) : Int) : Int) > 8)))) (congrArg Value.bool (decide_eq_false (by omega))) rfl) (qM (.bool (decide ((((n : Nat) : Int) : Int) > 8))) rfl rfl ?_))
 refine WL.want rfl (congrArg Value.bool (decide_eq_false (by omega))) ?_
 refine qM (vn n) rfl rfl ?_
 refine WL.want rfl (congrArg Value.bool (decide_eq_false (by omega))) ?_
 refine qV rfl (R.bin rfl rfl (bi_lss (r := decide ((((n : Nat) : Int) : Int) < 8)) rfl)) ?_
 refine WL.want rfl (congrArg Value.bool (decide_eq_false (by omega))) ?_
 refine qM (.bool (decide ((((n : Nat) : Int) : Int) < 8))) rfl rfl ?_
 refine WL.want rfl (congrArg Value.bool (decide_eq_true (by omega))) ?_
 refine qM (vu64 x) rfl rfl ?_
 refine WL.want rfl (congrArg Value.bool (decide_eq_true (by omega))) ?_
 refine qM (vn n) rfl rfl ?_
 refine WL.want rfl (congrArg Value.bool (decide_eq_true (by omega))) ?_
 refine qV rfl (R.bin rfl rfl (bi_mul (c := ((8 * n : Nat) : Int)) (by omega) (by omega))) ?_
 refine WL.want rfl (congrArg Value.bool (decide_eq_true (by omega))) ?_
 refine qV rfl (R.binR (v := vu64 (shr64 x (8 * n))) rfl rfl (run_shr64 _ _ _ x _ (8 * n))) ?_
 refine WL.want rfl (congrArg Value.bool (decide_eq_true (by omega))) ?_
 refine qV rfl (R.bin (v := (.bool (decide ((shr64 x (8 * n) : UInt64) ≠ 0)))) rfl rfl (b64_neq (shr64 x (8 * n)) 0 (r := decide ((shr64 x (8 * n) : UInt64) ≠ 0)) rfl)) ?_
 refine WL.want rfl (congrArg Value.bool (decide_eq_false (by omega))) ?_
 refine qV rfl (R.pickT (v := (.bool (decide ((shr64 x (8 * n) : UInt64) ≠ 0)))) (congrArg Value.bool (decide_eq_true (by omega))) rfl) (qV rfl (R.pickF (v := (.bool (decide ((shr64 x (8 * n) : UInt64) ≠ 0)))) (congrArg Value.bool (decide_eq_false (by omega))) rfl) ?_)
 refine WL.nil (thn_n ?_)
 refine WP.condF (congrArg Value.bool (decide_eq_false (fun h => h ((shr_zero x n).2 hx)))) ?_
 refine WP.skip (thn_n (WP.seq (WP.reg ?_)))
 refine qA (.slice none 0 0) rfl rfl ?_
 refine WL.nil (thn_n (WP.seq (WP.seq (WP.reg ?_))))
 refine qM (vn n) rfl rfl (qM (vi 0) rfl rfl ?_)
 refine WL.nil (thn_n (WP.block ?_))
 have h_1 := h_0.rowNil 5 1
 refine WP.loopG (G := Nat × Option Addr × Nat) [6, 7, 26, 27, 28, 29, 30, 31, 32, 33, 34, 35, 36, 37] (fun (k, a, cap) => [(6, (.slice a k cap)), (26, (vn k))]) (fun (k, a, cap) m w1 => HP w w1 [.row a k cap 5 1 ((leN k x.toNat).map vu8)] ∧ (k ≤ n) ∧ m = n - k) ⟨(0, none, 0), _, ⟨rfl, rfl, trivial⟩, h_1, Nat.zero_le _, rfl⟩ ?_
 rintro ⟨k, a, cap⟩ m_4 J_5 w_2 ⟨h_3, hk, rfl⟩
 refine WP.seq (WP.reg ?_)
 refine qV rfl (R.bin rfl rfl (bi_lss (r := decide ((((k : Nat) : Int) : Int) < ((n : Nat) : Int))) rfl)) ?_
 refine WL.nil (thn_n (WP.seq ?_))
 refine WP.cond (b := decide ((((k : Nat) : Int) : Int) < ((n : Nat) : Int))) rfl (fun c_6 => ?_) (fun c_6 => ?_)
 ·have p_7 := of_decide_eq_true c_6
  refine WP.skip (thn_n (WP.seq (WP.block (WP.seq (WP.reg ?_)))))
  refine qM (vn k) rfl rfl (qA (vn k) rfl rfl ?_)
  refine WL.nil (thn_n (WP.reg ?_))
  refine qM (.slice a k cap) rfl rfl (qM (vu64 x) rfl rfl (qM (vn k) rfl rfl (qV rfl (R.bin rfl rfl (bi_mul (c := ((8 * k : Nat) : Int)) (by omega) (by omega))) (qV rfl (R.binR (v := vu64 (shr64 x (8 * k))) rfl rfl (run_shr64 _ _ _ x _ (8 * k))) (qV rfl (R.conv (b := ((UInt8.ofNat ((shr64 x (8 * k)).toNat)) : UInt8).toNat) rfl underlying26 underlying5 (w8_nat ((shr64 x (8 * k)).toNat))) ?_)))))
  refine WL.buildSl (vs := [(0, (vu8 (UInt8.ofNat ((shr64 x (8 * k)).toNat))))]) (cs := ([UInt8.ofNat ((shr64 x (8 * k)).toNat)] : List UInt8).map vu8) h_3 underlying72 sizeOf5 (zv typeInfo5 rfl) rfl rfl (by kernel_rfl) rfl (one_u8 _) rfl rfl (fun b_8 w_9 h_10 => ?_)
  refine WL.append (km := k + 1) (xs := (leN k x.toNat).map vu8) (ys := ([UInt8.ofNat ((shr64 x (8 * k)).toNat)] : List UInt8).map vu8) (zs := ((leN k x.toNat).map vu8) ++ (([UInt8.ofNat ((shr64 x (8 * k)).toNat)] : List UInt8).map vu8)) h_10 rfl rfl el72 (viewB (h_10.ok _ M0) Sg.h) ((len_map (rfl : List.length ([UInt8.ofNat ((shr64 x (8 * k)).toNat)] : List UInt8) = 1)).trans (Nat.mul_one _).symm) (one_u8 _) rfl (by omega) (by omega) (by omega) (fun _ _ => Y1) rfl (fun a_11 c_12 w_13 h_14 => ?_)
  refine qA (.slice a_11 (k + 1) c_12) rfl rfl ?_
  refine WL.nil (inb_n (thn_n (WP.reg ?_)))
  refine qV rfl (R.bin rfl rfl (bi_add (c := ((k + 1 : Nat) : Int)) (by omega) (by omega))) (qM (vn (k + 1)) rfl rfl ?_)
  refine WL.nil (thn_n ?_)
  have h_15 := h_14.drop rfl
  have e : leN k x.toNat ++ ([UInt8.ofNat (shr64 x (8 * k)).toNat] : List UInt8) = leN (k + 1) x.toNat := by rw [leN_snoc, shr_byte]
  rw [show ((leN k x.toNat).map vu8) ++ (([UInt8.ofNat ((shr64 x (8 * k)).toNat)] : List UInt8).map vu8) = (leN (k + 1) x.toNat).map vu8 from by rw [← e, List.map_append]] at h_15
  exact ⟨(k + 1, a_11, c_12), _, (by omega), (U2 rfl rfl (U4 rfl rfl rfl rfl (U4 rfl rfl rfl rfl (U4 rfl rfl rfl rfl (Ag.updL rfl (Ag.mix _ _ _)))))), ⟨rfl, rfl, trivial⟩, h_15, (by omega), rfl⟩
 ·have p_17 := of_decide_eq_false c_6
  refine WP.exit (thn_x (thn_x (inb_hit (thn_n (WP.seq (WP.reg ?_))))))
  refine qM (.slice a k cap) rfl rfl (qA (.slice a k cap) rfl rfl (qA (vi 0) rfl rfl ?_))
  refine WL.nil (thn_n (WP.ret ?_))
  refine ret_of results43 (RV.tmp (v := (.slice a k cap)) rfl (RV.tmp (v := (vi 0)) rfl RV.nil)) ?_
  have hkn : k = n := by omega
  subst hkn
  exact ⟨_, _, rfl, h_3.chgS, h_3.ok _ M0⟩

theorem c_Put_b (x : UInt64) (n : Nat) (h8 : n = 8) (w : World) :
  Cs Try.prog 43 [(vu64 x), (vi ((n : Nat) : Int))].toArray w (fun v w1 => ∃ a cap, v = .tuple [.slice a n cap, vi 0].toArray ∧ Chg w w1 [] ∧ Own w.heap.size w1 5 1 a n cap ((leN n x.toNat).map vu8)) := by
 refine Cs.of (n := 39) (args := [(vu64 x), (vn n)]) Try.func43 rfl rfl rfl ?_
 have h_0 := HP.init w
 refine WP.seq (WP.reg ?_)
 refine qA (.slice none 0 0) rfl rfl (qA (vi 0) rfl rfl ?_)
 refine WL.nil (thn_n (WP.seq (WP.seq (WP.reg ?_))))
 refine qM (vn n) rfl rfl (qV rfl (R.bin rfl rfl (bi_lss (r := decide ((((n : Nat) : Int) : Int) < 1)) rfl)) (qM (.bool (decide ((((n : Nat) : Int) : Int) < 1))) rfl rfl ?_))
 refine WL.want rfl (congrArg Value.bool (decide_eq_false (by omega))) ?_
 refine qM (vn n) rfl rfl ?_
 refine WL.want rfl (congrArg Value.bool (decide_eq_false (by omega))) ?_
 refine qV rfl (R.bin rfl rfl (bi_gtr (r := decide ((((n : Nat) : Int) : Int) > 8)) rfl)) (qV rfl (R.pickF (v := (.bool (decide ((((n : Nat) : Int) : Int) > 8)))) (congrArg Value.bool (decide_eq_false (by omega))) rfl) (qM (.bool (decide ((((n : Nat) : Int) : Int) > 8))) rfl rfl ?_))
 refine WL.want rfl (congrArg Value.bool (decide_eq_false (by omega))) ?_
 refine qM (vn n) rfl rfl ?_
 refine WL.want rfl (congrArg Value.bool (decide_eq_false (by omega))) ?_
 refine qV rfl (R.bin rfl rfl (bi_lss (r := decide ((((n : Nat) : Int) : Int) < 8)) rfl)) ?_
 refine WL.want rfl (congrArg Value.bool (decide_eq_false (by omega))) ?_
 refine qM (.bool (decide ((((n : Nat) : Int) : Int) < 8))) rfl rfl ?_
 refine WL.skip rfl (congrArg Value.bool (decide_eq_false (by omega))) rfl ?_
 refine WL.skip rfl (congrArg Value.bool (decide_eq_false (by omega))) rfl ?_
 refine WL.skip rfl (congrArg Value.bool (decide_eq_false (by omega))) rfl ?_
 refine WL.skip rfl (congrArg Value.bool (decide_eq_false (by omega))) rfl ?_
 refine WL.skip rfl (congrArg Value.bool (decide_eq_false (by omega))) rfl ?_
 refine WL.want rfl (congrArg Value.bool (decide_eq_false (by omega))) ?_
 refine qV rfl (R.pickF (v := (.bool false)) (congrArg Value.bool (decide_eq_false (by omega))) rfl) (qV rfl (R.pickF (v := (.bool false)) (congrArg Value.bool (decide_eq_false (by omega))) rfl) ?_)
 refine WL.nil (thn_n ?_)
 refine WP.condF rfl ?_
 refine WP.skip (thn_n (WP.seq (WP.reg ?_)))
 refine qA (.slice none 0 0) rfl rfl ?_
 refine WL.nil (thn_n (WP.seq (WP.seq (WP.reg ?_))))
 refine qM (vn n) rfl rfl (qM (vi 0) rfl rfl ?_)
 refine WL.nil (thn_n (WP.block ?_))
 have h_1 := h_0.rowNil 5 1
 refine WP.loopG (G := Nat × Option Addr × Nat) [6, 7, 26, 27, 28, 29, 30, 31, 32, 33, 34, 35, 36, 37] (fun (k, a, cap) => [(6, (.slice a k cap)), (26, (vn k))]) (fun (k, a, cap) m w1 => HP w w1 [.row a k cap 5 1 ((leN k x.toNat).map vu8)] ∧ (k ≤ n) ∧ m = n - k) ⟨(0, none, 0), _, ⟨rfl, rfl, trivial⟩, h_1, Nat.zero_le _, rfl⟩ ?_
 rintro ⟨k, a, cap⟩ m_4 J_5 w_2 ⟨h_3, hk, rfl⟩
 refine WP.seq (WP.reg ?_)
 refine qV rfl (R.bin rfl rfl (bi_lss (r := decide ((((k : Nat) : Int) : Int) < ((n : Nat) : Int))) rfl)) ?_
 refine WL.nil (thn_n (WP.seq ?_))
 refine WP.cond (b := decide ((((k : Nat) : Int) : Int) < ((n : Nat) : Int))) rfl (fun c_6 => ?_) (fun c_6 => ?_)
 ·have p_7 := of_decide_eq_true c_6
  refine WP.skip (thn_n (WP.seq (WP.block (WP.seq (WP.reg ?_)))))
  refine qM (vn k) rfl rfl (qA (vn k) rfl rfl ?_)
  refine WL.nil (thn_n (WP.reg ?_))
  refine qM (.slice a k cap) rfl rfl (qM (vu64 x) rfl rfl (qM (vn k) rfl rfl (qV rfl (R.bin rfl rfl (bi_mul (c := ((8 * k : Nat) : Int)) (by omega) (by omega))) (qV rfl (R.binR (v := vu64 (shr64 x (8 * k))) rfl rfl (run_shr64 _ _ _ x _ (8 * k))) (qV rfl (R.conv (b := ((UInt8.ofNat ((shr64 x (8 * k)).toNat)) : UInt8).toNat) rfl underlying26 underlying5 (w8_nat ((shr64 x (8 * k)).toNat))) ?_)))))
  refine WL.buildSl (vs := [(0, (vu8 (UInt8.ofNat ((shr64 x (8 * k)).toNat))))]) (cs := ([UInt8.ofNat ((shr64 x (8 * k)).toNat)] : List UInt8).map vu8) h_3 underlying72 sizeOf5 (zv typeInfo5 rfl) rfl rfl (by kernel_rfl) rfl (one_u8 _) rfl rfl (fun b_8 w_9 h_10 => ?_)
  refine WL.append (km := k + 1) (xs := (leN k x.toNat).map vu8) (ys := ([UInt8.ofNat ((shr64 x (8 * k)).toNat)] : List UInt8).map vu8) (zs := ((leN k x.toNat).map vu8) ++ (([UInt8.ofNat ((shr64 x (8 * k)).toNat)] : List UInt8).map vu8)) h_10 rfl rfl el72 (viewB (h_10.ok _ M0) Sg.h) ((len_map (rfl : List.length ([UInt8.ofNat ((shr64 x (8 * k)).toNat)] : List UInt8) = 1)).trans (Nat.mul_one _).symm) (one_u8 _) rfl (by omega) (by omega) (by omega) (fun _ _ => Y1) rfl (fun a_11 c_12 w_13 h_14 => ?_)
  refine qA (.slice a_11 (k + 1) c_12) rfl rfl ?_
  refine WL.nil (inb_n (thn_n (WP.reg ?_)))
  refine qV rfl (R.bin rfl rfl (bi_add (c := ((k + 1 : Nat) : Int)) (by omega) (by omega))) (qM (vn (k + 1)) rfl rfl ?_)
  refine WL.nil (thn_n ?_)
  have h_15 := h_14.drop rfl
  have e : leN k x.toNat ++ ([UInt8.ofNat (shr64 x (8 * k)).toNat] : List UInt8) = leN (k + 1) x.toNat := by rw [leN_snoc, shr_byte]
  rw [show ((leN k x.toNat).map vu8) ++ (([UInt8.ofNat ((shr64 x (8 * k)).toNat)] : List UInt8).map vu8) = (leN (k + 1) x.toNat).map vu8 from by rw [← e, List.map_append]] at h_15
  exact ⟨(k + 1, a_11, c_12), _, (by omega), (U2 rfl rfl (U4 rfl rfl rfl rfl (U4 rfl rfl rfl rfl (U4 rfl rfl rfl rfl (Ag.updL rfl (Ag.mix _ _ _)))))), ⟨rfl, rfl, trivial⟩, h_15, (by omega), rfl⟩
 ·have p_17 := of_decide_eq_false c_6
  refine WP.exit (thn_x (thn_x (inb_hit (thn_n (WP.seq (WP.reg ?_))))))
  refine qM (.slice a k cap) rfl rfl (qA (.slice a k cap) rfl rfl (qA (vi 0) rfl rfl ?_))
  refine WL.nil (thn_n (WP.ret ?_))
  refine ret_of results43 (RV.tmp (v := (.slice a k cap)) rfl (RV.tmp (v := (vi 0)) rfl RV.nil)) ?_
  have hkn : k = n := by omega
  subst hkn
  exact ⟨_, _, rfl, h_3.chgS, h_3.ok _ M0⟩
end Go.Proofs.Ytbhllplbbkmndaa

namespace Go.Proofs.Ytbhllplbbkmndaa
open Go.Proofs.Try
open Go.Vc Go.RowKit
set_option maxRecDepth 20000

def ixd (c : UInt8) : Int := if Go.Wr.dig c ≤ 15 then ((Go.Wr.dig c).toNat : Int) else -1
end Go.Proofs.Ytbhllplbbkmndaa

namespace Go.Proofs.Ytbhllplbbkmndaa
open Go.Proofs.Try
open Go.Vc Go.RowKit
set_option maxRecDepth 20000

def nonneg (x : Int) : Bool := decide (0 ≤ x)
end Go.Proofs.Ytbhllplbbkmndaa

namespace Go.Proofs.Ytbhllplbbkmndaa
open Go.Proofs.Try
open Go.Vc Go.RowKit
set_option maxRecDepth 20000

theorem c_Get_ok (a : Option Addr) (n cap : Nat) (bs : List UInt8) (hl : bs.length = n) (h : 1 ≤ n) (h8 : n ≤ 8) (w : World) (hv : View w a (bs.map vu8)) :
  Cs Try.prog 74 [(.slice a n cap)].toArray w (fun v w1 => v = (.tuple [(vu64 (UInt64.ofNat (natLE bs))), (vi 0)].toArray) ∧ Chg w w1 []) := by
 refine Cs.of (n := 14) (args := [(.slice a n cap)]) Try.func74 rfl rfl rfl ?_
 have h_0 := HP.init w
 have h_00 := h_0.old (View.arg hv) (fun f hf => by cases hf)
 refine WP.seq (WP.reg ?_)
 refine qA (vu64 0) rfl rfl (qA (vi 0) rfl rfl ?_)
 refine WL.nil (thn_n (WP.seq (WP.seq (WP.reg ?_))))
 refine qM (.slice a n cap) rfl rfl (qV rfl (R.lenS (a := a) (m := n) rfl rfl underlying72) (qV rfl (R.bin rfl rfl (bi_lss (r := decide ((((n : Nat) : Int) : Int) < 1)) rfl)) (qM (.bool (decide ((((n : Nat) : Int) : Int) < 1))) rfl rfl ?_)))
 refine WL.want rfl (congrArg Value.bool (decide_eq_false (by omega))) ?_
 refine qM (.slice a n cap) rfl rfl ?_
 refine WL.want rfl (congrArg Value.bool (decide_eq_false (by omega))) ?_
 refine qV rfl (R.lenS (a := a) (m := n) rfl rfl underlying72) ?_
 refine WL.want rfl (congrArg Value.bool (decide_eq_false (by omega))) ?_
 refine qV rfl (R.bin rfl rfl (bi_gtr (r := decide ((((n : Nat) : Int) : Int) > 8)) rfl)) (qV rfl (R.pickF (v := (.bool (decide ((((n : Nat) : Int) : Int) > 8)))) (congrArg Value.bool (decide_eq_false (by omega))) rfl) ?_)
 refine WL.nil (thn_n ?_)
 refine WP.condF (congrArg Value.bool (decide_eq_false (by omega))) ?_
 refine WP.skip (thn_n (WP.seq (WP.reg ?_)))
 refine qM (.slice a n cap) rfl rfl ?_
 refine WL.call Try.call84 rfl rfl (c_get a n cap bs hl (by omega) _ (viewV (h_00.ok _ M0))) rfl ?_
 rintro _ w_2 ⟨rfl, hc_1⟩
 have h_3 := h_00.same hc_1
 refine qA (vu64 (UInt64.ofNat (natLE bs))) rfl rfl (qA (vi 0) rfl rfl ?_)
 refine WL.nil (thn_n (WP.ret ?_))
 refine ret_of results74 (RV.tmp (v := (vu64 (UInt64.ofNat (natLE bs)))) rfl (RV.tmp (v := (vi 0)) rfl RV.nil)) ?_
 exact ⟨rfl, h_3.chgS⟩

end Go.Proofs.Ytbhllplbbkmndaa

namespace Go.Proofs.Ytbhllplbbkmndaa
open Go.Proofs.Try
open Go.Vc Go.RowKit
set_option maxRecDepth 20000

end Go.Proofs.Ytbhllplbbkmndaa

namespace Go.Sh
open Go.Vc
def primeL : List UInt64 := [2, 3, 5, 7, 11, 13, 17, 19, 23, 29, 31, 37, 41, 43, 47, 53, 59, 61, 67, 71, 73, 79, 83, 89, 97, 101, 103, 107, 109, 113, 127, 131, 137, 139, 149, 151, 157, 163, 167, 173, 179, 181, 191, 193, 197, 199, 211, 223, 227, 229, 233, 239, 241, 251, 257, 263, 269, 271, 277, 281, 283, 293, 307, 311]
def kL : List UInt32 := [1116352408, 1899447441, 3049323471, 3921009573, 961987163, 1508970993, 2453635748, 2870763221, 3624381080, 310598401, 607225278, 1426881987, 1925078388, 2162078206, 2614888103, 3248222580, 3835390401, 4022224774, 264347078, 604807628, 770255983, 1249150122, 1555081692, 1996064986, 2554220882, 2821834349, 2952996808, 3210313671, 3336571891, 3584528711, 113926993, 338241895, 666307205, 773529912, 1294757372, 1396182291, 1695183700, 1986661051, 2177026350, 2456956037, 2730485921, 2820302411, 3259730800, 3345764771, 3516065817, 3600352804, 4094571909, 275423344, 430227734, 506948616, 659060556, 883997877, 958139571, 1322822218, 1537002063, 1747873779, 1955562222, 2024104815, 2227730452, 2361852424, 2428436474, 2756734187, 3204031479, 3329325298]
def hL : List UInt32 := [1779033703, 3144134277, 1013904242, 2773480762, 1359893119, 2600822924, 528734635, 1541459225]
theorem primeL_len : primeL.length = 64 := rfl
theorem kL_len : kL.length = 64 := rfl
theorem hL_len : hL.length = 8 := rfl
def rot (x : UInt32) (k : Nat) : UInt32 := shl32 x (32 - k) ||| shr32 x k
def s0 (x : UInt32) : UInt32 := (rot x 7 ^^^ rot x 18) ^^^ shr32 x 3
def s1 (x : UInt32) : UInt32 := (rot x 17 ^^^ rot x 19) ^^^ shr32 x 10
def b0 (x : UInt32) : UInt32 := (rot x 2 ^^^ rot x 13) ^^^ rot x 22
def b1 (x : UInt32) : UInt32 := (rot x 6 ^^^ rot x 11) ^^^ rot x 25
def wrd (blk : List UInt8) (i : Nat) : UInt32 := UInt32.ofNat (natLE ((blk.drop (4 * i)).take 4).reverse)
def wNext (w : List UInt32) (i : Nat) : UInt32 := w.getD (i - 16) 0 + s0 (w.getD (i - 15) 0) + w.getD (i - 7) 0 + s1 (w.getD (i - 2) 0)
def wL (blk : List UInt8) : Nat → List UInt32
  | 0 => []
  | i + 1 => wL blk i ++ [if i < 16 then wrd blk i else wNext (wL blk i) i]
theorem wL_len (blk : List UInt8) : ∀ i, (wL blk i).length = i
  | 0 => rfl
  | i + 1 => by rw [wL, List.length_append, wL_len blk i]; rfl
theorem wL_get {blk : List UInt8} {i j : Nat} (h : j < i) : ∀ m, i ≤ m → (wL blk m).getD j 0 = (wL blk i).getD j 0
  | 0, hm => by omega
  | m + 1, hm => by
    by_cases e : i = m + 1
    · rw [e]
    · rw [wL, ← wL_get h m (by omega)]
      have hl := wL_len blk m
      simp [List.getD_eq_getElem?_getD, List.getElem?_append, hl, show j < m by omega]
def W (blk : List UInt8) : List UInt32 := wL blk 64
theorem W_len (blk : List UInt8) : (W blk).length = 64 := wL_len blk 64
theorem W_lo {blk : List UInt8} {i : Nat} (h : i < 16) : (W blk).getD i 0 = wrd blk i := by
  rw [W, wL_get (i := i + 1) (by omega) 64 (by omega), wL, if_pos h]
  have hl := wL_len blk i
  simp [List.getD_eq_getElem?_getD, List.getElem?_append, hl]
theorem W_hi {blk : List UInt8} {i : Nat} (h : ¬ i < 16) (h2 : i < 64) : (W blk).getD i 0 = wNext (W blk) i := by
  have e : ∀ j, j < i → (wL blk i).getD j 0 = (W blk).getD j 0 := fun j hj => (wL_get hj 64 (by omega)).symm
  have hl := wL_len blk i
  rw [W, wL_get (i := i + 1) (by omega) 64 (by omega), wL, if_neg h]
  have : (wL blk i ++ [wNext (wL blk i) i]).getD i 0 = wNext (wL blk i) i := by simp [List.getD_eq_getElem?_getD, List.getElem?_append, hl]
  rw [this, wNext, wNext, e _ (by omega), e _ (by omega), e _ (by omega), e _ (by omega)]; rfl
def rT (k w : UInt32) (s : List UInt32) : UInt32 := s.getD 7 0 + b1 (s.getD 4 0) + ((s.getD 4 0 &&& s.getD 5 0) ^^^ (~~~ (s.getD 4 0) &&& s.getD 6 0)) + k + w
def rU (s : List UInt32) : UInt32 := b0 (s.getD 0 0) + (((s.getD 0 0 &&& s.getD 1 0) ^^^ (s.getD 0 0 &&& s.getD 2 0)) ^^^ (s.getD 1 0 &&& s.getD 2 0))
def rnd (k w : UInt32) (s : List UInt32) : List UInt32 := [rT k w s + rU s, s.getD 0 0, s.getD 1 0, s.getD 2 0, s.getD 3 0 + rT k w s, s.getD 4 0, s.getD 5 0, s.getD 6 0]
def stN (K V h : List UInt32) : Nat → List UInt32
  | 0 => h
  | i + 1 => rnd (K.getD i 0) (V.getD i 0) (stN K V h i)
theorem stN_len {K V h : List UInt32} (hh : h.length = 8) : ∀ i, (stN K V h i).length = 8
  | 0 => hh
  | _ + 1 => rfl
def pressL (K h : List UInt32) (blk : List UInt8) : List UInt32 := (List.range 8).map fun i => h.getD i 0 + (stN K (W blk) h 64).getD i 0
theorem pressL_len (K h : List UInt32) (blk : List UInt8) : (pressL K h blk).length = 8 := by simp [pressL]
theorem pressL_get {K h : List UInt32} {blk : List UInt8} {i : Nat} (hi : i < 8) : (pressL K h blk).getD i 0 = h.getD i 0 + (stN K (W blk) h 64).getD i 0 := by simp [pressL, hi]
def mix {α : Type} (p h : List α) (i : Nat) : List α := p.take i ++ h.drop i
theorem mix_0 {α : Type} (p h : List α) : mix p h 0 = h := by simp [mix]
theorem mix_all {α : Type} {p h : List α} {n i : Nat} (hp : p.length = n) (hh : h.length = n) (hi : n ≤ i) : mix p h i = p := by rw [mix, List.take_of_length_le (by omega), List.drop_of_length_le (by omega), List.append_nil]
theorem mix_len {α : Type} {p h : List α} {n i : Nat} (hp : p.length = n) (hh : h.length = n) : (mix p h i).length = n := by rw [mix, List.length_append, List.length_take, List.length_drop]; omega
theorem mix_set {α : Type} {p h : List α} {d : α} {n i : Nat} (hp : p.length = n) (hh : h.length = n) (hi : i < n) : (mix p h i).set i (p.getD i d) = mix p h (i + 1) := by
  apply List.ext_getElem
  · rw [List.length_set, mix_len hp hh, mix_len hp hh]
  · intro j h1 h2
    have hj : j < n := by rw [mix_len hp hh] at h2; exact h2
    rw [List.getElem_set]
    by_cases e : i = j
    · subst e
      rw [if_pos rfl]
      simp only [mix, List.getElem_append, List.length_take, hp]
      rw [dif_pos (by omega)]
      simp [hp, hi]
    · rw [if_neg e]
      simp only [mix, List.getElem_append, List.length_take, hp]
      by_cases e2 : j < i
      · rw [dif_pos (by omega), dif_pos (by omega)]; simp
      · rw [dif_neg (by omega), dif_neg (by omega)]
        simp only [List.getElem_drop]
        congr 1; omega
theorem mix_get {α : Type} {p h : List α} {d : α} {n i : Nat} (hp : p.length = n) (hi : i < n) : (mix p h i).getD i d = h.getD i d := by
  have : (p.take i).length = i := by rw [List.length_take]; omega
  simp [mix, List.getD_eq_getElem?_getD, List.getElem?_append, this, List.getElem?_drop]
theorem mix_lt {α : Type} {p h : List α} {d : α} {n i j : Nat} (hp : p.length = n) (hi : i ≤ n) (hj : j < i) : (mix p h i).getD j d = p.getD j d := by
  have : (p.take i).length = i := by rw [List.length_take]; omega
  simp [mix, List.getD_eq_getElem?_getD, List.getElem?_append, this, hj, List.getElem?_take, show j < p.length by omega]
def digL (h : List UInt32) : List UInt8 := (List.range 32).map fun i => UInt8.ofNat (shr32 (h.getD (i / 4) 0) (24 - 8 * (i % 4))).toNat
theorem digL_len (h : List UInt32) : (digL h).length = 32 := by simp [digL]
theorem digL_get {h : List UInt32} {i : Nat} (hi : i < 32) : (digL h).getD i 0 = UInt8.ofNat (shr32 (h.getD (i / 4) 0) (24 - 8 * (i % 4))).toNat := by simp [digL, hi]
def padL (n : Nat) : List UInt8 := (128 :: List.replicate ((119 - n % 64) % 64) 0) ++ (leN 8 (n * 8)).reverse
theorem padL_len (n : Nat) : (padL n).length = 9 + (119 - n % 64) % 64 := by simp [padL, leN_len]; omega
def hs (K h : List UInt32) (m : List UInt8) : Nat → List UInt32
  | 0 => h
  | i + 1 => pressL K (hs K h m i) ((m.drop (64 * i)).take 64)
theorem hs_len {K h : List UInt32} {m : List UInt8} (hh : h.length = 8) : ∀ i, (hs K h m i).length = 8
  | 0 => hh
  | _ + 1 => pressL_len ..
theorem hs_app {K h : List UInt32} {m x : List UInt8} : ∀ i, 64 * i ≤ m.length → hs K h (m ++ x) i = hs K h m i
  | 0, _ => rfl
  | i + 1, hi => by
    have e : ((m ++ x).drop (64 * i)).take 64 = (m.drop (64 * i)).take 64 := by
      rw [List.drop_append, show 64 * i - m.length = 0 by omega, List.drop_zero, List.take_append_of_le_length (by rw [List.length_drop]; omega)]
    rw [hs, hs, hs_app i (by omega), e]
def padded (m : List UInt8) : List UInt8 := m ++ padL m.length
def sumL (m : List UInt8) : List UInt8 := digL (hs kL hL (padded m) ((padded m).length / 64))
theorem sumL_len (m : List UInt8) : (sumL m).length = 32 := digL_len _
end Go.Sh

namespace Go.Sh
open Go.Vc
def dvd (n p : UInt64) : Bool := decide (n % p = 0)
def prm : Nat → List UInt64
  | 0 => []
  | m + 1 => if (prm m).any (dvd (UInt64.ofNat (m + 2))) then prm m else prm m ++ [UInt64.ofNat (m + 2)]
theorem prm_le : ∀ {m k : Nat}, m ≤ k → (prm m).length ≤ (prm k).length
  | m, 0, h => by have : m = 0 := by omega
                  subst this; exact Nat.le_refl _
  | m, k + 1, h => by
    by_cases e : m = k + 1
    · rw [e]; exact Nat.le_refl _
    · refine Nat.le_trans (prm_le (m := m) (k := k) (by omega)) ?_
      rw [prm]; split
      · exact Nat.le_refl _
      · rw [List.length_append]; omega
theorem prm_step (m : Nat) : (prm (m + 1)).length ≤ (prm m).length + 1 := by
  rw [prm]; split
  · omega
  · rw [List.length_append]; exact Nat.le_refl _
theorem prm_309 : (prm 309).length = 63 := by decide +kernel
theorem prm_310 : prm 310 = primeL := by decide +kernel
theorem prm_lt {m : Nat} (h : (prm m).length < 64) : m < 310 := by
  by_cases hm : m < 310
  · exact hm
  · have := prm_le (m := 310) (k := m) (by omega)
    rw [prm_310, primeL_len] at this; omega
theorem prm_full {m : Nat} (hm : m ≤ 310) (h : ¬ (prm m).length < 64) : prm m = primeL := by
  have : m = 310 := by
    by_cases e : m ≤ 309
    · have := prm_le e; rw [prm_309] at this; omega
    · omega
  rw [this, prm_310]
def isK (n k : Nat) : Bool := (List.range' 2 (k - 2)).all fun j => decide (n % j ≠ 0)
def cnt (n : Nat) : Nat := primeL.countP fun p => decide (p.toNat ≤ n)
def isP (n : Nat) : Bool := primeL.any fun p => decide (p.toNat = n)
end Go.Sh

namespace Go.Sh
open Go.Vc
theorem leN_get : ∀ (n x i : Nat), i < n → (leN n x).getD i 0 = UInt8.ofNat (x / 256 ^ i)
  | 0, _, _, h => by omega
  | n + 1, x, i, h => by
    rw [leN_snoc]
    have hl : (leN n x).length = n := leN_len ..
    by_cases e : i < n
    · have := leN_get n x i e
      simp only [List.getD_eq_getElem?_getD] at this ⊢
      rw [List.getElem?_append_left (by omega), this]
    · have : i = n := by omega
      subst this
      simp [List.getD_eq_getElem?_getD, List.getElem?_append, hl]
theorem rev_get {l : List UInt8} {i n : Nat} (hl : l.length = n) (hi : i < n) : l.reverse.getD i 0 = l.getD (n - 1 - i) 0 := by
  have h2 : n - 1 - i < l.length := by omega
  rw [List.getD_eq_getElem?_getD, List.getD_eq_getElem?_getD, List.getElem?_eq_getElem h2, List.getElem?_eq_getElem (show i < l.reverse.length by rw [List.length_reverse]; omega), List.getElem_reverse]
  simp only [Option.getD_some]
  congr 1; omega
theorem be4_get {x : UInt32} {j : Nat} (hj : j < 4) : ((leN 4 x.toNat).reverse).getD j 0 = UInt8.ofNat (shr32 x (24 - 8 * j)).toNat := by
  have hx := x.toNat_lt
  rw [rev_get (leN_len ..) hj, leN_get _ _ _ (by omega), shr32]
  have h1 : x.toNat / 2 ^ (24 - 8 * j) ≤ x.toNat := Nat.div_le_self _ _
  have h2 : (UInt32.ofNat (x.toNat / 2 ^ (24 - 8 * j))).toNat = x.toNat / 2 ^ (24 - 8 * j) := by simp; omega
  rw [h2, pow256, show 8 * (4 - 1 - j) = 24 - 8 * j by omega]
theorem fours {l : List UInt8} {i : Nat} (h : i + 4 ≤ l.length) : (l.drop i).take 4 = [l.getD i 0, l.getD (i + 1) 0, l.getD (i + 2) 0, l.getD (i + 3) 0] := by
  have h0 : i < l.length := by omega
  have h1 : i + 1 < l.length := by omega
  have h2 : i + 2 < l.length := by omega
  have h3 : i + 3 < l.length := by omega
  rw [List.drop_eq_getElem_cons h0, List.drop_eq_getElem_cons h1, List.drop_eq_getElem_cons (show i + 1 + 1 < l.length by omega), List.drop_eq_getElem_cons (show i + 1 + 1 + 1 < l.length by omega)]
  simp only [List.take_succ_cons, List.take_zero]
  simp [List.getD_eq_getElem?_getD, h0, h1, h2, h3]
theorem wrd_get {l : List UInt8} {i : Nat} (h : 4 * i + 4 ≤ l.length) {k : Nat} (hk : k = 4) : UInt32.ofNat (UInt64.ofNat (natLE (((l.drop (4 * i)).take k).reverse))).toNat = wrd l i := by
  subst hk
  have hl : ((l.drop (4 * i)).take 4).reverse.length = 4 := by rw [List.length_reverse, List.length_take, List.length_drop]; omega
  have h1 := natLE_lt ((l.drop (4 * i)).take 4).reverse
  rw [hl] at h1
  have h3 : (256 : Nat) ^ 4 = 4294967296 := by decide
  have h2 : (UInt64.ofNat (natLE ((l.drop (4 * i)).take 4).reverse)).toNat = natLE ((l.drop (4 * i)).take 4).reverse := by simp; omega
  rw [h2, wrd]
theorem dig_word {h : List UInt32} {i : Nat} (hi : i < 8) : ((digL h).drop (4 * i)).take 4 = (leN 4 (h.getD i 0).toNat).reverse := by
  have hl := digL_len h
  have hr : ((leN 4 (h.getD i 0).toNat).reverse).length = 4 := by rw [List.length_reverse, leN_len]
  have e : ∀ j, j < 4 → (digL h).getD (4 * i + j) 0 = ((leN 4 (h.getD i 0).toNat).reverse).getD j 0 := fun j hj => by
    rw [digL_get (by omega), be4_get hj, show (4 * i + j) / 4 = i by omega, show (4 * i + j) % 4 = j by omega]
  rw [fours (by omega)]
  have e0 := e 0 (by omega)
  rw [Nat.add_zero] at e0
  rw [e0, e 1 (by omega), e 2 (by omega), e 3 (by omega)]
  have := fours (l := (leN 4 (h.getD i 0).toNat).reverse) (i := 0) (by omega)
  rw [List.drop_zero, List.take_of_length_le (by omega)] at this
  rw [← this]
end Go.Sh

namespace Go.Vc
open Go.RowKit
section
variable {P : Program} {F : Fr} {w : World}
variable {ty : TypeId} {pos : String} {after : Array Edge} {dst : Option Tmp} {g : Option (Nat × Bool)}
theorem R.un {op : UnOp} {x : Operand} {T : TypeId} {v0 v : Value} (hx : evO F x = v0) (hv : ∀ w, (Op.unary op v0).run P w = .ok v w) : (execOp (evO F) ⟨dst, .unOp op T x, ty, pos, after, g⟩).run P w = .ok (.value v) w := by simp [execOp, hx, hv]
end
theorem run_neg {P : Program} {a c : Int} (hc : c = -a) (h : -9223372036854775808 ≤ c ∧ c < 9223372036854775808) (w : World) : (Op.unary .neg (vi a)).run P w = .ok (vi c) w := by
  show Result.ok (Value.int .i64 (IntKind.i64.wrap (0 - a))) w = _
  rw [w64i (by omega), show (0 : Int) - a = c by omega]
theorem run_not32 {P : Program} (a : UInt32) (w : World) : (Op.unary .xor (vu32 a)).run P w = .ok (vu32 (~~~a)) w := by
  show Result.ok (Value.int .u32 (IntKind.u32.wrap (((BitVec.ofInt IntKind.u32.bits (4294967295 : Int)) ^^^ BitVec.ofInt IntKind.u32.bits (a.toNat : Int)).toNat : Int))) w = _
  rw [bv32]
  have e : @HXor.hXor (BitVec 32) (BitVec 32) (BitVec 32) _ (BitVec.ofInt IntKind.u32.bits (4294967295 : Int)) a.toBitVec = (~~~a).toBitVec := by
    show BitVec.ofInt 32 (4294967295 : Int) ^^^ a.toBitVec = ~~~a.toBitVec
    have : BitVec.ofInt 32 (4294967295 : Int) = BitVec.allOnes 32 := by decide
    rw [this, BitVec.allOnes_xor]
  have e2 := w32_back (@HXor.hXor (BitVec 32) (BitVec 32) (BitVec 32) _ (BitVec.ofInt IntKind.u32.bits (4294967295 : Int)) a.toBitVec)
  refine (congrArg (fun x : Int => Result.ok (Value.int .u32 x) w) e2).trans ?_
  rw [e]; rfl
def cry (x y : UInt64) : UInt64 := UInt64.ofNat ((x.toNat + y.toNat) / 18446744073709551616)
theorem nat_add64 {P : Program} {f : FuncId} {fn : Func} (hf : P.funcs[f]? = some fn) (hname : (fn.name == "runtime.NumGoroutine") = false) (hb : fn.body.isNone = true) (hn : Extern.findNext fn = none) (he : Extern.find fn = some add64Entry) (x y : UInt64) :
    ∀ w, (callFunc f [vu64 x, vu64 y, vu64 0].toArray).run P w = .ok (.value (.tuple [vu64 (x + y), vu64 (cry x y)].toArray)) w := fun w => by
  rw [run_callFunc_extern hf hname hb hn he]
  have hx := x.toNat_lt
  have hy := y.toNat_lt
  have h := run_add64 (P := P) (x.toNat : Int) (y.toNat : Int) 0 (by omega) (by omega) (by omega) (by omega) w
  have e2 : [vu64 x, vu64 y, vu64 0].toArray = #[Value.int .u64 (x.toNat : Int), Value.int .u64 (y.toNat : Int), Value.int .u64 0] := rfl
  rw [e2, h]
  have e3 : ((x.toNat : Int) + (y.toNat : Int) + 0) % 18446744073709551616 = ((x + y).toNat : Int) := by
    rw [UInt64.toNat_add]; omega
  have e4 : ((x.toNat : Int) + (y.toNat : Int) + 0) / 18446744073709551616 = ((cry x y).toNat : Int) := by
    rw [cry, UInt64.toNat_ofNat']; omega
  rw [e3, e4]
  rfl
section
variable {P : Program} {n : Nat} {ops : Array Oper} {Q : Exit → Fr → World → Prop} {rest : List Oper} {F : Fr} {w w' w0 : World} {L L' : List Ent}
variable {ty : TypeId} {pos : String} {after : Array Edge} {dst : Option Tmp} {g : Option (Nat × Bool)}
end
end Go.Vc

namespace Go.Sh
open Go.Vc
def mulHi (x y : UInt64) : UInt64 := shr64 x 32 * shr64 y 32 + shr64 (shr64 x 32 * (y &&& 4294967295) + shr64 ((x &&& 4294967295) * (y &&& 4294967295)) 32) 32 + shr64 ((shr64 x 32 * (y &&& 4294967295) + shr64 ((x &&& 4294967295) * (y &&& 4294967295)) 32 &&& 4294967295) + (x &&& 4294967295) * shr64 y 32) 32
def aboveF (a b : UInt64) (lost : Bool) (p : UInt64) : Bool := decide (a > p) || (decide (a = p) && (decide (b > 0) || lost))
def cubM (x : UInt64) : UInt64 := mulHi (x * x) x
def cubN (x : UInt64) : UInt64 := mulHi x x * x
def cubA (x : UInt64) : UInt64 := shl64 (mulHi (mulHi x x) x + cry (cubN x) (cubM x)) 32 ||| shr64 (cubN x + cubM x) 32
def cubB (x : UInt64) : UInt64 := shl64 (cubN x + cubM x) 32 ||| shr64 (x * x * x) 32
def cubX (x : UInt64) : Bool := decide (shl64 (x * x * x) 32 ≠ 0)
def fC (p x : UInt64) : Bool := aboveF (cubA x) (cubB x) (cubX x) p
def fS (p x : UInt64) : Bool := aboveF (mulHi x x) (x * x) false p
def rtS (f : UInt64 → Bool) (b : Nat) (x : UInt64) : UInt64 := if f (x ||| shl64 1 (37 - b)) then x else x ||| shl64 1 (37 - b)
def rtF (f : UInt64 → Bool) : Nat → UInt64
  | 0 => 0
  | b + 1 => rtS f b (rtF f b)
def rootF (f : UInt64 → Bool) : UInt32 := UInt32.ofNat (rtF f 38).toNat
theorem rt_yes {f : UInt64 → Bool} {b : Nat} (h : f (rtF f b ||| shl64 1 (37 - b)) = true) : rtF f b = rtF f (b + 1) := by rw [rtF, rtS, if_pos h]
theorem rt_no {f : UInt64 → Bool} {b : Nat} (h : f (rtF f b ||| shl64 1 (37 - b)) = false) : rtF f b ||| shl64 1 (37 - b) = rtF f (b + 1) := by rw [rtF, rtS, h]; rfl
theorem tabK : ∀ i : Nat, i < 64 → rootF (fC (primeL.getD i 0)) = kL.getD i 0 := by decide +kernel
theorem tabH : ∀ i : Nat, i < 8 → rootF (fS (primeL.getD i 0)) = hL.getD i 0 := by decide +kernel
def pow2 (x p : UInt64) : Bool := decide (mulHi x x < p) || (decide (mulHi x x = p) && decide (x * x = 0))
def pow3 (x p : UInt64) : Bool := if mulHi (mulHi x x) x + cry (cubM x) (cubN x) ≠ shr64 p 32 then decide (mulHi (mulHi x x) x + cry (cubM x) (cubN x) < shr64 p 32) else decide (cubM x + cubN x < shl64 p 32) || (decide (cubM x + cubN x = shl64 p 32) && decide (x * x * x = 0))
def rgS (f : UInt64 → Bool) (b : Nat) (x : UInt64) : UInt64 := if f (x + shl64 1 (37 - b)) then x + shl64 1 (37 - b) else x
def rgF (f : UInt64 → Bool) : Nat → UInt64
  | 0 => 0
  | b + 1 => rgS f b (rgF f b)
def rootR (f : UInt64 → Bool) : UInt32 := UInt32.ofNat (rgF f 38).toNat
def kAt (i : Int) : UInt32 := if i < 0 ∨ 63 < i then 0 else kL.getD i.toNat 0
def hAt (i : Int) : UInt32 := if i < 0 ∨ 7 < i then 0 else hL.getD i.toNat 0
theorem prm_nz : ∀ m : Nat, m < 311 → (prm m).all (fun p => decide (p ≠ 0)) = true := by decide +kernel
theorem prm_ne {m i : Nat} (hm : m ≤ 310) (hi : i < (prm m).length) : (prm m).getD i 0 ≠ 0 := by
  have h := List.all_eq_true.1 (prm_nz m (by omega)) ((prm m).getD i 0) (by simp [hi])
  exact of_decide_eq_true h
theorem prm_yes {m : Nat} (h : (prm m).any (dvd (UInt64.ofNat (m + 2))) = true) : prm m = prm (m + 1) := by rw [prm, if_pos h]
theorem prm_no {m : Nat} (h : (prm m).any (dvd (UInt64.ofNat (m + 2))) = false) : prm m ++ ([UInt64.ofNat (m + 2)] : List UInt64) = prm (m + 1) := by rw [prm, h]; rfl
theorem any_t {zs : List UInt64} {x : UInt64} {k : Nat} (hk : k < zs.length) (h : dvd x (zs.getD k 0) = true) : zs.any (dvd x) = true := by
  rw [List.any_eq_true]
  refine ⟨zs.getD k 0, by simp [hk], h⟩
theorem any_f {zs : List UInt64} {x : UInt64} (h : ∀ k, k < zs.length → dvd x (zs.getD k 0) = false) : zs.any (dvd x) = false := by
  rw [List.any_eq_false]
  intro y hy
  obtain ⟨k, hk, rfl⟩ := List.getElem_of_mem hy
  have := h k hk
  simp [hk] at this
  simp [this]
end Go.Sh

namespace Go.Proofs.Ytbhllplbbkmndaa
open Go.Proofs.Try
open Go.Vc Go.Sh Go.RowKit
set_option maxRecDepth 20000
theorem el132 : ElT Try.prog 132 26 1 8 := ElT.mk' underlying132 (i := Try.t26) rfl rfl rfl rfl rfl rfl
theorem c_Mul64 (x y : UInt64) (w : World) :
  Cs Try.prog 86 [(vu64 x), (vu64 y)].toArray w (fun v w1 => v = (.tuple [(vu64 (mulHi x y)), (vu64 (x * y))].toArray) ∧ Chg w w1 []) := by
 refine Cs.of (n := 51) (args := [(vu64 x), (vu64 y)]) Try.func86 rfl rfl rfl ?_
 have h_0 := HP.init w
 refine WP.seq (WP.reg ?_)
 refine qA (vu64 0) rfl rfl (qA (vu64 0) rfl rfl ?_)
 refine WL.nil (thn_n (WP.seq (WP.reg ?_)))
 refine qM (vu64 x) rfl rfl (qV rfl (R.bin rfl rfl (b64_and x 4294967295)) (qA (vu64 (x &&& 4294967295)) rfl rfl ?_))
 refine WL.nil (thn_n (WP.seq (WP.reg ?_)))
 refine qM (vu64 x) rfl rfl (qV rfl (R.binR (v := vu64 (shr64 x 32)) rfl rfl (run_shr64 _ _ _ x _ 32)) (qA (vu64 (shr64 x 32)) rfl rfl ?_))
 refine WL.nil (thn_n (WP.seq (WP.reg ?_)))
 refine qM (vu64 y) rfl rfl (qV rfl (R.bin rfl rfl (b64_and y 4294967295)) (qA (vu64 (y &&& 4294967295)) rfl rfl ?_))
 refine WL.nil (thn_n (WP.seq (WP.reg ?_)))
 refine qM (vu64 y) rfl rfl (qV rfl (R.binR (v := vu64 (shr64 y 32)) rfl rfl (run_shr64 _ _ _ y _ 32)) (qA (vu64 (shr64 y 32)) rfl rfl ?_))
 refine WL.nil (thn_n (WP.seq (WP.reg ?_)))
 refine qM (vu64 (x &&& 4294967295)) rfl rfl (qM (vu64 (y &&& 4294967295)) rfl rfl (qV rfl (R.bin rfl rfl (b64_mul (x &&& 4294967295) (y &&& 4294967295))) (qA (vu64 ((x &&& 4294967295) * (y &&& 4294967295))) rfl rfl ?_)))
 refine WL.nil (thn_n (WP.seq (WP.reg ?_)))
 refine qM (vu64 (shr64 x 32)) rfl rfl (qM (vu64 (y &&& 4294967295)) rfl rfl (qV rfl (R.bin rfl rfl (b64_mul (shr64 x 32) (y &&& 4294967295))) (qM (vu64 ((x &&& 4294967295) * (y &&& 4294967295))) rfl rfl (qV rfl (R.binR (v := vu64 (shr64 ((x &&& 4294967295) * (y &&& 4294967295)) 32)) rfl rfl (run_shr64 _ _ _ ((x &&& 4294967295) * (y &&& 4294967295)) _ 32)) (qV rfl (R.bin rfl rfl (b64_add ((shr64 x 32) * (y &&& 4294967295)) (shr64 ((x &&& 4294967295) * (y &&& 4294967295)) 32))) (qA (vu64 (((shr64 x 32) * (y &&& 4294967295)) + (shr64 ((x &&& 4294967295) * (y &&& 4294967295)) 32))) rfl rfl ?_))))))
 refine WL.nil (thn_n (WP.seq (WP.reg ?_)))
 refine qM (vu64 (((shr64 x 32) * (y &&& 4294967295)) + (shr64 ((x &&& 4294967295) * (y &&& 4294967295)) 32))) rfl rfl (qV rfl (R.bin rfl rfl (b64_and (((shr64 x 32) * (y &&& 4294967295)) + (shr64 ((x &&& 4294967295) * (y &&& 4294967295)) 32)) 4294967295)) (qA (vu64 ((((shr64 x 32) * (y &&& 4294967295)) + (shr64 ((x &&& 4294967295) * (y &&& 4294967295)) 32)) &&& 4294967295)) rfl rfl ?_))
 refine WL.nil (thn_n (WP.seq (WP.reg ?_)))
 refine qM (vu64 (((shr64 x 32) * (y &&& 4294967295)) + (shr64 ((x &&& 4294967295) * (y &&& 4294967295)) 32))) rfl rfl (qV rfl (R.binR (v := vu64 (shr64 (((shr64 x 32) * (y &&& 4294967295)) + (shr64 ((x &&& 4294967295) * (y &&& 4294967295)) 32)) 32)) rfl rfl (run_shr64 _ _ _ (((shr64 x 32) * (y &&& 4294967295)) + (shr64 ((x &&& 4294967295) * (y &&& 4294967295)) 32)) _ 32)) (qA (vu64 (shr64 (((shr64 x 32) * (y &&& 4294967295)) + (shr64 ((x &&& 4294967295) * (y &&& 4294967295)) 32)) 32)) rfl rfl ?_))
 refine WL.nil (thn_n (WP.seq (WP.reg ?_)))
 refine qM (vu64 ((((shr64 x 32) * (y &&& 4294967295)) + (shr64 ((x &&& 4294967295) * (y &&& 4294967295)) 32)) &&& 4294967295)) rfl rfl (qM (vu64 (x &&& 4294967295)) rfl rfl (qM (vu64 (shr64 y 32)) rfl rfl (qV rfl (R.bin rfl rfl (b64_mul (x &&& 4294967295) (shr64 y 32))) (qV rfl (R.bin rfl rfl (b64_add ((((shr64 x 32) * (y &&& 4294967295)) + (shr64 ((x &&& 4294967295) * (y &&& 4294967295)) 32)) &&& 4294967295) ((x &&& 4294967295) * (shr64 y 32)))) (qA (vu64 (((((shr64 x 32) * (y &&& 4294967295)) + (shr64 ((x &&& 4294967295) * (y &&& 4294967295)) 32)) &&& 4294967295) + ((x &&& 4294967295) * (shr64 y 32)))) rfl rfl ?_)))))
 refine WL.nil (thn_n (WP.seq (WP.reg ?_)))
 refine qM (vu64 (shr64 x 32)) rfl rfl (qM (vu64 (shr64 y 32)) rfl rfl (qV rfl (R.bin rfl rfl (b64_mul (shr64 x 32) (shr64 y 32))) (qM (vu64 (shr64 (((shr64 x 32) * (y &&& 4294967295)) + (shr64 ((x &&& 4294967295) * (y &&& 4294967295)) 32)) 32)) rfl rfl (qV rfl (R.bin rfl rfl (b64_add ((shr64 x 32) * (shr64 y 32)) (shr64 (((shr64 x 32) * (y &&& 4294967295)) + (shr64 ((x &&& 4294967295) * (y &&& 4294967295)) 32)) 32))) (qM (vu64 (((((shr64 x 32) * (y &&& 4294967295)) + (shr64 ((x &&& 4294967295) * (y &&& 4294967295)) 32)) &&& 4294967295) + ((x &&& 4294967295) * (shr64 y 32)))) rfl rfl (qV rfl (R.binR (v := vu64 (shr64 (((((shr64 x 32) * (y &&& 4294967295)) + (shr64 ((x &&& 4294967295) * (y &&& 4294967295)) 32)) &&& 4294967295) + ((x &&& 4294967295) * (shr64 y 32))) 32)) rfl rfl (run_shr64 _ _ _ (((((shr64 x 32) * (y &&& 4294967295)) + (shr64 ((x &&& 4294967295) * (y &&& 4294967295)) 32)) &&& 4294967295) + ((x &&& 4294967295) * (shr64 y 32))) _ 32)) (qV rfl (R.bin rfl rfl (b64_add (((shr64 x 32) * (shr64 y 32)) + (shr64 (((shr64 x 32) * (y &&& 4294967295)) + (shr64 ((x &&& 4294967295) * (y &&& 4294967295)) 32)) 32)) (shr64 (((((shr64 x 32) * (y &&& 4294967295)) + (shr64 ((x &&& 4294967295) * (y &&& 4294967295)) 32)) &&& 4294967295) + ((x &&& 4294967295) * (shr64 y 32))) 32))) (qA (vu64 ((((shr64 x 32) * (shr64 y 32)) + (shr64 (((shr64 x 32) * (y &&& 4294967295)) + (shr64 ((x &&& 4294967295) * (y &&& 4294967295)) 32)) 32)) + (shr64 (((((shr64 x 32) * (y &&& 4294967295)) + (shr64 ((x &&& 4294967295) * (y &&& 4294967295)) 32)) &&& 4294967295) + ((x &&& 4294967295) * (shr64 y 32))) 32))) rfl rfl ?_))))))))
 refine WL.nil (thn_n (WP.seq (WP.reg ?_)))
 refine qM (vu64 x) rfl rfl (qM (vu64 y) rfl rfl (qV rfl (R.bin rfl rfl (b64_mul x y)) (qA (vu64 (x * y)) rfl rfl ?_)))
 refine WL.nil (thn_n (WP.ret ?_))
 refine ret_of results86 (RV.tmp (v := (vu64 ((((shr64 x 32) * (shr64 y 32)) + (shr64 (((shr64 x 32) * (y &&& 4294967295)) + (shr64 ((x &&& 4294967295) * (y &&& 4294967295)) 32)) 32)) + (shr64 (((((shr64 x 32) * (y &&& 4294967295)) + (shr64 ((x &&& 4294967295) * (y &&& 4294967295)) 32)) &&& 4294967295) + ((x &&& 4294967295) * (shr64 y 32))) 32)))) rfl (RV.tmp (v := (vu64 (x * y))) rfl RV.nil)) ?_
 exact ⟨rfl, h_0.chgS⟩

theorem c_square (x : UInt64) (w : World) :
  Cs Try.prog 83 [(vu64 x)].toArray w (fun v w1 => v = (.agg ⟨([mulHi x x, x * x] : List UInt64).map vu64⟩) ∧ Chg w w1 []) := by
 refine Cs.of (n := 14) (args := [(vu64 x)]) Try.func83 rfl rfl rfl ?_
 have h_0 := HP.init w
 refine WP.seq (WP.reg ?_)
 refine WL.alloc (segs := [(2, (zW 2).map vu64)]) h_0 (zv typeInfo143 rfl) rfl (sC (SOk.u64 lr) sN) rfl (fun b_1 w_2 h_3 => ?_)
 refine WL.nil (thn_n (WP.seq (WP.reg ?_)))
 refine qM (vu64 x) rfl rfl (qM (vu64 x) rfl rfl ?_)
 refine WL.call Try.call86 rfl rfl (c_Mul64 x x _ ) rfl ?_
 rintro _ w_5 ⟨rfl, hc_4⟩
 have h_6 := h_3.same hc_4
 refine qM (.tuple [(vu64 (mulHi x x)), (vu64 (x * x))].toArray) rfl rfl (qV rfl (R.extract rfl rfl) (qV rfl (R.extract rfl rfl) (qA (vu64 (mulHi x x)) rfl rfl (qA (vu64 (x * x)) rfl rfl ?_))))
 refine WL.nil (thn_n (WP.seq (WP.reg ?_)))
 refine qM (vu64 (mulHi x x)) rfl rfl (qM (vu64 (x * x)) rfl rfl (qV rfl (R.buildA (vs := [(0, (vu64 (mulHi x x))), (1, (vu64 (x * x)))]) (cs := ([mulHi x x, x * x] : List UInt64).map vu64) underlying143 sizeOf26 (zv typeInfo143 rfl) rfl rfl) ?_))
 refine WL.storeA [] [(2, (zW 2).map vu64)] [(2, ([mulHi x x, x * x] : List UInt64).map vu64)] [] h_6 rfl rfl sizeOf143 At.h (by decide) rfl rfl rfl rfl rfl rfl (sC (SOk.u64 (rfl : List.length ([mulHi x x, x * x] : List UInt64) = 2)) sN) (fun w_7 h_8 => ?_)
 refine WL.nil (thn_n (WP.ret ?_))
 refine ret_of results83 (RV.cell rfl (h_8.loadA (cs := ([mulHi x x, x * x] : List UInt64).map vu64) isAgg143 sizeOf143 M0 rfl rfl) RV.nil) ?_
 exact ⟨rfl, h_8.chgS⟩

theorem c_cube (x : UInt64) (w : World) :
  Cs Try.prog 80 [(vu64 x)].toArray w (fun v w1 => v = (.tuple [(.agg ⟨([cubA x, cubB x] : List UInt64).map vu64⟩), (.bool (cubX x))].toArray) ∧ Chg w w1 []) := by
 refine Cs.of (n := 50) (args := [(vu64 x)]) Try.func80 rfl rfl rfl ?_
 have h_0 := HP.init w
 refine WP.seq (WP.reg ?_)
 refine WL.alloc (segs := [(2, (zW 2).map vu64)]) h_0 (zv typeInfo143 rfl) rfl (sC (SOk.u64 lr) sN) rfl (fun b_1 w_2 h_3 => ?_)
 refine qA (.bool false) rfl rfl ?_
 refine WL.nil (thn_n (WP.seq (WP.reg ?_)))
 refine qM (vu64 x) rfl rfl ?_
 refine WL.call Try.call83 rfl rfl (c_square x _ ) rfl ?_
 rintro _ w_5 ⟨rfl, hc_4⟩
 have h_6 := h_3.same hc_4
 refine WL.alloc (segs := [(2, (zW 2).map vu64)]) h_6 (zv typeInfo143 rfl) rfl (sC (SOk.u64 lr) sN) rfl (fun b_7 w_8 h_9 => ?_)
 refine WL.storeA [] [(2, (zW 2).map vu64)] [(2, ([mulHi x x, x * x] : List UInt64).map vu64)] [] h_9 rfl rfl sizeOf143 At.h (by decide) rfl rfl rfl rfl rfl rfl (sC (SOk.u64 (rfl : List.length ([mulHi x x, x * x] : List UInt64) = 2)) sN) (fun w_10 h_11 => ?_)
 refine WL.nil (thn_n (WP.seq (WP.reg ?_)))
 refine qV rfl (R.indexA (b := b_7) (off := 0) (off' := 1) (i := 1) rfl rfl rfl (by decide) underlying143 sizeOf26 rfl) (qV rfl (R.loadE (b := b_7) (off := 1) (i := 1) (v := (vu64 (x * x))) rfl isAgg26 (h_11.ok _ M0) Sg.h rfl (get_u64 (lt_len (K := 2) (rfl : List.length ([mulHi x x, x * x] : List UInt64) = 2) (by decide)))) (qM (vu64 x) rfl rfl ?_))
 refine WL.call Try.call86 rfl rfl (c_Mul64 (x * x) x _ ) rfl ?_
 rintro _ w_13 ⟨rfl, hc_12⟩
 have h_14 := h_11.same hc_12
 refine qM (.tuple [(vu64 (mulHi (x * x) x)), (vu64 ((x * x) * x))].toArray) rfl rfl (qV rfl (R.extract rfl rfl) (qV rfl (R.extract rfl rfl) (qA (vu64 (mulHi (x * x) x)) rfl rfl (qA (vu64 ((x * x) * x)) rfl rfl ?_))))
 refine WL.nil (thn_n (WP.seq (WP.reg ?_)))
 refine qV rfl (R.indexA (b := b_7) (off := 0) (off' := 0) (i := 0) rfl rfl rfl (by decide) underlying143 sizeOf26 rfl) (qV rfl (R.loadE (b := b_7) (off := 0) (i := 0) (v := (vu64 (mulHi x x))) rfl isAgg26 (h_14.ok _ M0) Sg.h rfl (get_u64 (lt_len (K := 2) (rfl : List.length ([mulHi x x, x * x] : List UInt64) = 2) (by decide)))) (qM (vu64 x) rfl rfl ?_))
 refine WL.call Try.call86 rfl rfl (c_Mul64 (mulHi x x) x _ ) rfl ?_
 rintro _ w_16 ⟨rfl, hc_15⟩
 have h_17 := h_14.same hc_15
 refine qM (.tuple [(vu64 (mulHi (mulHi x x) x)), (vu64 ((mulHi x x) * x))].toArray) rfl rfl (qV rfl (R.extract rfl rfl) (qV rfl (R.extract rfl rfl) (qA (vu64 (mulHi (mulHi x x) x)) rfl rfl (qA (vu64 ((mulHi x x) * x)) rfl rfl ?_))))
 refine WL.nil (thn_n (WP.seq (WP.reg ?_)))
 refine qM (vu64 ((mulHi x x) * x)) rfl rfl (qM (vu64 (mulHi (x * x) x)) rfl rfl (qV rfl (R.native (al := [(vu64 ((mulHi x x) * x)), (vu64 (mulHi (x * x) x)), (vu64 0)]) (v := (.tuple [(vu64 (((mulHi x x) * x) + (mulHi (x * x) x))), (vu64 (cry ((mulHi x x) * x) (mulHi (x * x) x)))].toArray)) rfl rfl (nat_add64 Try.func87 (by kernel_rfl) (by kernel_rfl) (by kernel_rfl) (by kernel_rfl) ((mulHi x x) * x) (mulHi (x * x) x))) (qM (.tuple [(vu64 (((mulHi x x) * x) + (mulHi (x * x) x))), (vu64 (cry ((mulHi x x) * x) (mulHi (x * x) x)))].toArray) rfl rfl (qV rfl (R.extract rfl rfl) (qV rfl (R.extract rfl rfl) (qA (vu64 (((mulHi x x) * x) + (mulHi (x * x) x))) rfl rfl (qA (vu64 (cry ((mulHi x x) * x) (mulHi (x * x) x))) rfl rfl ?_)))))))
 refine WL.nil (thn_n (WP.seq (WP.reg ?_)))
 refine qM (vu64 (mulHi (mulHi x x) x)) rfl rfl (qM (vu64 (cry ((mulHi x x) * x) (mulHi (x * x) x))) rfl rfl (qV rfl (R.bin rfl rfl (b64_add (mulHi (mulHi x x) x) (cry ((mulHi x x) * x) (mulHi (x * x) x)))) (qA (vu64 ((mulHi (mulHi x x) x) + (cry ((mulHi x x) * x) (mulHi (x * x) x)))) rfl rfl ?_)))
 refine WL.nil (thn_n (WP.seq (WP.reg ?_)))
 refine qM (vu64 ((mulHi (mulHi x x) x) + (cry ((mulHi x x) * x) (mulHi (x * x) x)))) rfl rfl (qV rfl (R.binR (v := vu64 (shl64 ((mulHi (mulHi x x) x) + (cry ((mulHi x x) * x) (mulHi (x * x) x))) 32)) rfl rfl (run_shl64 _ _ _ ((mulHi (mulHi x x) x) + (cry ((mulHi x x) * x) (mulHi (x * x) x))) _ 32)) (qM (vu64 (((mulHi x x) * x) + (mulHi (x * x) x))) rfl rfl (qV rfl (R.binR (v := vu64 (shr64 (((mulHi x x) * x) + (mulHi (x * x) x)) 32)) rfl rfl (run_shr64 _ _ _ (((mulHi x x) * x) + (mulHi (x * x) x)) _ 32)) (qV rfl (R.bin rfl rfl (b64_or (shl64 ((mulHi (mulHi x x) x) + (cry ((mulHi x x) * x) (mulHi (x * x) x))) 32) (shr64 (((mulHi x x) * x) + (mulHi (x * x) x)) 32))) (qM (vu64 (((mulHi x x) * x) + (mulHi (x * x) x))) rfl rfl (qV rfl (R.binR (v := vu64 (shl64 (((mulHi x x) * x) + (mulHi (x * x) x)) 32)) rfl rfl (run_shl64 _ _ _ (((mulHi x x) * x) + (mulHi (x * x) x)) _ 32)) (qM (vu64 ((x * x) * x)) rfl rfl (qV rfl (R.binR (v := vu64 (shr64 ((x * x) * x) 32)) rfl rfl (run_shr64 _ _ _ ((x * x) * x) _ 32)) (qV rfl (R.bin rfl rfl (b64_or (shl64 (((mulHi x x) * x) + (mulHi (x * x) x)) 32) (shr64 ((x * x) * x) 32))) (qV rfl (R.buildA (vs := [(0, (vu64 ((shl64 ((mulHi (mulHi x x) x) + (cry ((mulHi x x) * x) (mulHi (x * x) x))) 32) ||| (shr64 (((mulHi x x) * x) + (mulHi (x * x) x)) 32)))), (1, (vu64 ((shl64 (((mulHi x x) * x) + (mulHi (x * x) x)) 32) ||| (shr64 ((x * x) * x) 32))))]) (cs := ([(shl64 ((mulHi (mulHi x x) x) + (cry ((mulHi x x) * x) (mulHi (x * x) x))) 32) ||| (shr64 (((mulHi x x) * x) + (mulHi (x * x) x)) 32), (shl64 (((mulHi x x) * x) + (mulHi (x * x) x)) 32) ||| (shr64 ((x * x) * x) 32)] : List UInt64).map vu64) underlying143 sizeOf26 (zv typeInfo143 rfl) rfl rfl) (qM (vu64 ((x * x) * x)) rfl rfl ?_)))))))))))
 refine qV rfl (R.binR (v := vu64 (shl64 ((x * x) * x) 32)) rfl rfl (run_shl64 _ _ _ ((x * x) * x) _ 32)) (qV rfl (R.bin (v := (.bool (decide ((shl64 ((x * x) * x) 32 : UInt64) ≠ 0)))) rfl rfl (b64_neq (shl64 ((x * x) * x) 32) 0 (r := decide ((shl64 ((x * x) * x) 32 : UInt64) ≠ 0)) rfl)) ?_)
 refine WL.storeA [] [(2, (zW 2).map vu64)] [(2, ([(shl64 ((mulHi (mulHi x x) x) + (cry ((mulHi x x) * x) (mulHi (x * x) x))) 32) ||| (shr64 (((mulHi x x) * x) + (mulHi (x * x) x)) 32), (shl64 (((mulHi x x) * x) + (mulHi (x * x) x)) 32) ||| (shr64 ((x * x) * x) 32)] : List UInt64).map vu64)] [] h_17 rfl rfl sizeOf143 Y1 (by decide) rfl rfl rfl rfl rfl rfl (sC (SOk.u64 (rfl : List.length ([(shl64 ((mulHi (mulHi x x) x) + (cry ((mulHi x x) * x) (mulHi (x * x) x))) 32) ||| (shr64 (((mulHi x x) * x) + (mulHi (x * x) x)) 32), (shl64 (((mulHi x x) * x) + (mulHi (x * x) x)) 32) ||| (shr64 ((x * x) * x) 32)] : List UInt64) = 2)) sN) (fun w_18 h_19 => ?_)
 refine qA (.bool (decide ((shl64 ((x * x) * x) 32 : UInt64) ≠ 0))) rfl rfl ?_
 refine WL.nil (thn_n (WP.ret ?_))
 refine ret_of results80 (RV.cell rfl (h_19.loadA (cs := ([(shl64 ((mulHi (mulHi x x) x) + (cry ((mulHi x x) * x) (mulHi (x * x) x))) 32) ||| (shr64 (((mulHi x x) * x) + (mulHi (x * x) x)) 32), (shl64 (((mulHi x x) * x) + (mulHi (x * x) x)) 32) ||| (shr64 ((x * x) * x) 32)] : List UInt64).map vu64) isAgg143 sizeOf143 M1 rfl rfl) (RV.tmp (v := (.bool (decide ((shl64 ((x * x) * x) 32 : UInt64) ≠ 0)))) rfl RV.nil)) ?_
 exact ⟨rfl, h_19.chgS⟩

theorem c_above (a b : UInt64) (lost : Bool) (p : UInt64) (w : World) :
  Cs Try.prog 81 [(.agg ⟨([a, b] : List UInt64).map vu64⟩), (.bool lost), (vu64 p)].toArray w (fun v w1 => v = (.bool (aboveF a b lost p)) ∧ Chg w w1 []) := by
 refine Cs.of (n := 25) (args := [(.agg ⟨([a, b] : List UInt64).map vu64⟩), (.bool lost), (vu64 p)]) Try.func81 rfl rfl rfl ?_
 have h_0 := HP.init w
 refine WP.seq (WP.reg ?_)
 refine WL.box (segs := [(2, ([a, b] : List UInt64).map vu64)]) h_0 rfl rfl (sC (SOk.u64 (rfl : List.length ([a, b] : List UInt64) = 2)) sN) rfl (fun b_1 w_2 h_3 => ?_)
 refine qA (.bool false) rfl rfl ?_
 refine WL.nil (thn_n (WP.seq (WP.reg ?_)))
 refine qV rfl (R.indexA (b := b_1) (off := 0) (off' := 0) (i := 0) rfl rfl rfl (by decide) underlying143 sizeOf26 rfl) (qV rfl (R.loadE (b := b_1) (off := 0) (i := 0) (v := (vu64 a)) rfl isAgg26 (h_3.ok _ M0) Sg.h rfl (get_u64 (lt_len (K := 2) (rfl : List.length ([a, b] : List UInt64) = 2) (by decide)))) (qM (vu64 p) rfl rfl (qV rfl (R.bin (v := (.bool (decide ((a : UInt64) > p)))) rfl rfl (b64_gtr a p (r := decide ((a : UInt64) > p)) rfl)) (qM (.bool (decide ((a : UInt64) > p))) rfl rfl ?_))))
 rcases Bool.eq_false_or_eq_true (decide ((a : UInt64) > p)) with c_4 | c_4
 ·have p_5 := of_decide_eq_true c_4
  refine WL.skip rfl (congrArg Value.bool c_4) rfl ?_
  refine WL.skip rfl (congrArg Value.bool c_4) rfl ?_
  refine WL.skip rfl (congrArg Value.bool c_4) rfl ?_
  refine WL.skip rfl (congrArg Value.bool c_4) rfl ?_
  refine WL.skip rfl (congrArg Value.bool c_4) rfl ?_
  refine WL.skipU rfl rfl rfl ?_
  refine WL.skipU rfl rfl rfl ?_
  refine WL.skipU rfl rfl rfl ?_
  refine WL.skipU rfl rfl rfl ?_
  refine WL.skipU rfl rfl rfl ?_
  refine WL.skipU rfl rfl rfl ?_
  refine WL.skip rfl (congrArg Value.bool c_4) rfl ?_
  refine qV rfl (R.pickT (v := (.bool true)) (congrArg Value.bool c_4) rfl) (qA (.bool true) rfl rfl ?_)
  refine WL.nil (thn_n (WP.ret ?_))
  refine ret_of results81 (RV.tmp (v := (.bool true)) rfl RV.nil) ?_
  exact ⟨congrArg Value.bool (by simp only [aboveF, c_4]; rfl), h_3.chgS⟩
 ·have p_6 := of_decide_eq_false c_4
  refine WL.want rfl (congrArg Value.bool c_4) ?_
  refine qV rfl (R.indexA (b := b_1) (off := 0) (off' := 0) (i := 0) rfl rfl rfl (by decide) underlying143 sizeOf26 rfl) ?_
  refine WL.want rfl (congrArg Value.bool c_4) ?_
  refine qV rfl (R.loadE (b := b_1) (off := 0) (i := 0) (v := (vu64 a)) rfl isAgg26 (h_3.ok _ M0) Sg.h rfl (get_u64 (lt_len (K := 2) (rfl : List.length ([a, b] : List UInt64) = 2) (by decide)))) ?_
  refine WL.want rfl (congrArg Value.bool c_4) ?_
  refine qM (vu64 p) rfl rfl ?_
  refine WL.want rfl (congrArg Value.bool c_4) ?_
  refine qV rfl (R.bin (v := (.bool (decide ((a : UInt64) = p)))) rfl rfl (b64_eql a p (r := decide ((a : UInt64) = p)) rfl)) ?_
  refine WL.want rfl (congrArg Value.bool c_4) ?_
  refine qM (.bool (decide ((a : UInt64) = p))) rfl rfl ?_
  rcases Bool.eq_false_or_eq_true (decide ((a : UInt64) = p)) with c_7 | c_7
  ·have p_8 := of_decide_eq_true c_7
   refine WL.want rfl (congrArg Value.bool c_7) ?_
   refine qV rfl (R.indexA (b := b_1) (off := 0) (off' := 1) (i := 1) rfl rfl rfl (by decide) underlying143 sizeOf26 rfl) ?_
   refine WL.want rfl (congrArg Value.bool c_7) ?_
   refine qV rfl (R.loadE (b := b_1) (off := 1) (i := 1) (v := (vu64 b)) rfl isAgg26 (h_3.ok _ M0) Sg.h rfl (get_u64 (lt_len (K := 2) (rfl : List.length ([a, b] : List UInt64) = 2) (by decide)))) ?_
   refine WL.want rfl (congrArg Value.bool c_7) ?_
   refine qV rfl (R.bin (v := (.bool (decide ((b : UInt64) > 0)))) rfl rfl (b64_gtr b 0 (r := decide ((b : UInt64) > 0)) rfl)) ?_
   refine WL.want rfl (congrArg Value.bool c_7) ?_
   refine qM (.bool (decide ((b : UInt64) > 0))) rfl rfl ?_
   rcases Bool.eq_false_or_eq_true (decide ((b : UInt64) > 0)) with c_9 | c_9
   ·have p_10 := of_decide_eq_true c_9
    refine WL.skip rfl (congrArg Value.bool c_9) rfl ?_
    refine WL.want rfl (congrArg Value.bool c_7) ?_
    refine qV rfl (R.pickT (v := (.bool true)) (congrArg Value.bool c_9) rfl) ?_
    refine WL.want rfl (congrArg Value.bool c_4) ?_
    refine qV rfl (R.pickT (v := (.bool true)) (congrArg Value.bool c_7) rfl) (qV rfl (R.pickF (v := (.bool true)) (congrArg Value.bool c_4) rfl) (qA (.bool true) rfl rfl ?_))
    refine WL.nil (thn_n (WP.ret ?_))
    refine ret_of results81 (RV.tmp (v := (.bool true)) rfl RV.nil) ?_
    exact ⟨congrArg Value.bool (by simp only [aboveF, c_4, c_7, c_9]; rfl), h_3.chgS⟩
   ·have p_11 := of_decide_eq_false c_9
    refine WL.want rfl (congrArg Value.bool c_9) ?_
    refine qM (.bool lost) rfl rfl ?_
    refine WL.want rfl (congrArg Value.bool c_7) ?_
    refine qV rfl (R.pickF (v := (.bool lost)) (congrArg Value.bool c_9) rfl) ?_
    refine WL.want rfl (congrArg Value.bool c_4) ?_
    refine qV rfl (R.pickT (v := (.bool lost)) (congrArg Value.bool c_7) rfl) (qV rfl (R.pickF (v := (.bool lost)) (congrArg Value.bool c_4) rfl) (qA (.bool lost) rfl rfl ?_))
    refine WL.nil (thn_n (WP.ret ?_))
    refine ret_of results81 (RV.tmp (v := (.bool lost)) rfl RV.nil) ?_
    exact ⟨congrArg Value.bool (by simp only [aboveF, c_4, c_7, c_9]; rfl), h_3.chgS⟩
  ·have p_12 := of_decide_eq_false c_7
   refine WL.skip rfl (congrArg Value.bool c_7) rfl ?_
   refine WL.skip rfl (congrArg Value.bool c_7) rfl ?_
   refine WL.skip rfl (congrArg Value.bool c_7) rfl ?_
   refine WL.skip rfl (congrArg Value.bool c_7) rfl ?_
   refine WL.skipU rfl rfl rfl ?_
   refine WL.skip rfl (congrArg Value.bool c_7) rfl ?_
   refine WL.want rfl (congrArg Value.bool c_4) ?_
   refine qV rfl (R.pickF (v := (.bool false)) (congrArg Value.bool c_7) rfl) (qV rfl (R.pickF (v := (.bool false)) (congrArg Value.bool c_4) rfl) (qA (.bool false) rfl rfl ?_))
   refine WL.nil (thn_n (WP.ret ?_))
   refine ret_of results81 (RV.tmp (v := (.bool false)) rfl RV.nil) ?_
   exact ⟨congrArg Value.bool (by simp only [aboveF, c_4, c_7]; rfl), h_3.chgS⟩

theorem c_con1 (x p : UInt64) (bc : Nat) (w : World) (hcb : (Ent.blk bc .ro 26 [(1, [(vu64 p)])]).ok w.heap.size w) :
  Cs Try.prog 79 [(vu64 x), (.pointer (some ⟨bc, 0, none⟩))].toArray w (fun v w1 => v = (.bool (fC p x)) ∧ Chg w w1 []) := by
 refine Cs.of (n := 15) (args := [(vu64 x), (pO bc 0)]) Try.func79 rfl rfl rfl ?_
 have h_0 := HP.init w
 have h_00 := h_0.old hcb (fun f hf => by cases hf)
 refine WP.seq (WP.reg ?_)
 refine qA (.bool false) rfl rfl ?_
 refine WL.nil (thn_n (WP.seq (WP.reg ?_)))
 refine qM (vu64 x) rfl rfl ?_
 refine WL.call Try.call80 rfl rfl (c_cube x _ ) rfl ?_
 rintro _ w_2 ⟨rfl, hc_1⟩
 have h_3 := h_00.same hc_1
 refine qM (.tuple [(.agg ⟨([cubA x, cubB x] : List UInt64).map vu64⟩), (.bool (cubX x))].toArray) rfl rfl (qV rfl (R.extract rfl rfl) (qV rfl (R.extract rfl rfl) ?_))
 refine WL.alloc (segs := [(2, (zW 2).map vu64)]) h_3 (zv typeInfo143 rfl) rfl (sC (SOk.u64 lr) sN) rfl (fun b_4 w_5 h_6 => ?_)
 refine WL.storeA [] [(2, (zW 2).map vu64)] [(2, ([cubA x, cubB x] : List UInt64).map vu64)] [] h_6 rfl rfl sizeOf143 At.h (by decide) rfl rfl rfl rfl rfl rfl (sC (SOk.u64 (rfl : List.length ([cubA x, cubB x] : List UInt64) = 2)) sN) (fun w_7 h_8 => ?_)
 refine qA (.bool (cubX x)) rfl rfl ?_
 refine WL.nil (thn_n (WP.seq (WP.reg ?_)))
 refine qV rfl (R.loadA [] [(2, ([cubA x, cubB x] : List UInt64).map vu64)] [] (cs := ([cubA x, cubB x] : List UInt64).map vu64) rfl isAgg143 sizeOf143 (h_8.ok _ M0) rfl rfl rfl rfl) (qM (.bool (cubX x)) rfl rfl (qV rfl (R.load1 rfl isAgg26 (h_8.ok _ M1) Sg.h) ?_))
 refine WL.call Try.call81 rfl rfl (c_above (cubA x) (cubB x) (cubX x) p _ ) rfl ?_
 rintro _ w_10 ⟨rfl, hc_9⟩
 have h_11 := h_8.same hc_9
 refine qA (.bool (aboveF (cubA x) (cubB x) (cubX x) p)) rfl rfl ?_
 refine WL.nil (thn_n (WP.ret ?_))
 refine ret_of results79 (RV.tmp (v := (.bool (aboveF (cubA x) (cubB x) (cubX x) p))) rfl RV.nil) ?_
 exact ⟨rfl, h_11.chgS⟩

theorem c_sta1 (x p : UInt64) (bc : Nat) (w : World) (hcb : (Ent.blk bc .ro 26 [(1, [(vu64 p)])]).ok w.heap.size w) :
  Cs Try.prog 82 [(vu64 x), (.pointer (some ⟨bc, 0, none⟩))].toArray w (fun v w1 => v = (.bool (fS p x)) ∧ Chg w w1 []) := by
 refine Cs.of (n := 8) (args := [(vu64 x), (pO bc 0)]) Try.func82 rfl rfl rfl ?_
 have h_0 := HP.init w
 have h_00 := h_0.old hcb (fun f hf => by cases hf)
 refine WP.seq (WP.reg ?_)
 refine qA (.bool false) rfl rfl ?_
 refine WL.nil (thn_n (WP.seq ?_))
 refine WP.drawT (SL w.heap.size [.blk bc .ro 26 [(1, [(vu64 p)])]]) (.q 0 (.q 2 (.s 1 (.s 3 (.q 4 .nil))))) (by kernel_rfl) (by kernel_rfl) rfl (by kernel_rfl) (fun w_1 hc_3 => (SL.cons ((h_00.same hc_3).ok _ M0) (SL.nil _ _))) (fun w_1 hc_3 => ?_)
 have h_2 := h_00.same hc_3
 refine qT rfl rfl (fun wq hS => R.move (v := (vu64 x)) rfl) ?_
 refine qT rfl rfl (fun wq hS => R.load1 rfl isAgg26 (hS _ M0) Sg.h) ?_
 refine WT.s (oN rfl ?_)
 refine WL.call Try.call83 rfl rfl (c_square x _ ) rfl ?_
 rintro _ w_5 ⟨rfl, hc_4⟩
 have h_6 := h_2.same hc_4
 refine WL.nil ?_
 refine ⟨(N0 h_6.ok), ?_⟩
 refine WT.s (oN rfl ?_)
 refine WL.call Try.call81 rfl rfl (c_above (mulHi x x) (x * x) false p _ ) rfl ?_
 rintro _ w_8 ⟨rfl, hc_7⟩
 have h_9 := h_6.same hc_7
 refine WL.nil ?_
 refine ⟨(N0 h_9.ok), ?_⟩
 refine qT rfl rfl (fun wq hS => R.assign (v := (.bool (aboveF (mulHi x x) (x * x) false p))) rfl) ?_
 refine WT.nil (thn_n (WP.ret ?_))
 refine ret_of results82 (RV.tmp (v := (.bool (aboveF (mulHi x x) (x * x) false p))) rfl RV.nil) ?_
 exact ⟨rfl, h_9.chgS⟩

theorem c_rootC (p : UInt64) (bc : Nat) (w : World) (hcb : (Ent.blk bc .ro 26 [(1, [(vu64 p)])]).ok w.heap.size w) :
  Cs Try.prog 78 [(Value.func (Fn.func 79) [].toArray [(Value.pointer (some ⟨bc, 0, none⟩))].toArray)].toArray w (fun v w1 => v = (vu32 (rootF (fC p))) ∧ Chg w w1 []) := by
 refine Cs.of (n := 22) (args := [(Value.func (Fn.func 79) [].toArray [(Value.pointer (some ⟨bc, 0, none⟩))].toArray)]) Try.func78 rfl rfl rfl ?_
 have h_0 := HP.init w
 have h_00 := h_0.old hcb (fun f hf => by cases hf)
 refine WP.seq (WP.reg ?_)
 refine qA (vu32 0) rfl rfl ?_
 refine WL.nil (thn_n (WP.seq (WP.reg ?_)))
 refine qA (vu64 0) rfl rfl ?_
 refine WL.nil (thn_n (WP.seq (WP.seq (WP.reg ?_))))
 refine qM (vi 0) rfl rfl ?_
 refine WL.nil (thn_n (WP.block ?_))
 refine WP.loopG (G := Nat) [3, 4, 5, 6, 7, 8, 9, 10, 11, 12, 13, 14, 15, 16, 17, 18, 19] (fun b => [(3, (vu64 (rtF (fC p) b))), (6, (vn b))]) (fun b m w1 => HP w w1 [.blk bc .ro 26 [(1, [(vu64 p)])]] ∧ (b ≤ 38) ∧ m = 38 - b) ⟨0, _, ⟨rfl, rfl, trivial⟩, h_00, (by omega), rfl⟩ ?_
 rintro b m_3 J_4 w_1 ⟨h_2, hb, rfl⟩
 refine WP.seq (WP.reg ?_)
 refine qV rfl (R.bin rfl rfl (bi_lss (r := decide ((((b : Nat) : Int) : Int) < 38)) rfl)) ?_
 refine WL.nil (thn_n (WP.seq ?_))
 refine WP.cond (b := decide ((((b : Nat) : Int) : Int) < 38)) rfl (fun c_5 => ?_) (fun c_5 => ?_)
 ·have p_6 := of_decide_eq_true c_5
  refine WP.skip (thn_n (WP.seq (WP.block (WP.seq (WP.reg ?_)))))
  refine qM (vn b) rfl rfl (qA (vn b) rfl rfl ?_)
  refine WL.nil (thn_n (WP.seq (WP.reg ?_)))
  refine qM (vu64 (rtF (fC p) b)) rfl rfl (qM (vn b) rfl rfl (qV rfl (R.bin rfl rfl (bi_sub (c := ((37 - b : Nat) : Int)) (by omega) (by omega))) (qV rfl (R.binR (v := vu64 (shl64 1 (37 - b))) rfl rfl (run_shl64 _ _ _ 1 _ (37 - b))) (qV rfl (R.bin rfl rfl (b64_or (rtF (fC p) b) (shl64 1 (37 - b)))) (qA (vu64 ((rtF (fC p) b) ||| (shl64 1 (37 - b)))) rfl rfl ?_)))))
  refine WL.nil (thn_n (WP.seq (WP.reg ?_)))
  refine qM (Value.func (Fn.func 79) [].toArray [(Value.pointer (some ⟨bc, 0, none⟩))].toArray) rfl rfl (qM (vu64 ((rtF (fC p) b) ||| (shl64 1 (37 - b)))) rfl rfl ?_)
  refine WL.call Try.call79 rfl rfl (c_con1 ((rtF (fC p) b) ||| (shl64 1 (37 - b))) p bc _ (h_2.argR M0)) rfl ?_
  rintro _ w_8 ⟨rfl, hc_7⟩
  have h_9 := h_2.same hc_7
  refine qV rfl (R.not (b := fC p ((rtF (fC p) b) ||| (shl64 1 (37 - b)))) rfl) ?_
  refine WL.nil (thn_n ?_)
  refine WP.cond (b := !(fC p ((rtF (fC p) b) ||| (shl64 1 (37 - b))))) rfl (fun c_10 => ?_) (fun c_10 => ?_)
  ·refine WP.reg ?_
   refine qM (vu64 ((rtF (fC p) b) ||| (shl64 1 (37 - b)))) rfl rfl (qA (vu64 ((rtF (fC p) b) ||| (shl64 1 (37 - b)))) rfl rfl ?_)
   refine WL.nil (inb_n (thn_n (WP.reg ?_)))
   refine qV rfl (R.bin rfl rfl (bi_add (c := ((b + 1 : Nat) : Int)) (by omega) (by omega))) (qM (vn (b + 1)) rfl rfl ?_)
   refine WL.nil (thn_n ?_)
   exact ⟨b + 1, _, (by omega), (Ag.upd rfl (U4 rfl rfl rfl rfl (U4 rfl rfl rfl rfl (U4 rfl rfl rfl rfl (U4 rfl rfl rfl rfl (Ag.updL rfl (Ag.mix _ _ _))))))), ⟨congrArg (fun x : UInt64 => vu64 x) (rt_no (by simpa using c_10)), rfl, trivial⟩, h_9, (by omega), rfl⟩
  ·refine WP.skip (inb_n (thn_n (WP.reg ?_)))
   refine qV rfl (R.bin rfl rfl (bi_add (c := ((b + 1 : Nat) : Int)) (by omega) (by omega))) (qM (vn (b + 1)) rfl rfl ?_)
   refine WL.nil (thn_n ?_)
   exact ⟨b + 1, _, (by omega), (Ag.upd rfl (U2 rfl rfl (U4 rfl rfl rfl rfl (U4 rfl rfl rfl rfl (U4 rfl rfl rfl rfl (Ag.updL rfl (Ag.mix _ _ _))))))), ⟨congrArg (fun x : UInt64 => vu64 x) (rt_yes (by simpa using c_10)), rfl, trivial⟩, h_9, (by omega), rfl⟩
 ·have p_11 := of_decide_eq_false c_5
  refine WP.exit (thn_x (thn_x (inb_hit (thn_n (WP.seq (WP.reg ?_))))))
  refine qM (vu64 (rtF (fC p) b)) rfl rfl (qV rfl (R.conv (b := ((UInt32.ofNat ((rtF (fC p) b).toNat)) : UInt32).toNat) rfl underlying26 underlying124 (w32_nat ((rtF (fC p) b).toNat))) (qA (vu32 (UInt32.ofNat ((rtF (fC p) b).toNat))) rfl rfl ?_))
  refine WL.nil (thn_n (WP.ret ?_))
  refine ret_of results78 (RV.tmp (v := (vu32 (UInt32.ofNat ((rtF (fC p) b).toNat)))) rfl RV.nil) ?_
  have hb38 : b = 38 := by omega
  subst hb38
  exact ⟨rfl, h_2.chgS⟩

theorem c_rootS (p : UInt64) (bc : Nat) (w : World) (hcb : (Ent.blk bc .ro 26 [(1, [(vu64 p)])]).ok w.heap.size w) :
  Cs Try.prog 78 [(Value.func (Fn.func 82) [].toArray [(Value.pointer (some ⟨bc, 0, none⟩))].toArray)].toArray w (fun v w1 => v = (vu32 (rootF (fS p))) ∧ Chg w w1 []) := by
 refine Cs.of (n := 22) (args := [(Value.func (Fn.func 82) [].toArray [(Value.pointer (some ⟨bc, 0, none⟩))].toArray)]) Try.func78 rfl rfl rfl ?_
 have h_0 := HP.init w
 have h_00 := h_0.old hcb (fun f hf => by cases hf)
 refine WP.seq (WP.reg ?_)
 refine qA (vu32 0) rfl rfl ?_
 refine WL.nil (thn_n (WP.seq (WP.reg ?_)))
 refine qA (vu64 0) rfl rfl ?_
 refine WL.nil (thn_n (WP.seq (WP.seq (WP.reg ?_))))
 refine qM (vi 0) rfl rfl ?_
 refine WL.nil (thn_n (WP.block ?_))
 refine WP.loopG (G := Nat) [3, 4, 5, 6, 7, 8, 9, 10, 11, 12, 13, 14, 15, 16, 17, 18, 19] (fun b => [(3, (vu64 (rtF (fS p) b))), (6, (vn b))]) (fun b m w1 => HP w w1 [.blk bc .ro 26 [(1, [(vu64 p)])]] ∧ (b ≤ 38) ∧ m = 38 - b) ⟨0, _, ⟨rfl, rfl, trivial⟩, h_00, (by omega), rfl⟩ ?_
 rintro b m_3 J_4 w_1 ⟨h_2, hb, rfl⟩
 refine WP.seq (WP.reg ?_)
 refine qV rfl (R.bin rfl rfl (bi_lss (r := decide ((((b : Nat) : Int) : Int) < 38)) rfl)) ?_
 refine WL.nil (thn_n (WP.seq ?_))
 refine WP.cond (b := decide ((((b : Nat) : Int) : Int) < 38)) rfl (fun c_5 => ?_) (fun c_5 => ?_)
 ·have p_6 := of_decide_eq_true c_5
  refine WP.skip (thn_n (WP.seq (WP.block (WP.seq (WP.reg ?_)))))
  refine qM (vn b) rfl rfl (qA (vn b) rfl rfl ?_)
  refine WL.nil (thn_n (WP.seq (WP.reg ?_)))
  refine qM (vu64 (rtF (fS p) b)) rfl rfl (qM (vn b) rfl rfl (qV rfl (R.bin rfl rfl (bi_sub (c := ((37 - b : Nat) : Int)) (by omega) (by omega))) (qV rfl (R.binR (v := vu64 (shl64 1 (37 - b))) rfl rfl (run_shl64 _ _ _ 1 _ (37 - b))) (qV rfl (R.bin rfl rfl (b64_or (rtF (fS p) b) (shl64 1 (37 - b)))) (qA (vu64 ((rtF (fS p) b) ||| (shl64 1 (37 - b)))) rfl rfl ?_)))))
  refine WL.nil (thn_n (WP.seq (WP.reg ?_)))
  refine qM (Value.func (Fn.func 82) [].toArray [(Value.pointer (some ⟨bc, 0, none⟩))].toArray) rfl rfl (qM (vu64 ((rtF (fS p) b) ||| (shl64 1 (37 - b)))) rfl rfl ?_)
  refine WL.call Try.call82 rfl rfl (c_sta1 ((rtF (fS p) b) ||| (shl64 1 (37 - b))) p bc _ (h_2.argR M0)) rfl ?_
  rintro _ w_8 ⟨rfl, hc_7⟩
  have h_9 := h_2.same hc_7
  refine qV rfl (R.not (b := fS p ((rtF (fS p) b) ||| (shl64 1 (37 - b)))) rfl) ?_
  refine WL.nil (thn_n ?_)
  refine WP.cond (b := !(fS p ((rtF (fS p) b) ||| (shl64 1 (37 - b))))) rfl (fun c_10 => ?_) (fun c_10 => ?_)
  ·refine WP.reg ?_
   refine qM (vu64 ((rtF (fS p) b) ||| (shl64 1 (37 - b)))) rfl rfl (qA (vu64 ((rtF (fS p) b) ||| (shl64 1 (37 - b)))) rfl rfl ?_)
   refine WL.nil (inb_n (thn_n (WP.reg ?_)))
   refine qV rfl (R.bin rfl rfl (bi_add (c := ((b + 1 : Nat) : Int)) (by omega) (by omega))) (qM (vn (b + 1)) rfl rfl ?_)
   refine WL.nil (thn_n ?_)
   exact ⟨b + 1, _, (by omega), (Ag.upd rfl (U4 rfl rfl rfl rfl (U4 rfl rfl rfl rfl (U4 rfl rfl rfl rfl (U4 rfl rfl rfl rfl (Ag.updL rfl (Ag.mix _ _ _))))))), ⟨congrArg (fun x : UInt64 => vu64 x) (rt_no (by simpa using c_10)), rfl, trivial⟩, h_9, (by omega), rfl⟩
  ·refine WP.skip (inb_n (thn_n (WP.reg ?_)))
   refine qV rfl (R.bin rfl rfl (bi_add (c := ((b + 1 : Nat) : Int)) (by omega) (by omega))) (qM (vn (b + 1)) rfl rfl ?_)
   refine WL.nil (thn_n ?_)
   exact ⟨b + 1, _, (by omega), (Ag.upd rfl (U2 rfl rfl (U4 rfl rfl rfl rfl (U4 rfl rfl rfl rfl (U4 rfl rfl rfl rfl (Ag.updL rfl (Ag.mix _ _ _))))))), ⟨congrArg (fun x : UInt64 => vu64 x) (rt_yes (by simpa using c_10)), rfl, trivial⟩, h_9, (by omega), rfl⟩
 ·have p_11 := of_decide_eq_false c_5
  refine WP.exit (thn_x (thn_x (inb_hit (thn_n (WP.seq (WP.reg ?_))))))
  refine qM (vu64 (rtF (fS p) b)) rfl rfl (qV rfl (R.conv (b := ((UInt32.ofNat ((rtF (fS p) b).toNat)) : UInt32).toNat) rfl underlying26 underlying124 (w32_nat ((rtF (fS p) b).toNat))) (qA (vu32 (UInt32.ofNat ((rtF (fS p) b).toNat))) rfl rfl ?_))
  refine WL.nil (thn_n (WP.ret ?_))
  refine ret_of results78 (RV.tmp (v := (vu32 (UInt32.ofNat ((rtF (fS p) b).toNat)))) rfl RV.nil) ?_
  have hb38 : b = 38 := by omega
  subst hb38
  exact ⟨rfl, h_2.chgS⟩

theorem c_constant (p : UInt64) (w : World) :
  Cs Try.prog 70 [(vu64 p)].toArray w (fun v w1 => v = (vu32 (rootF (fC p))) ∧ Chg w w1 []) := by
 refine Cs.of (n := 5) (args := [(vu64 p)]) Try.func70 rfl rfl rfl ?_
 have h_0 := HP.init w
 refine WP.seq (WP.reg ?_)
 refine WL.box (segs := [(1, [(vu64 p)])]) h_0 rfl rfl (sC sV sN) rfl (fun b_1 w_2 h_3 => ?_)
 refine qA (vu32 0) rfl rfl ?_
 refine WL.nil (thn_n (WP.seq (WP.reg ?_)))
 refine qV rfl (R.makeFuncL (fi := []) (ca := [(pO b_1 0)]) rfl rfl) ?_
 refine WL.call Try.call78 rfl rfl (c_rootC p b_1 _ (h_3.argR M0)) rfl ?_
 rintro _ w_5 ⟨rfl, hc_4⟩
 have h_6 := h_3.same hc_4
 refine qA (vu32 (rootF (fC p))) rfl rfl ?_
 refine WL.nil (thn_n (WP.ret ?_))
 refine ret_of results70 (RV.tmp (v := (vu32 (rootF (fC p)))) rfl RV.nil) ?_
 exact ⟨rfl, h_6.chgS⟩

theorem c_start (p : UInt64) (w : World) :
  Cs Try.prog 71 [(vu64 p)].toArray w (fun v w1 => v = (vu32 (rootF (fS p))) ∧ Chg w w1 []) := by
 refine Cs.of (n := 5) (args := [(vu64 p)]) Try.func71 rfl rfl rfl ?_
 have h_0 := HP.init w
 refine WP.seq (WP.reg ?_)
 refine WL.box (segs := [(1, [(vu64 p)])]) h_0 rfl rfl (sC sV sN) rfl (fun b_1 w_2 h_3 => ?_)
 refine qA (vu32 0) rfl rfl ?_
 refine WL.nil (thn_n (WP.seq (WP.reg ?_)))
 refine qV rfl (R.makeFuncL (fi := []) (ca := [(pO b_1 0)]) rfl rfl) ?_
 refine WL.call Try.call78 rfl rfl (c_rootS p b_1 _ (h_3.argR M0)) rfl ?_
 rintro _ w_5 ⟨rfl, hc_4⟩
 have h_6 := h_3.same hc_4
 refine qA (vu32 (rootF (fS p))) rfl rfl ?_
 refine WL.nil (thn_n (WP.ret ?_))
 refine ret_of results71 (RV.tmp (v := (vu32 (rootF (fS p)))) rfl RV.nil) ?_
 exact ⟨rfl, h_6.chgS⟩

theorem c_prm1 (p x : UInt64) (bc : Nat) (hp : p ≠ 0) (w : World) (hcb : (Ent.blk bc .ro 26 [(1, [(vu64 x)])]).ok w.heap.size w) :
  Cs Try.prog 77 [(vu64 p), (.pointer (some ⟨bc, 0, none⟩))].toArray w (fun v w1 => v = (.bool (dvd x p)) ∧ Chg w w1 []) := by
 refine Cs.of (n := 8) (args := [(vu64 p), (pO bc 0)]) Try.func77 rfl rfl rfl ?_
 have h_0 := HP.init w
 have h_00 := h_0.old hcb (fun f hf => by cases hf)
 refine WP.seq (WP.reg ?_)
 refine qA (.bool false) rfl rfl ?_
 refine WL.nil (thn_n (WP.seq (WP.reg ?_)))
 refine qV rfl (R.load1 rfl isAgg26 (h_00.ok _ M0) Sg.h) (qM (vu64 p) rfl rfl (qV rfl (R.bin (v := (vu64 (x % p))) rfl rfl (b64_rem x p hp)) (qV rfl (R.bin (v := (.bool (decide ((x % p : UInt64) = 0)))) rfl rfl (b64_eql (x % p) 0 (r := decide ((x % p : UInt64) = 0)) rfl)) (qA (.bool (decide ((x % p : UInt64) = 0))) rfl rfl ?_))))
 refine WL.nil (thn_n (WP.ret ?_))
 refine ret_of results77 (RV.tmp (v := (.bool (decide ((x % p : UInt64) = 0)))) rfl RV.nil) ?_
 exact ⟨rfl, h_00.chgS⟩

theorem c_IxP (a : Option Addr) (n cap : Nat) (zs : List UInt64) (hl : zs.length = n) (x : UInt64) (bc : Nat) (hz : ∀ i, i < n → zs.getD i 0 ≠ 0) (hnb : n ≤ 1099511627776) (w : World) (hv : View w a (zs.map vu64)) (hcb : (Ent.blk bc .ro 26 [(1, [vu64 x])]).ok w.heap.size w) :
  Cs Try.prog 85 [(.slice a n cap), (Value.func (Fn.func 77) [].toArray [(Value.pointer (some ⟨bc, 0, none⟩))].toArray)].toArray w (fun v w1 => ∃ r : Int, v = vi r ∧ Chg w w1 [] ∧ decide (r ≥ 0) = zs.any (dvd x) ∧ (-1 ≤ r ∧ r ≤ 1099511627776)) := by
 refine Cs.of (n := 19) (args := [(.slice a n cap), (Value.func (Fn.func 77) [].toArray [(Value.pointer (some ⟨bc, 0, none⟩))].toArray)]) Try.func85 rfl rfl rfl ?_
 have h_0 := HP.init w
 have h_01 := h_0.oldV (View.arg hv) rfl (by simp [Ent.mut])
 have h_00 := h_01.oldV hcb rfl (by simp [Ent.mut])
 refine WP.seq (WP.reg ?_)
 refine qA (vi 0) rfl rfl ?_
 refine WL.nil (thn_n (WP.seq (WP.seq (WP.reg ?_))))
 refine qM (.slice a n cap) rfl rfl (qV rfl (R.lenS (a := a) (m := n) rfl rfl underlying132) (qM (vi 0) rfl rfl ?_))
 refine WL.nil (thn_n (WP.block ?_))
 refine WP.loopG (G := Nat) [4, 5, 8, 9, 10, 11, 12, 13, 14, 15, 16, 17, 18] (fun k => [(8, (vn k))]) (fun k m w1 => HP w w1 [.blk bc .ro 26 [(1, [(vu64 x)])], .view a (zs.map vu64)] ∧ (k ≤ n) ∧ (∀ j : Nat, j < k → dvd x (zs.getD j 0) = false) ∧ m = n - k) ⟨0, _, ⟨rfl, trivial⟩, h_00, (by omega), (fun j h => by omega), rfl⟩ ?_
 rintro k m_3 J_4 w_1 ⟨h_2, hk, hg, rfl⟩
 refine WP.seq (WP.reg ?_)
 refine qV rfl (R.bin rfl rfl (bi_lss (r := decide ((((k : Nat) : Int) : Int) < ((n : Nat) : Int))) rfl)) ?_
 refine WL.nil (thn_n (WP.seq ?_))
 refine WP.cond (b := decide ((((k : Nat) : Int) : Int) < ((n : Nat) : Int))) rfl (fun c_5 => ?_) (fun c_5 => ?_)
 ·have p_6 := of_decide_eq_true c_5
  refine WP.skip (thn_n (WP.seq (WP.block (WP.seq (WP.reg ?_)))))
  refine qM (vn k) rfl rfl (qA (vn k) rfl rfl ?_)
  refine WL.nil (thn_n (WP.seq (WP.reg ?_)))
  refine qM (Value.func (Fn.func 77) [].toArray [(Value.pointer (some ⟨bc, 0, none⟩))].toArray) rfl rfl (qM (.slice a n cap) rfl rfl (qM (vn k) rfl rfl (qV rfl (R.indexS (a := a) (i := k) (off := k) (xs := zs.map vu64) rfl rfl rfl (by omega) (viewV (h_2.ok _ M1)) (lt_len (K := n) (len_map hl) (by omega)) underlying132 sizeOf26 (Nat.mul_one _).symm) (qV rfl (R.loadG rfl (viewV (h_2.ok _ M1)) isAgg26 (get_u64 (lt_len (K := n) hl (by omega)))) ?_))))
  refine WL.call Try.call77 rfl rfl (c_prm1 (zs.getD k 0) x bc (hz _ (by omega)) _ (h_2.argR M0)) rfl ?_
  rintro _ w_8 ⟨rfl, hc_7⟩
  have h_9 := h_2.same hc_7
  refine WL.nil (thn_n ?_)
  refine WP.cond (b := dvd x (zs.getD k 0)) rfl (fun c_10 => ?_) (fun c_10 => ?_)
  ·refine WP.seq (WP.reg ?_)
   refine qM (vn k) rfl rfl (qA (vn k) rfl rfl ?_)
   refine WL.nil (thn_n (WP.ret (inb_r (thn_r (thn_r (inb_r (thn_r ?_)))))))
   refine ret_of results85 (RV.tmp (v := (vn k)) rfl RV.nil) ?_
   exact ⟨(k : Int), rfl, h_9.chgS, (by rw [any_t (k := k) (by omega) c_10]; exact decide_eq_true (by omega)), by omega⟩
  ·refine WP.skip (inb_n (thn_n (WP.reg ?_)))
   refine qV rfl (R.bin rfl rfl (bi_add (c := ((k + 1 : Nat) : Int)) (by omega) (by omega))) (qM (vn (k + 1)) rfl rfl ?_)
   refine WL.nil (thn_n ?_)
   refine ⟨k + 1, _, (by omega), (Ag.upd rfl (U2 rfl rfl (U4 rfl rfl rfl rfl (U4 rfl rfl rfl rfl (Ag.updL rfl (Ag.mix _ _ _)))))), ⟨rfl, trivial⟩, h_9, (by omega), (fun j hj => ?_), rfl⟩
   rcases Nat.lt_or_eq_of_le (Nat.le_of_lt_succ hj) with hj | rfl
   ·exact hg j hj
   ·exact c_10
 ·have p_11 := of_decide_eq_false c_5
  refine WP.exit (thn_x (thn_x (inb_hit (thn_n (WP.seq (WP.reg ?_))))))
  refine qA (vi (-1)) rfl rfl ?_
  refine WL.nil (thn_n (WP.ret ?_))
  refine ret_of results85 (RV.tmp (v := (vi (-1))) rfl RV.nil) ?_
  exact ⟨-1, rfl, h_2.chgS, (by rw [any_f fun j hj => hg j (by omega)]; rfl), by omega⟩

theorem c_CfP (a : Option Addr) (n cap : Nat) (zs : List UInt64) (hl : zs.length = n) (x : UInt64) (bc : Nat) (hz : ∀ i, i < n → zs.getD i 0 ≠ 0) (hnb : n ≤ 1099511627776) (w : World) (hv : View w a (zs.map vu64)) (hcb : (Ent.blk bc .ro 26 [(1, [vu64 x])]).ok w.heap.size w) :
  Cs Try.prog 76 [(.slice a n cap), (Value.func (Fn.func 77) [].toArray [(Value.pointer (some ⟨bc, 0, none⟩))].toArray)].toArray w (fun v w1 => v = (.bool (zs.any (dvd x))) ∧ Chg w w1 []) := by
 refine Cs.of (n := 9) (args := [(.slice a n cap), (Value.func (Fn.func 77) [].toArray [(Value.pointer (some ⟨bc, 0, none⟩))].toArray)]) Try.func76 rfl rfl rfl ?_
 have h_0 := HP.init w
 have h_01 := h_0.oldV (View.arg hv) rfl (by simp [Ent.mut])
 have h_00 := h_01.oldV hcb rfl (by simp [Ent.mut])
 refine WP.seq (WP.reg ?_)
 refine qA (.bool false) rfl rfl ?_
 refine WL.nil (thn_n (WP.seq (WP.reg ?_)))
 refine qM (.slice a n cap) rfl rfl (qM (Value.func (Fn.func 77) [].toArray [(Value.pointer (some ⟨bc, 0, none⟩))].toArray) rfl rfl ?_)
 refine WL.call Try.call85 rfl rfl (c_IxP a n cap zs hl x bc hz (by omega) _ (viewV (h_00.ok _ M1)) (h_00.argR M0)) rfl ?_
 rintro _ w_2 ⟨r_1, rfl, hc_3, he_4, hr_5⟩
 have h_6 := h_00.same hc_3
 refine qV rfl (R.bin rfl rfl (bi_geq (r := decide ((r_1 : Int) ≥ 0)) rfl)) (qA (.bool (decide ((r_1 : Int) ≥ 0))) rfl rfl ?_)
 refine WL.nil (thn_n (WP.ret ?_))
 refine ret_of results76 (RV.tmp (v := (.bool (decide ((r_1 : Int) ≥ 0)))) rfl RV.nil) ?_
 exact ⟨congrArg Value.bool he_4, h_6.chgS⟩

theorem u64_succ (n : Nat) : UInt64.ofNat n + 1 = UInt64.ofNat (n + 1) := by simp [UInt64.ofNat_add]

theorem c_primes  (w : World) :
  Cs Try.prog 69 [].toArray w (fun v w1 => ∃ a cap, v = .slice a 64 cap ∧ Chg w w1 [] ∧ Own w.heap.size w1 26 1 a 64 cap ((primeL).map vu64)) := by
 refine Cs.of (n := 18) (args := []) Try.func69 rfl rfl rfl ?_
 have h_0 := HP.init w
 refine WP.seq (WP.reg ?_)
 refine qA (.slice none 0 0) rfl rfl ?_
 refine WL.nil (thn_n (WP.seq (WP.reg ?_)))
 refine qA (.slice none 0 0) rfl rfl ?_
 refine WL.nil (thn_n (WP.seq (WP.seq (WP.reg ?_))))
 refine WL.alloc (segs := [(1, [(vu64 0)])]) h_0 (zv typeInfo26 rfl) rfl (sC sV sN) rfl (fun b_1 w_2 h_3 => ?_)
 refine WL.store1 h_3 rfl rfl sizeOf26 rfl At.h (by decide) Sg.h (fun w_4 h_5 => ?_)
 refine WL.nil (thn_n (WP.block ?_))
 have h_6 := h_5.rowNil 26 1
 have h_8 := (h_6.up J1).up J1
 refine WP.loopG (G := Nat × Option Addr × Nat × Nat) [1, 2, 3, 4, 5, 6, 7, 8, 9, 10, 11, 12, 13, 14, 15, 16] (fun (q, ra, rc, bn) => [(1, (.slice ra ((prm q).length) rc)), (2, (pO bn 0))]) (fun (q, ra, rc, bn) m w1 => HP w w1 [.row ra ((prm q).length) rc 26 1 ((prm q).map vu64), .blk bn .nw 26 [(1, [(vu64 (UInt64.ofNat (q + 2)))])]] ∧ (q ≤ 310) ∧ m = 311 - q) ⟨(0, none, 0, b_1), _, ⟨rfl, rfl, trivial⟩, h_8, (by omega), rfl⟩ ?_
 rintro ⟨q, ra, rc, bn⟩ m_11 J_12 w_9 ⟨h_10, hm, rfl⟩
 have hst := prm_step q
 refine WP.seq (WP.seq (WP.reg ?_))
 refine qM (.slice ra ((prm q).length) rc) rfl rfl (qV rfl (R.lenS (a := ra) (m := (prm q).length) rfl rfl underlying132) (qV rfl (R.bin rfl rfl (bi_lss (r := decide (((((prm q).length : Nat) : Int) : Int) < 64)) rfl)) ?_))
 refine WL.nil (thn_n ?_)
 refine WP.cond (b := decide (((((prm q).length : Nat) : Int) : Int) < 64)) rfl (fun c_13 => ?_) (fun c_13 => ?_)
 ·have p_14 := of_decide_eq_true c_13
  refine WP.skip (thn_n (WP.seq (WP.block (WP.seq (WP.reg ?_)))))
  refine qM (.slice ra ((prm q).length) rc) rfl rfl (qV rfl (R.makeFuncL (fi := []) (ca := [(pO bn 0)]) rfl rfl) ?_)
  refine WL.call Try.call76 rfl rfl (c_CfP ra ((prm q).length) rc (prm q) (rfl : List.length (prm q) = (prm q).length) (UInt64.ofNat (q + 2)) bn (fun i hi => prm_ne hm hi) (by omega) _ (ownView (h_10.ok _ M0)) (h_10.argR M1)) rfl ?_
  rintro _ w_16 ⟨rfl, hc_15⟩
  have h_17 := h_10.same hc_15
  refine qV rfl (R.not (b := (prm q).any (dvd (UInt64.ofNat (q + 2)))) rfl) ?_
  refine WL.nil (thn_n ?_)
  refine WP.cond (b := !((prm q).any (dvd (UInt64.ofNat (q + 2))))) rfl (fun c_18 => ?_) (fun c_18 => ?_)
  ·refine WP.reg ?_
   refine qM (.slice ra ((prm q).length) rc) rfl rfl (qV rfl (R.load1 rfl isAgg26 (h_17.ok _ M1) Sg.h) ?_)
   refine WL.buildSl (vs := [(0, (vu64 (UInt64.ofNat (q + 2))))]) (cs := ([UInt64.ofNat (q + 2)] : List UInt64).map vu64) h_17 underlying132 sizeOf26 (zv typeInfo26 rfl) rfl rfl (by kernel_rfl) rfl (one_u64 _) rfl rfl (fun b_19 w_20 h_21 => ?_)
   refine WL.append (km := (prm q).length + 1) (xs := (prm q).map vu64) (ys := ([UInt64.ofNat (q + 2)] : List UInt64).map vu64) (zs := ((prm q) ++ ([UInt64.ofNat (q + 2)] : List UInt64)).map vu64) h_21 rfl rfl el132 (viewB (h_21.ok _ M0) Sg.h) ((len_map (rfl : List.length ([UInt64.ofNat (q + 2)] : List UInt64) = 1)).trans (Nat.mul_one _).symm) (one_u64 _) (by simp only [List.map_append, List.map_nil]) (by omega) (by omega) (by omega) (fun _ _ => Y1) rfl (fun a_22 c_23 w_24 h_25 => ?_)
   refine qA (.slice a_22 ((prm q).length + 1) c_23) rfl rfl ?_
   refine WL.nil (inb_n (thn_n (WP.seq (WP.seq (WP.reg ?_)))))
   refine qV rfl (R.load1 rfl isAgg26 (h_25.ok _ M2) Sg.h) ?_
   refine WL.nil (thn_n (WP.reg ?_))
   refine WL.alloc (segs := [(1, [(vu64 0)])]) h_25 (zv typeInfo26 rfl) rfl (sC sV sN) rfl (fun b_26 w_27 h_28 => ?_)
   refine WL.store1 h_28 rfl rfl sizeOf26 rfl At.h (by decide) Sg.h (fun w_29 h_30 => ?_)
   refine WL.nil (thn_n (WP.reg ?_))
   refine qV rfl (R.load1 rfl isAgg26 (h_30.ok _ M0) Sg.h) (qV rfl (R.bin rfl rfl (b64_add (UInt64.ofNat (q + 2)) 1)) ?_)
   refine WL.store1 h_30 rfl rfl sizeOf26 rfl At.h (by decide) Sg.h (fun w_31 h_32 => ?_)
   refine WL.nil (thn_n ?_)
   have h_37 := ((((h_32.up J1).drop rfl).up J2).drop rfl).up J1
   have hm9 : q < 310 := prm_lt (by omega)
   have es := prm_no (m := q) (by simpa using c_18)
   have el : (prm q).length + 1 = (prm (q + 1)).length := by rw [← es]; rw [List.length_append]; rfl
   have en : UInt64.ofNat (q + 2) + 1 = UInt64.ofNat (q + 1 + 2) := u64_succ (q + 2)
   rw [el, es, en] at h_37
   exact ⟨(q + 1, a_22, c_23, b_26), _, (by omega), (U4 rfl rfl rfl rfl (U4 rfl rfl rfl rfl (U4 rfl rfl rfl rfl (U4 rfl rfl rfl rfl (Ag.updL rfl (Ag.mix _ _ _)))))), ⟨by rw [← el]; rfl, rfl, trivial⟩, h_37, (by omega), rfl⟩
  ·refine WP.skip (inb_n (thn_n (WP.seq (WP.seq (WP.reg ?_)))))
   refine qV rfl (R.load1 rfl isAgg26 (h_17.ok _ M1) Sg.h) ?_
   refine WL.nil (thn_n (WP.reg ?_))
   refine WL.alloc (segs := [(1, [(vu64 0)])]) h_17 (zv typeInfo26 rfl) rfl (sC sV sN) rfl (fun b_38 w_39 h_40 => ?_)
   refine WL.store1 h_40 rfl rfl sizeOf26 rfl At.h (by decide) Sg.h (fun w_41 h_42 => ?_)
   refine WL.nil (thn_n (WP.reg ?_))
   refine qV rfl (R.load1 rfl isAgg26 (h_42.ok _ M0) Sg.h) (qV rfl (R.bin rfl rfl (b64_add (UInt64.ofNat (q + 2)) 1)) ?_)
   refine WL.store1 h_42 rfl rfl sizeOf26 rfl At.h (by decide) Sg.h (fun w_43 h_44 => ?_)
   refine WL.nil (thn_n ?_)
   have h_47 := ((h_44.up J2).drop rfl).up J1
   have hm9 : q < 310 := prm_lt (by omega)
   have es := prm_yes (m := q) (by simpa using c_18)
   have el : (prm q).length = (prm (q + 1)).length := congrArg List.length es
   have en : UInt64.ofNat (q + 2) + 1 = UInt64.ofNat (q + 1 + 2) := u64_succ (q + 2)
   rw [el, es, en] at h_47
   exact ⟨(q + 1, ra, rc, b_38), _, (by omega), (Ag.upd rfl (U2 rfl rfl (U4 rfl rfl rfl rfl (U4 rfl rfl rfl rfl (Ag.updL rfl (Ag.mix _ _ _)))))), ⟨by rw [← el]; rfl, rfl, trivial⟩, h_47, (by omega), rfl⟩
 ·have p_48 := of_decide_eq_false c_13
  refine WP.exit (thn_x (thn_x (inb_hit (thn_n (WP.seq (WP.reg ?_))))))
  refine qM (.slice ra ((prm q).length) rc) rfl rfl (qA (.slice ra ((prm q).length) rc) rfl rfl ?_)
  refine WL.nil (thn_n (WP.ret ?_))
  refine ret_of results69 (RV.tmp (v := (.slice ra ((prm q).length) rc)) rfl RV.nil) ?_
  have ep := prm_full hm (by omega)
  have hown := h_10.own M0
  rw [ep] at hown
  exact ⟨_, _, by rw [ep]; rfl, h_10.chgS, hown⟩

theorem c_tables  (w : World) :
  Cs Try.prog 63 [].toArray w (fun v w1 => v = (.tuple [(.agg ⟨kL.map vu32⟩), (.agg ⟨hL.map vu32⟩)].toArray) ∧ Chg w w1 []) := by
 refine Cs.of (n := 24) (args := []) Try.func63 rfl rfl rfl ?_
 have h_0 := HP.init w
 refine WP.seq (WP.reg ?_)
 refine WL.alloc (segs := [(64, (zV 64).map vu32)]) h_0 (zv typeInfo125 rfl) rfl (sC (SOk.u32 lr) sN) rfl (fun b_1 w_2 h_3 => ?_)
 refine WL.alloc (segs := [(8, (zV 8).map vu32)]) h_3 (zv typeInfo126 rfl) rfl (sC (SOk.u32 lr) sN) rfl (fun b_4 w_5 h_6 => ?_)
 refine WL.nil (thn_n (WP.seq (WP.seq (WP.reg ?_))))
 refine WL.call Try.call69 rfl rfl (c_primes _) rfl ?_
 rintro _ w_9 ⟨a_7, cap_8, rfl, hc_10, ho_11⟩
 have h_12 := h_6.gotRow hc_10 ho_11
 refine qV rfl (R.lenS (a := a_7) (m := 64) rfl rfl underlying132) (qM (vi 0) rfl rfl ?_)
 refine WL.nil (thn_n (WP.block ?_))
 refine WP.loopG (G := Nat) [2, 3, 6, 7, 8, 9, 10, 11, 12, 13, 14, 15, 16, 17, 18, 19, 20, 21] (fun k => [(6, (vn k))]) (fun k m w1 => HP w w1 [.row a_7 64 cap_8 26 1 (primeL.map vu64), .blk b_4 .nw 126 [(8, (mix hL (List.replicate 8 0) k).map vu32)], .blk b_1 .nw 125 [(64, (mix kL (List.replicate 64 0) k).map vu32)]] ∧ (k ≤ 64) ∧ m = 64 - k) ⟨0, _, ⟨rfl, trivial⟩, (by rw [mix_0, mix_0]; exact h_12), (by omega), rfl⟩ ?_
 rintro k m_15 J_16 w_13 ⟨h_14, hk, rfl⟩
 refine WP.seq (WP.reg ?_)
 refine qV rfl (R.bin rfl rfl (bi_lss (r := decide ((((k : Nat) : Int) : Int) < 64)) rfl)) ?_
 refine WL.nil (thn_n (WP.seq ?_))
 refine WP.cond (b := decide ((((k : Nat) : Int) : Int) < 64)) rfl (fun c_17 => ?_) (fun c_17 => ?_)
 ·have p_18 := of_decide_eq_true c_17
  refine WP.skip (thn_n (WP.seq (WP.block (WP.seq (WP.reg ?_)))))
  refine qM (vn k) rfl rfl (qV rfl (R.indexS (a := a_7) (i := k) (off := k) (xs := primeL.map vu64) rfl rfl rfl (by omega) (ownView (h_14.ok _ M0)) (lt_len (K := 64) (len_map primeL_len) (by omega)) underlying132 sizeOf26 (Nat.mul_one _).symm) (qV rfl (R.loadG rfl (ownView (h_14.ok _ M0)) isAgg26 (get_u64 (lt_len (K := 64) primeL_len (by omega)))) (qA (vn k) rfl rfl (qA (vu64 (primeL.getD k 0)) rfl rfl ?_))))
  refine WL.nil (thn_n (WP.seq (WP.reg ?_)))
  refine qM (vn k) rfl rfl (qM (vu64 (primeL.getD k 0)) rfl rfl ?_)
  refine WL.call Try.call70 rfl rfl (c_constant (primeL.getD k 0) _ ) rfl ?_
  rintro _ w_20 ⟨rfl, hc_19⟩
  have h_21 := h_14.same hc_19
  refine qV rfl (R.indexA (b := b_1) (off := 0) (off' := (0 + k)) (i := k) rfl rfl rfl (by omega) underlying125 sizeOf124 (by rw [Nat.mul_one])) ?_
  refine WL.storeE (b := b_1) (off := (0 + k)) (i := k) (v := (vu32 (rootF (fC (primeL.getD k 0))))) (cs' := ((mix kL (List.replicate 64 0) k).set k (rootF (fC (primeL.getD k 0)))).map vu32) h_21 rfl rfl sizeOf124 rfl Y2 (by decide) Sg.h rfl (lt_len (K := 64) (len_map (mix_len kL_len lr)) (by omega)) (set_u32 _ _ _) (fun w_22 h_23 => ?_)
  refine WL.nil (thn_n (WP.seq (WP.reg ?_)))
  refine qM (vn k) rfl rfl (qV rfl (R.bin rfl rfl (bi_lss (r := decide ((((k : Nat) : Int) : Int) < 8)) rfl)) ?_)
  refine WL.nil (thn_n ?_)
  refine WP.cond (b := decide ((((k : Nat) : Int) : Int) < 8)) rfl (fun c_24 => ?_) (fun c_24 => ?_)
  ·have p_25 := of_decide_eq_true c_24
   refine WP.reg ?_
   refine qM (vn k) rfl rfl (qM (vu64 (primeL.getD k 0)) rfl rfl ?_)
   refine WL.call Try.call71 rfl rfl (c_start (primeL.getD k 0) _ ) rfl ?_
   rintro _ w_27 ⟨rfl, hc_26⟩
   have h_28 := h_23.same hc_26
   refine qV rfl (R.indexA (b := b_4) (off := 0) (off' := (0 + k)) (i := k) rfl rfl rfl (by omega) underlying126 sizeOf124 (by rw [Nat.mul_one])) ?_
   refine WL.storeE (b := b_4) (off := (0 + k)) (i := k) (v := (vu32 (rootF (fS (primeL.getD k 0))))) (cs' := ((mix hL (List.replicate 8 0) k).set k (rootF (fS (primeL.getD k 0)))).map vu32) h_28 rfl rfl sizeOf124 rfl Y1 (by decide) Sg.h rfl (lt_len (K := 8) (len_map (mix_len hL_len lr)) (by omega)) (set_u32 _ _ _) (fun w_29 h_30 => ?_)
   refine WL.nil (inb_n (thn_n (WP.reg ?_)))
   refine qV rfl (R.bin rfl rfl (bi_add (c := ((k + 1 : Nat) : Int)) (by omega) (by omega))) (qM (vn (k + 1)) rfl rfl ?_)
   refine WL.nil (thn_n ?_)
   rw [tabK k (by omega), mix_set kL_len lr (by omega)] at h_30
   rw [tabH k (by omega), mix_set hL_len lr (by omega)] at h_30
   exact ⟨k + 1, _, (by omega), (U2 rfl rfl (U4 rfl rfl rfl rfl (U4 rfl rfl rfl rfl (U4 rfl rfl rfl rfl (U4 rfl rfl rfl rfl (Ag.updL rfl (Ag.mix _ _ _))))))), ⟨rfl, trivial⟩, h_30, (by omega), rfl⟩
  ·have p_31 := of_decide_eq_false c_24
   refine WP.skip (inb_n (thn_n (WP.reg ?_)))
   refine qV rfl (R.bin rfl rfl (bi_add (c := ((k + 1 : Nat) : Int)) (by omega) (by omega))) (qM (vn (k + 1)) rfl rfl ?_)
   refine WL.nil (thn_n ?_)
   rw [tabK k (by omega), mix_set kL_len lr (by omega)] at h_23
   rw [mix_all hL_len lr (show 8 ≤ k by omega), ← mix_all (i := k + 1) hL_len lr (show 8 ≤ k + 1 by omega)] at h_23
   exact ⟨k + 1, _, (by omega), (U2 rfl rfl (U4 rfl rfl rfl rfl (U4 rfl rfl rfl rfl (U4 rfl rfl rfl rfl (Ag.updL rfl (Ag.mix _ _ _)))))), ⟨rfl, trivial⟩, h_23, (by omega), rfl⟩
 ·have p_32 := of_decide_eq_false c_17
  refine WP.exit (thn_x (thn_x (inb_hit (thn_n (WP.seq ?_)))))
  refine WP.drawZ 3 (SL w.heap.size [.row a_7 64 cap_8 26 1 (primeL.map vu64), .blk b_4 .nw 126 [(8, (mix hL (List.replicate 8 0) k).map vu32)]]) (.q 1 (.s 0 (.s 2 (.s 3 .nil)))) (by kernel_rfl) (by kernel_rfl) rfl (by kernel_rfl) (fun w_33 hc_35 => (SL.cons ((h_14.same hc_35).ok _ M0) (SL.cons ((h_14.same hc_35).ok _ M1) (SL.nil _ _)))) (fun w_33 hc_35 => ?_)
  have h_34 := h_14.same hc_35
  refine ZT.q rfl (Wn.no rfl) rfl rfl (fun wq hS => R.loadA [] [(8, (mix hL (List.replicate 8 0) k).map vu32)] [] (cs := (mix hL (List.replicate 8 0) k).map vu32) rfl isAgg126 sizeOf126 (hS _ M1) rfl rfl rfl rfl) ?_
  refine ZT.s ?_
  refine OpZ.one rfl (Wn.no rfl) ?_
  refine qV rfl (R.loadA [] [(64, (mix kL (List.replicate 64 0) k).map vu32)] [] (cs := (mix kL (List.replicate 64 0) k).map vu32) rfl isAgg125 sizeOf125 (h_34.ok _ M2) rfl rfl rfl rfl) ?_
  refine WL.nil ?_
  refine ⟨(N0_1 h_34.ok), ?_⟩
  refine ZT.s ?_
  refine OpZ.one rfl (Wn.no rfl) ?_
  refine WL.storeA [] [(64, (mix kL (List.replicate 64 0) k).map vu32)] [(64, (mix kL (List.replicate 64 0) k).map vu32)] [] h_34 rfl rfl sizeOf125 Y2 (by decide) rfl rfl rfl rfl rfl rfl (sC (SOk.u32 (mix_len kL_len lr)) sN) (fun w_36 h_37 => ?_)
  refine WL.nil ?_
  refine ⟨(N0_1 h_37.ok), ?_⟩
  refine ZT.s ?_
  refine OpZ.last rfl (Wn.no rfl) ?_
  refine WL.storeA [] [(8, (mix hL (List.replicate 8 0) k).map vu32)] [(8, (mix hL (List.replicate 8 0) k).map vu32)] [] h_37 rfl rfl sizeOf126 Y1 (by decide) rfl rfl rfl rfl rfl rfl (sC (SOk.u32 (mix_len hL_len lr)) sN) (fun w_38 h_39 => ?_)
  refine WL.nil (ZT.nil (thn_n (WP.ret ?_)))
  refine ret_of results63 (RV.cell rfl (h_39.loadA (cs := (mix kL (List.replicate 64 0) k).map vu32) isAgg125 sizeOf125 M2 rfl rfl) (RV.cell rfl (h_39.loadA (cs := (mix hL (List.replicate 8 0) k).map vu32) isAgg126 sizeOf126 M1 rfl rfl) RV.nil)) ?_
  have hk64 : k = 64 := by omega
  subst hk64
  have e1 : mix kL (List.replicate 64 0) 64 = kL := mix_all kL_len lr (Nat.le_refl _)
  have e2 : mix hL (List.replicate 8 0) 64 = hL := mix_all hL_len lr (by decide)
  exact ⟨by rw [e1, e2]; rfl, h_39.chgS⟩
end Go.Proofs.Ytbhllplbbkmndaa

namespace Go.Sh
open Go.Vc
theorem nat64 {k : Nat} (h : k < 18446744073709551616) : (UInt64.ofNat k).toNat = k := by simp; omega
end Go.Sh

namespace Go.Sh
open Go.Vc
theorem eight32 {l : List UInt32} (h : l.length = 8) : ([l.getD 0 0, l.getD 1 0, l.getD 2 0, l.getD 3 0, l.getD 4 0, l.getD 5 0, l.getD 6 0, l.getD 7 0] : List UInt32) = l := by
  match l, h with
  | [a, b, c, d, e, f, g, i], _ => rfl
section
variable (K V h : List UInt32) (i : Nat)
theorem st_0 : (stN K V h (i + 1)).getD 0 0 = rT (K.getD i 0) (V.getD i 0) (stN K V h i) + rU (stN K V h i) := rfl
theorem st_1 : (stN K V h (i + 1)).getD 1 0 = (stN K V h i).getD 0 0 := rfl
theorem st_2 : (stN K V h (i + 1)).getD 2 0 = (stN K V h i).getD 1 0 := rfl
theorem st_3 : (stN K V h (i + 1)).getD 3 0 = (stN K V h i).getD 2 0 := rfl
theorem st_4 : (stN K V h (i + 1)).getD 4 0 = (stN K V h i).getD 3 0 + rT (K.getD i 0) (V.getD i 0) (stN K V h i) := rfl
theorem st_5 : (stN K V h (i + 1)).getD 5 0 = (stN K V h i).getD 4 0 := rfl
theorem st_6 : (stN K V h (i + 1)).getD 6 0 = (stN K V h i).getD 5 0 := rfl
theorem st_7 : (stN K V h (i + 1)).getD 7 0 = (stN K V h i).getD 6 0 := rfl
end
def WZ (bs : List UInt8) (i : Nat) : List UInt32 := mix (W bs) (List.replicate 64 0) i
theorem WZ_len (bs : List UInt8) (i : Nat) : (WZ bs i).length = 64 := mix_len (W_len bs) (List.length_replicate ..)
theorem WZ_0 (bs : List UInt8) : WZ bs 0 = List.replicate 64 0 := mix_0 _ _
theorem WZ_all (bs : List UInt8) : WZ bs 64 = W bs := mix_all (W_len bs) (List.length_replicate ..) (Nat.le_refl _)
theorem WZ_lo {bs : List UInt8} {i k : Nat} (hb : bs.length = 64) (hi : i < 16) (hk : k = 4) : (WZ bs i).set i (UInt32.ofNat (UInt64.ofNat (natLE (((bs.drop (4 * i)).take k).reverse))).toNat) = WZ bs (i + 1) := by
  rw [wrd_get (by omega) hk, ← W_lo hi]
  exact mix_set (W_len bs) (List.length_replicate ..) (by omega)
theorem WZ_hi {bs : List UInt8} {i : Nat} (h1 : 16 ≤ i) (h2 : i < 64) {x : UInt32} (hx : x = wNext (WZ bs i) i) : (WZ bs i).set i x = WZ bs (i + 1) := by
  have e : ∀ j, j < i → (WZ bs i).getD j 0 = (W bs).getD j 0 := fun j hj => mix_lt (W_len bs) (by omega) hj
  have : x = (W bs).getD i 0 := by
    rw [hx, W_hi (by omega) h2, wNext, wNext, e _ (by omega), e _ (by omega), e _ (by omega), e _ (by omega)]
  rw [this]
  exact mix_set (W_len bs) (List.length_replicate ..) h2
theorem pr_step {K h : List UInt32} {bs : List UInt8} {i : Nat} (hh : h.length = 8) (hi : i < 8) : (mix (pressL K h bs) h i).set i ((mix (pressL K h bs) h i).getD i 0 + (stN K (W bs) h 64).getD i 0) = mix (pressL K h bs) h (i + 1) := by
  rw [mix_get (pressL_len ..) hi, ← pressL_get hi]
  exact mix_set (pressL_len ..) hh hi
theorem pr_all {K h s : List UInt32} {bs : List UInt8} (hs : s.length = 8) : mix (pressL K h bs) s 8 = pressL K h bs := mix_all (pressL_len ..) hs (Nat.le_refl _)
theorem mul8 (n : Nat) : UInt64.ofNat n * 8 = UInt64.ofNat (n * 8) := by
  apply UInt64.toNat_inj.1
  simp [UInt64.toNat_mul]
theorem pad_P {n : Nat} (hn : n * 8 < 18446744073709551616) : (([128] : List UInt8) ++ List.replicate ((119 - n % 64) % 64) (0 : UInt8)) ++ (leN 8 (UInt64.ofNat (n * 8)).toNat).reverse = padL n := by
  rw [nat64 hn]; rfl
theorem dig_all (h : List UInt32) : mix (digL h) (List.replicate 32 0) 32 = digL h := mix_all (digL_len h) (List.length_replicate ..) (Nat.le_refl _)
theorem fill1 {v : Value} {cells : List Value} {i : Nat} {rest : List (Nat × Value)} (hv : v.cells = #[v]) (hi : i < cells.length) : Instr.fill (fun i => some (i * 1, 1)) ⟨cells⟩ ((i, v) :: rest) = Instr.fill (fun i => some (i * 1, 1)) ⟨cells.set i v⟩ rest := by
  rw [Instr.fill]
  have h1 : ¬ (i + 1 > cells.length) := by omega
  simp [hv, h1]
theorem fill8 {z : Array Value} (hz : z = ⟨List.replicate 8 (vu32 0)⟩) (a b c d e f g h : UInt32) : Instr.fill (fun i => some (i * 1, 1)) z [(0, vu32 a), (1, vu32 b), (2, vu32 c), (3, vu32 d), (4, vu32 e), (5, vu32 f), (6, vu32 g), (7, vu32 h)] = some ⟨([a, b, c, d, e, f, g, h] : List UInt32).map vu32⟩ := by
  subst hz
  generalize ha : vu32 a = A, hb : vu32 b = B, hc : vu32 c = C, hd : vu32 d = D, he : vu32 e = E, hf : vu32 f = F, hg : vu32 g = G, hh : vu32 h = H
  have cA : A.cells = #[A] := by rw [← ha]; rfl
  have cB : B.cells = #[B] := by rw [← hb]; rfl
  have cC : C.cells = #[C] := by rw [← hc]; rfl
  have cD : D.cells = #[D] := by rw [← hd]; rfl
  have cE : E.cells = #[E] := by rw [← he]; rfl
  have cF : F.cells = #[F] := by rw [← hf]; rfl
  have cG : G.cells = #[G] := by rw [← hg]; rfl
  have cH : H.cells = #[H] := by rw [← hh]; rfl
  rw [fill1 cA (by simp), fill1 cB (by simp), fill1 cC (by simp), fill1 cD (by simp), fill1 cE (by simp), fill1 cF (by simp), fill1 cG (by simp), fill1 cH (by simp), Instr.fill]
  simp only [List.map_cons, List.map_nil, ha, hb, hc, hd, he, hf, hg, hh]
  rfl
end Go.Sh

namespace Go.Proofs.Ytbhllplbbkmndaa
open Go.Proofs.Try
open Go.Vc Go.Sh Go.RowKit
set_option maxRecDepth 20000

theorem c_rot2 (x : UInt32) (w : World) :
  Cs Try.prog 73 [(vu32 x), (vi (-2))].toArray w (fun v w1 => v = (vu32 (rot x 2)) ∧ Chg w w1 []) := by
 refine Cs.of (n := 17) (args := [(vu32 x), (vi (-2))]) Try.func73 rfl rfl rfl ?_
 have h_0 := HP.init w
 refine WP.seq (WP.reg ?_)
 refine qA (vu32 0) rfl rfl ?_
 refine WL.nil (thn_n (WP.seq (WP.reg ?_)))
 refine qM (vi (-2)) rfl rfl (qV rfl (R.conv (b := (18446744073709551614 : UInt64).toNat) rfl underlying3 underlying102 (by decide)) (qV rfl (R.bin (v := (vu64 30)) rfl rfl ((b64_and 18446744073709551614 31).trans rfl)) (qA (vu64 30) rfl rfl ?_)))
 refine WL.nil (thn_n (WP.seq (WP.reg ?_)))
 refine qM (vu32 x) rfl rfl (qM (vu64 30) rfl rfl (qV rfl (R.binR (v := vu32 (shl32 x 30)) rfl rfl (run_shl32 _ _ _ x _ 30)) (qM (vu32 x) rfl rfl (qM (vu64 30) rfl rfl (qV rfl (R.bin (v := (vu64 2)) rfl rfl ((b64_sub 32 30).trans rfl)) (qV rfl (R.binR (v := vu32 (shr32 x 2)) rfl rfl (run_shr32 _ _ _ x _ 2)) (qV rfl (R.bin rfl rfl (b32_or (shl32 x 30) (shr32 x 2))) (qA (vu32 ((shl32 x 30) ||| (shr32 x 2))) rfl rfl ?_))))))))
 refine WL.nil (thn_n (WP.ret ?_))
 refine ret_of results73 (RV.tmp (v := (vu32 ((shl32 x 30) ||| (shr32 x 2)))) rfl RV.nil) ?_
 exact ⟨rfl, h_0.chgS⟩

theorem c_rot6 (x : UInt32) (w : World) :
  Cs Try.prog 73 [(vu32 x), (vi (-6))].toArray w (fun v w1 => v = (vu32 (rot x 6)) ∧ Chg w w1 []) := by
 refine Cs.of (n := 17) (args := [(vu32 x), (vi (-6))]) Try.func73 rfl rfl rfl ?_
 have h_0 := HP.init w
 refine WP.seq (WP.reg ?_)
 refine qA (vu32 0) rfl rfl ?_
 refine WL.nil (thn_n (WP.seq (WP.reg ?_)))
 refine qM (vi (-6)) rfl rfl (qV rfl (R.conv (b := (18446744073709551610 : UInt64).toNat) rfl underlying3 underlying102 (by decide)) (qV rfl (R.bin (v := (vu64 26)) rfl rfl ((b64_and 18446744073709551610 31).trans rfl)) (qA (vu64 26) rfl rfl ?_)))
 refine WL.nil (thn_n (WP.seq (WP.reg ?_)))
 refine qM (vu32 x) rfl rfl (qM (vu64 26) rfl rfl (qV rfl (R.binR (v := vu32 (shl32 x 26)) rfl rfl (run_shl32 _ _ _ x _ 26)) (qM (vu32 x) rfl rfl (qM (vu64 26) rfl rfl (qV rfl (R.bin (v := (vu64 6)) rfl rfl ((b64_sub 32 26).trans rfl)) (qV rfl (R.binR (v := vu32 (shr32 x 6)) rfl rfl (run_shr32 _ _ _ x _ 6)) (qV rfl (R.bin rfl rfl (b32_or (shl32 x 26) (shr32 x 6))) (qA (vu32 ((shl32 x 26) ||| (shr32 x 6))) rfl rfl ?_))))))))
 refine WL.nil (thn_n (WP.ret ?_))
 refine ret_of results73 (RV.tmp (v := (vu32 ((shl32 x 26) ||| (shr32 x 6)))) rfl RV.nil) ?_
 exact ⟨rfl, h_0.chgS⟩

theorem c_rot7 (x : UInt32) (w : World) :
  Cs Try.prog 73 [(vu32 x), (vi (-7))].toArray w (fun v w1 => v = (vu32 (rot x 7)) ∧ Chg w w1 []) := by
 refine Cs.of (n := 17) (args := [(vu32 x), (vi (-7))]) Try.func73 rfl rfl rfl ?_
 have h_0 := HP.init w
 refine WP.seq (WP.reg ?_)
 refine qA (vu32 0) rfl rfl ?_
 refine WL.nil (thn_n (WP.seq (WP.reg ?_)))
 refine qM (vi (-7)) rfl rfl (qV rfl (R.conv (b := (18446744073709551609 : UInt64).toNat) rfl underlying3 underlying102 (by decide)) (qV rfl (R.bin (v := (vu64 25)) rfl rfl ((b64_and 18446744073709551609 31).trans rfl)) (qA (vu64 25) rfl rfl ?_)))
 refine WL.nil (thn_n (WP.seq (WP.reg ?_)))
 refine qM (vu32 x) rfl rfl (qM (vu64 25) rfl rfl (qV rfl (R.binR (v := vu32 (shl32 x 25)) rfl rfl (run_shl32 _ _ _ x _ 25)) (qM (vu32 x) rfl rfl (qM (vu64 25) rfl rfl (qV rfl (R.bin (v := (vu64 7)) rfl rfl ((b64_sub 32 25).trans rfl)) (qV rfl (R.binR (v := vu32 (shr32 x 7)) rfl rfl (run_shr32 _ _ _ x _ 7)) (qV rfl (R.bin rfl rfl (b32_or (shl32 x 25) (shr32 x 7))) (qA (vu32 ((shl32 x 25) ||| (shr32 x 7))) rfl rfl ?_))))))))
 refine WL.nil (thn_n (WP.ret ?_))
 refine ret_of results73 (RV.tmp (v := (vu32 ((shl32 x 25) ||| (shr32 x 7)))) rfl RV.nil) ?_
 exact ⟨rfl, h_0.chgS⟩

theorem c_rot11 (x : UInt32) (w : World) :
  Cs Try.prog 73 [(vu32 x), (vi (-11))].toArray w (fun v w1 => v = (vu32 (rot x 11)) ∧ Chg w w1 []) := by
 refine Cs.of (n := 17) (args := [(vu32 x), (vi (-11))]) Try.func73 rfl rfl rfl ?_
 have h_0 := HP.init w
 refine WP.seq (WP.reg ?_)
 refine qA (vu32 0) rfl rfl ?_
 refine WL.nil (thn_n (WP.seq (WP.reg ?_)))
 refine qM (vi (-11)) rfl rfl (qV rfl (R.conv (b := (18446744073709551605 : UInt64).toNat) rfl underlying3 underlying102 (by decide)) (qV rfl (R.bin (v := (vu64 21)) rfl rfl ((b64_and 18446744073709551605 31).trans rfl)) (qA (vu64 21) rfl rfl ?_)))
 refine WL.nil (thn_n (WP.seq (WP.reg ?_)))
 refine qM (vu32 x) rfl rfl (qM (vu64 21) rfl rfl (qV rfl (R.binR (v := vu32 (shl32 x 21)) rfl rfl (run_shl32 _ _ _ x _ 21)) (qM (vu32 x) rfl rfl (qM (vu64 21) rfl rfl (qV rfl (R.bin (v := (vu64 11)) rfl rfl ((b64_sub 32 21).trans rfl)) (qV rfl (R.binR (v := vu32 (shr32 x 11)) rfl rfl (run_shr32 _ _ _ x _ 11)) (qV rfl (R.bin rfl rfl (b32_or (shl32 x 21) (shr32 x 11))) (qA (vu32 ((shl32 x 21) ||| (shr32 x 11))) rfl rfl ?_))))))))
 refine WL.nil (thn_n (WP.ret ?_))
 refine ret_of results73 (RV.tmp (v := (vu32 ((shl32 x 21) ||| (shr32 x 11)))) rfl RV.nil) ?_
 exact ⟨rfl, h_0.chgS⟩

theorem c_rot13 (x : UInt32) (w : World) :
  Cs Try.prog 73 [(vu32 x), (vi (-13))].toArray w (fun v w1 => v = (vu32 (rot x 13)) ∧ Chg w w1 []) := by
 refine Cs.of (n := 17) (args := [(vu32 x), (vi (-13))]) Try.func73 rfl rfl rfl ?_
 have h_0 := HP.init w
 refine WP.seq (WP.reg ?_)
 refine qA (vu32 0) rfl rfl ?_
 refine WL.nil (thn_n (WP.seq (WP.reg ?_)))
 refine qM (vi (-13)) rfl rfl (qV rfl (R.conv (b := (18446744073709551603 : UInt64).toNat) rfl underlying3 underlying102 (by decide)) (qV rfl (R.bin (v := (vu64 19)) rfl rfl ((b64_and 18446744073709551603 31).trans rfl)) (qA (vu64 19) rfl rfl ?_)))
 refine WL.nil (thn_n (WP.seq (WP.reg ?_)))
 refine qM (vu32 x) rfl rfl (qM (vu64 19) rfl rfl (qV rfl (R.binR (v := vu32 (shl32 x 19)) rfl rfl (run_shl32 _ _ _ x _ 19)) (qM (vu32 x) rfl rfl (qM (vu64 19) rfl rfl (qV rfl (R.bin (v := (vu64 13)) rfl rfl ((b64_sub 32 19).trans rfl)) (qV rfl (R.binR (v := vu32 (shr32 x 13)) rfl rfl (run_shr32 _ _ _ x _ 13)) (qV rfl (R.bin rfl rfl (b32_or (shl32 x 19) (shr32 x 13))) (qA (vu32 ((shl32 x 19) ||| (shr32 x 13))) rfl rfl ?_))))))))
 refine WL.nil (thn_n (WP.ret ?_))
 refine ret_of results73 (RV.tmp (v := (vu32 ((shl32 x 19) ||| (shr32 x 13)))) rfl RV.nil) ?_
 exact ⟨rfl, h_0.chgS⟩

theorem c_rot17 (x : UInt32) (w : World) :
  Cs Try.prog 73 [(vu32 x), (vi (-17))].toArray w (fun v w1 => v = (vu32 (rot x 17)) ∧ Chg w w1 []) := by
 refine Cs.of (n := 17) (args := [(vu32 x), (vi (-17))]) Try.func73 rfl rfl rfl ?_
 have h_0 := HP.init w
 refine WP.seq (WP.reg ?_)
 refine qA (vu32 0) rfl rfl ?_
 refine WL.nil (thn_n (WP.seq (WP.reg ?_)))
 refine qM (vi (-17)) rfl rfl (qV rfl (R.conv (b := (18446744073709551599 : UInt64).toNat) rfl underlying3 underlying102 (by decide)) (qV rfl (R.bin (v := (vu64 15)) rfl rfl ((b64_and 18446744073709551599 31).trans rfl)) (qA (vu64 15) rfl rfl ?_)))
 refine WL.nil (thn_n (WP.seq (WP.reg ?_)))
 refine qM (vu32 x) rfl rfl (qM (vu64 15) rfl rfl (qV rfl (R.binR (v := vu32 (shl32 x 15)) rfl rfl (run_shl32 _ _ _ x _ 15)) (qM (vu32 x) rfl rfl (qM (vu64 15) rfl rfl (qV rfl (R.bin (v := (vu64 17)) rfl rfl ((b64_sub 32 15).trans rfl)) (qV rfl (R.binR (v := vu32 (shr32 x 17)) rfl rfl (run_shr32 _ _ _ x _ 17)) (qV rfl (R.bin rfl rfl (b32_or (shl32 x 15) (shr32 x 17))) (qA (vu32 ((shl32 x 15) ||| (shr32 x 17))) rfl rfl ?_))))))))
 refine WL.nil (thn_n (WP.ret ?_))
 refine ret_of results73 (RV.tmp (v := (vu32 ((shl32 x 15) ||| (shr32 x 17)))) rfl RV.nil) ?_
 exact ⟨rfl, h_0.chgS⟩

theorem c_rot18 (x : UInt32) (w : World) :
  Cs Try.prog 73 [(vu32 x), (vi (-18))].toArray w (fun v w1 => v = (vu32 (rot x 18)) ∧ Chg w w1 []) := by
 refine Cs.of (n := 17) (args := [(vu32 x), (vi (-18))]) Try.func73 rfl rfl rfl ?_
 have h_0 := HP.init w
 refine WP.seq (WP.reg ?_)
 refine qA (vu32 0) rfl rfl ?_
 refine WL.nil (thn_n (WP.seq (WP.reg ?_)))
 refine qM (vi (-18)) rfl rfl (qV rfl (R.conv (b := (18446744073709551598 : UInt64).toNat) rfl underlying3 underlying102 (by decide)) (qV rfl (R.bin (v := (vu64 14)) rfl rfl ((b64_and 18446744073709551598 31).trans rfl)) (qA (vu64 14) rfl rfl ?_)))
 refine WL.nil (thn_n (WP.seq (WP.reg ?_)))
 refine qM (vu32 x) rfl rfl (qM (vu64 14) rfl rfl (qV rfl (R.binR (v := vu32 (shl32 x 14)) rfl rfl (run_shl32 _ _ _ x _ 14)) (qM (vu32 x) rfl rfl (qM (vu64 14) rfl rfl (qV rfl (R.bin (v := (vu64 18)) rfl rfl ((b64_sub 32 14).trans rfl)) (qV rfl (R.binR (v := vu32 (shr32 x 18)) rfl rfl (run_shr32 _ _ _ x _ 18)) (qV rfl (R.bin rfl rfl (b32_or (shl32 x 14) (shr32 x 18))) (qA (vu32 ((shl32 x 14) ||| (shr32 x 18))) rfl rfl ?_))))))))
 refine WL.nil (thn_n (WP.ret ?_))
 refine ret_of results73 (RV.tmp (v := (vu32 ((shl32 x 14) ||| (shr32 x 18)))) rfl RV.nil) ?_
 exact ⟨rfl, h_0.chgS⟩

theorem c_rot19 (x : UInt32) (w : World) :
  Cs Try.prog 73 [(vu32 x), (vi (-19))].toArray w (fun v w1 => v = (vu32 (rot x 19)) ∧ Chg w w1 []) := by
 refine Cs.of (n := 17) (args := [(vu32 x), (vi (-19))]) Try.func73 rfl rfl rfl ?_
 have h_0 := HP.init w
 refine WP.seq (WP.reg ?_)
 refine qA (vu32 0) rfl rfl ?_
 refine WL.nil (thn_n (WP.seq (WP.reg ?_)))
 refine qM (vi (-19)) rfl rfl (qV rfl (R.conv (b := (18446744073709551597 : UInt64).toNat) rfl underlying3 underlying102 (by decide)) (qV rfl (R.bin (v := (vu64 13)) rfl rfl ((b64_and 18446744073709551597 31).trans rfl)) (qA (vu64 13) rfl rfl ?_)))
 refine WL.nil (thn_n (WP.seq (WP.reg ?_)))
 refine qM (vu32 x) rfl rfl (qM (vu64 13) rfl rfl (qV rfl (R.binR (v := vu32 (shl32 x 13)) rfl rfl (run_shl32 _ _ _ x _ 13)) (qM (vu32 x) rfl rfl (qM (vu64 13) rfl rfl (qV rfl (R.bin (v := (vu64 19)) rfl rfl ((b64_sub 32 13).trans rfl)) (qV rfl (R.binR (v := vu32 (shr32 x 19)) rfl rfl (run_shr32 _ _ _ x _ 19)) (qV rfl (R.bin rfl rfl (b32_or (shl32 x 13) (shr32 x 19))) (qA (vu32 ((shl32 x 13) ||| (shr32 x 19))) rfl rfl ?_))))))))
 refine WL.nil (thn_n (WP.ret ?_))
 refine ret_of results73 (RV.tmp (v := (vu32 ((shl32 x 13) ||| (shr32 x 19)))) rfl RV.nil) ?_
 exact ⟨rfl, h_0.chgS⟩

theorem c_rot22 (x : UInt32) (w : World) :
  Cs Try.prog 73 [(vu32 x), (vi (-22))].toArray w (fun v w1 => v = (vu32 (rot x 22)) ∧ Chg w w1 []) := by
 refine Cs.of (n := 17) (args := [(vu32 x), (vi (-22))]) Try.func73 rfl rfl rfl ?_
 have h_0 := HP.init w
 refine WP.seq (WP.reg ?_)
 refine qA (vu32 0) rfl rfl ?_
 refine WL.nil (thn_n (WP.seq (WP.reg ?_)))
 refine qM (vi (-22)) rfl rfl (qV rfl (R.conv (b := (18446744073709551594 : UInt64).toNat) rfl underlying3 underlying102 (by decide)) (qV rfl (R.bin (v := (vu64 10)) rfl rfl ((b64_and 18446744073709551594 31).trans rfl)) (qA (vu64 10) rfl rfl ?_)))
 refine WL.nil (thn_n (WP.seq (WP.reg ?_)))
 refine qM (vu32 x) rfl rfl (qM (vu64 10) rfl rfl (qV rfl (R.binR (v := vu32 (shl32 x 10)) rfl rfl (run_shl32 _ _ _ x _ 10)) (qM (vu32 x) rfl rfl (qM (vu64 10) rfl rfl (qV rfl (R.bin (v := (vu64 22)) rfl rfl ((b64_sub 32 10).trans rfl)) (qV rfl (R.binR (v := vu32 (shr32 x 22)) rfl rfl (run_shr32 _ _ _ x _ 22)) (qV rfl (R.bin rfl rfl (b32_or (shl32 x 10) (shr32 x 22))) (qA (vu32 ((shl32 x 10) ||| (shr32 x 22))) rfl rfl ?_))))))))
 refine WL.nil (thn_n (WP.ret ?_))
 refine ret_of results73 (RV.tmp (v := (vu32 ((shl32 x 10) ||| (shr32 x 22)))) rfl RV.nil) ?_
 exact ⟨rfl, h_0.chgS⟩

theorem c_rot25 (x : UInt32) (w : World) :
  Cs Try.prog 73 [(vu32 x), (vi (-25))].toArray w (fun v w1 => v = (vu32 (rot x 25)) ∧ Chg w w1 []) := by
 refine Cs.of (n := 17) (args := [(vu32 x), (vi (-25))]) Try.func73 rfl rfl rfl ?_
 have h_0 := HP.init w
 refine WP.seq (WP.reg ?_)
 refine qA (vu32 0) rfl rfl ?_
 refine WL.nil (thn_n (WP.seq (WP.reg ?_)))
 refine qM (vi (-25)) rfl rfl (qV rfl (R.conv (b := (18446744073709551591 : UInt64).toNat) rfl underlying3 underlying102 (by decide)) (qV rfl (R.bin (v := (vu64 7)) rfl rfl ((b64_and 18446744073709551591 31).trans rfl)) (qA (vu64 7) rfl rfl ?_)))
 refine WL.nil (thn_n (WP.seq (WP.reg ?_)))
 refine qM (vu32 x) rfl rfl (qM (vu64 7) rfl rfl (qV rfl (R.binR (v := vu32 (shl32 x 7)) rfl rfl (run_shl32 _ _ _ x _ 7)) (qM (vu32 x) rfl rfl (qM (vu64 7) rfl rfl (qV rfl (R.bin (v := (vu64 25)) rfl rfl ((b64_sub 32 7).trans rfl)) (qV rfl (R.binR (v := vu32 (shr32 x 25)) rfl rfl (run_shr32 _ _ _ x _ 25)) (qV rfl (R.bin rfl rfl (b32_or (shl32 x 7) (shr32 x 25))) (qA (vu32 ((shl32 x 7) ||| (shr32 x 25))) rfl rfl ?_))))))))
 refine WL.nil (thn_n (WP.ret ?_))
 refine ret_of results73 (RV.tmp (v := (vu32 ((shl32 x 7) ||| (shr32 x 25)))) rfl RV.nil) ?_
 exact ⟨rfl, h_0.chgS⟩

theorem c_rors_7_18 (x : UInt32) (a : Option Addr) (cap : Nat) (w : World) (hv : View w a (([7, 18] : List Int).map vi64)) :
  Cs Try.prog 72 [(vu32 x), (.slice a 2 cap)].toArray w (fun v w1 => v = (vu32 (rot x 7 ^^^ rot x 18)) ∧ Chg w w1 []) := by
 refine Cs.of (n := 22) (args := [(vu32 x), (.slice a 2 cap)]) Try.func72 rfl rfl rfl ?_
 have h_0 := HP.init w
 have h_00 := h_0.old (View.arg hv) (fun f hf => by cases hf)
 refine WP.seq (WP.reg ?_)
 refine qA (vu32 0) rfl rfl ?_
 refine WL.nil (thn_n (WP.seq (WP.reg ?_)))
 refine qA (vu32 0) rfl rfl ?_
 refine WL.nil (thn_n (WP.seq (WP.seq (WP.reg ?_))))
 refine qM (.slice a 2 cap) rfl rfl (qV rfl (R.lenS (a := a) (m := 2) rfl rfl underlying52) (qM (vi 0) rfl rfl ?_))
 refine WL.nil (thn_n (WP.block ?_))
 refine WP.loopU (WI.round ?_)
 refine WP.seq (WP.reg ?_)
 refine qV rfl (R.bin rfl rfl (bi_lss (r := true) (by decide))) ?_
 refine WL.nil (thn_n (WP.seq ?_))
 refine WP.condT rfl ?_
 refine WP.skip (thn_n (WP.seq (WP.block (WP.seq (WP.reg ?_)))))
 refine qV rfl (R.indexS (a := a) (i := 0) (off := 0) (xs := ([7, 18] : List Int).map vi64) rfl rfl rfl (by decide) (viewV (h_00.ok _ M0)) (lt_len (K := 2) (len_map (rfl : List.length ([7, 18] : List Int) = 2)) (by omega)) underlying52 sizeOf3 (Nat.mul_one _).symm) (qV rfl (R.loadG rfl (viewV (h_00.ok _ M0)) isAgg3 rfl) (qA (vi 7) rfl rfl ?_))
 refine WL.nil (thn_n (WP.reg ?_))
 refine qM (vu32 0) rfl rfl (qM (vu32 x) rfl rfl (qM (vi 7) rfl rfl (qV rfl (R.un rfl (run_neg (c := -7) (by omega) (by omega))) ?_)))
 refine WL.call Try.call73 rfl rfl (c_rot7 x _ ) rfl ?_
 rintro _ w_2 ⟨rfl, hc_1⟩
 have h_3 := h_00.same hc_1
 refine qV rfl (R.bin rfl rfl (b32_xor 0 (rot x 7))) (qA (vu32 ((0 : UInt32) ^^^ (rot x 7))) rfl rfl ?_)
 refine WL.nil (inb_n (thn_n (WP.reg ?_)))
 refine qV rfl (R.bin rfl rfl (bi_add (c := 1) (by omega) (by omega))) (qM (vi 1) rfl rfl ?_)
 refine WL.nil (thn_n ?_)
 refine WI.round ?_
 refine WP.seq (WP.reg ?_)
 refine qV rfl (R.bin rfl rfl (bi_lss (r := true) (by decide))) ?_
 refine WL.nil (thn_n (WP.seq ?_))
 refine WP.condT rfl ?_
 refine WP.skip (thn_n (WP.seq (WP.block (WP.seq (WP.reg ?_)))))
 refine qV rfl (R.indexS (a := a) (i := 1) (off := 1) (xs := ([7, 18] : List Int).map vi64) rfl rfl rfl (by decide) (viewV (h_3.ok _ M0)) (lt_len (K := 2) (len_map (rfl : List.length ([7, 18] : List Int) = 2)) (by omega)) underlying52 sizeOf3 (Nat.mul_one _).symm) (qV rfl (R.loadG rfl (viewV (h_3.ok _ M0)) isAgg3 rfl) (qA (vi 18) rfl rfl ?_))
 refine WL.nil (thn_n (WP.reg ?_))
 refine qM (vu32 ((0 : UInt32) ^^^ (rot x 7))) rfl rfl (qM (vu32 x) rfl rfl (qM (vi 18) rfl rfl (qV rfl (R.un rfl (run_neg (c := -18) (by omega) (by omega))) ?_)))
 refine WL.call Try.call73 rfl rfl (c_rot18 x _ ) rfl ?_
 rintro _ w_5 ⟨rfl, hc_4⟩
 have h_6 := h_3.same hc_4
 refine qV rfl (R.bin rfl rfl (b32_xor ((0 : UInt32) ^^^ (rot x 7)) (rot x 18))) (qA (vu32 (((0 : UInt32) ^^^ (rot x 7)) ^^^ (rot x 18))) rfl rfl ?_)
 refine WL.nil (inb_n (thn_n (WP.reg ?_)))
 refine qV rfl (R.bin rfl rfl (bi_add (c := 2) (by omega) (by omega))) (qM (vi 2) rfl rfl ?_)
 refine WL.nil (thn_n ?_)
 refine WI.round ?_
 refine WP.seq (WP.reg ?_)
 refine qV rfl (R.bin rfl rfl (bi_lss (r := false) (by decide))) ?_
 refine WL.nil (thn_n (WP.seq ?_))
 refine WP.condF rfl ?_
 refine WP.exit (thn_x (thn_x (inb_hit (thn_n (WP.seq (WP.reg ?_))))))
 refine qM (vu32 (((0 : UInt32) ^^^ (rot x 7)) ^^^ (rot x 18))) rfl rfl (qA (vu32 (((0 : UInt32) ^^^ (rot x 7)) ^^^ (rot x 18))) rfl rfl ?_)
 refine WL.nil (thn_n (WP.ret ?_))
 refine ret_of results72 (RV.tmp (v := (vu32 (((0 : UInt32) ^^^ (rot x 7)) ^^^ (rot x 18)))) rfl RV.nil) ?_
 exact ⟨congrArg (fun x : UInt32 => vu32 x) (by rw [UInt32.zero_xor]), h_6.chgS⟩

theorem c_rors_17_19 (x : UInt32) (a : Option Addr) (cap : Nat) (w : World) (hv : View w a (([17, 19] : List Int).map vi64)) :
  Cs Try.prog 72 [(vu32 x), (.slice a 2 cap)].toArray w (fun v w1 => v = (vu32 (rot x 17 ^^^ rot x 19)) ∧ Chg w w1 []) := by
 refine Cs.of (n := 22) (args := [(vu32 x), (.slice a 2 cap)]) Try.func72 rfl rfl rfl ?_
 have h_0 := HP.init w
 have h_00 := h_0.old (View.arg hv) (fun f hf => by cases hf)
 refine WP.seq (WP.reg ?_)
 refine qA (vu32 0) rfl rfl ?_
 refine WL.nil (thn_n (WP.seq (WP.reg ?_)))
 refine qA (vu32 0) rfl rfl ?_
 refine WL.nil (thn_n (WP.seq (WP.seq (WP.reg ?_))))
 refine qM (.slice a 2 cap) rfl rfl (qV rfl (R.lenS (a := a) (m := 2) rfl rfl underlying52) (qM (vi 0) rfl rfl ?_))
 refine WL.nil (thn_n (WP.block ?_))
 refine WP.loopU (WI.round ?_)
 refine WP.seq (WP.reg ?_)
 refine qV rfl (R.bin rfl rfl (bi_lss (r := true) (by decide))) ?_
 refine WL.nil (thn_n (WP.seq ?_))
 refine WP.condT rfl ?_
 refine WP.skip (thn_n (WP.seq (WP.block (WP.seq (WP.reg ?_)))))
 refine qV rfl (R.indexS (a := a) (i := 0) (off := 0) (xs := ([17, 19] : List Int).map vi64) rfl rfl rfl (by decide) (viewV (h_00.ok _ M0)) (lt_len (K := 2) (len_map (rfl : List.length ([17, 19] : List Int) = 2)) (by omega)) underlying52 sizeOf3 (Nat.mul_one _).symm) (qV rfl (R.loadG rfl (viewV (h_00.ok _ M0)) isAgg3 rfl) (qA (vi 17) rfl rfl ?_))
 refine WL.nil (thn_n (WP.reg ?_))
 refine qM (vu32 0) rfl rfl (qM (vu32 x) rfl rfl (qM (vi 17) rfl rfl (qV rfl (R.un rfl (run_neg (c := -17) (by omega) (by omega))) ?_)))
 refine WL.call Try.call73 rfl rfl (c_rot17 x _ ) rfl ?_
 rintro _ w_2 ⟨rfl, hc_1⟩
 have h_3 := h_00.same hc_1
 refine qV rfl (R.bin rfl rfl (b32_xor 0 (rot x 17))) (qA (vu32 ((0 : UInt32) ^^^ (rot x 17))) rfl rfl ?_)
 refine WL.nil (inb_n (thn_n (WP.reg ?_)))
 refine qV rfl (R.bin rfl rfl (bi_add (c := 1) (by omega) (by omega))) (qM (vi 1) rfl rfl ?_)
 refine WL.nil (thn_n ?_)
 refine WI.round ?_
 refine WP.seq (WP.reg ?_)
 refine qV rfl (R.bin rfl rfl (bi_lss (r := true) (by decide))) ?_
 refine WL.nil (thn_n (WP.seq ?_))
 refine WP.condT rfl ?_
 refine WP.skip (thn_n (WP.seq (WP.block (WP.seq (WP.reg ?_)))))
 refine qV rfl (R.indexS (a := a) (i := 1) (off := 1) (xs := ([17, 19] : List Int).map vi64) rfl rfl rfl (by decide) (viewV (h_3.ok _ M0)) (lt_len (K := 2) (len_map (rfl : List.length ([17, 19] : List Int) = 2)) (by omega)) underlying52 sizeOf3 (Nat.mul_one _).symm) (qV rfl (R.loadG rfl (viewV (h_3.ok _ M0)) isAgg3 rfl) (qA (vi 19) rfl rfl ?_))
 refine WL.nil (thn_n (WP.reg ?_))
 refine qM (vu32 ((0 : UInt32) ^^^ (rot x 17))) rfl rfl (qM (vu32 x) rfl rfl (qM (vi 19) rfl rfl (qV rfl (R.un rfl (run_neg (c := -19) (by omega) (by omega))) ?_)))
 refine WL.call Try.call73 rfl rfl (c_rot19 x _ ) rfl ?_
 rintro _ w_5 ⟨rfl, hc_4⟩
 have h_6 := h_3.same hc_4
 refine qV rfl (R.bin rfl rfl (b32_xor ((0 : UInt32) ^^^ (rot x 17)) (rot x 19))) (qA (vu32 (((0 : UInt32) ^^^ (rot x 17)) ^^^ (rot x 19))) rfl rfl ?_)
 refine WL.nil (inb_n (thn_n (WP.reg ?_)))
 refine qV rfl (R.bin rfl rfl (bi_add (c := 2) (by omega) (by omega))) (qM (vi 2) rfl rfl ?_)
 refine WL.nil (thn_n ?_)
 refine WI.round ?_
 refine WP.seq (WP.reg ?_)
 refine qV rfl (R.bin rfl rfl (bi_lss (r := false) (by decide))) ?_
 refine WL.nil (thn_n (WP.seq ?_))
 refine WP.condF rfl ?_
 refine WP.exit (thn_x (thn_x (inb_hit (thn_n (WP.seq (WP.reg ?_))))))
 refine qM (vu32 (((0 : UInt32) ^^^ (rot x 17)) ^^^ (rot x 19))) rfl rfl (qA (vu32 (((0 : UInt32) ^^^ (rot x 17)) ^^^ (rot x 19))) rfl rfl ?_)
 refine WL.nil (thn_n (WP.ret ?_))
 refine ret_of results72 (RV.tmp (v := (vu32 (((0 : UInt32) ^^^ (rot x 17)) ^^^ (rot x 19)))) rfl RV.nil) ?_
 exact ⟨congrArg (fun x : UInt32 => vu32 x) (by rw [UInt32.zero_xor]), h_6.chgS⟩

theorem c_rors_6_11_25 (x : UInt32) (a : Option Addr) (cap : Nat) (w : World) (hv : View w a (([6, 11, 25] : List Int).map vi64)) :
  Cs Try.prog 72 [(vu32 x), (.slice a 3 cap)].toArray w (fun v w1 => v = (vu32 ((rot x 6 ^^^ rot x 11) ^^^ rot x 25)) ∧ Chg w w1 []) := by
 refine Cs.of (n := 22) (args := [(vu32 x), (.slice a 3 cap)]) Try.func72 rfl rfl rfl ?_
 have h_0 := HP.init w
 have h_00 := h_0.old (View.arg hv) (fun f hf => by cases hf)
 refine WP.seq (WP.reg ?_)
 refine qA (vu32 0) rfl rfl ?_
 refine WL.nil (thn_n (WP.seq (WP.reg ?_)))
 refine qA (vu32 0) rfl rfl ?_
 refine WL.nil (thn_n (WP.seq (WP.seq (WP.reg ?_))))
 refine qM (.slice a 3 cap) rfl rfl (qV rfl (R.lenS (a := a) (m := 3) rfl rfl underlying52) (qM (vi 0) rfl rfl ?_))
 refine WL.nil (thn_n (WP.block ?_))
 refine WP.loopU (WI.round ?_)
 refine WP.seq (WP.reg ?_)
 refine qV rfl (R.bin rfl rfl (bi_lss (r := true) (by decide))) ?_
 refine WL.nil (thn_n (WP.seq ?_))
 refine WP.condT rfl ?_
 refine WP.skip (thn_n (WP.seq (WP.block (WP.seq (WP.reg ?_)))))
 refine qV rfl (R.indexS (a := a) (i := 0) (off := 0) (xs := ([6, 11, 25] : List Int).map vi64) rfl rfl rfl (by decide) (viewV (h_00.ok _ M0)) (lt_len (K := 3) (len_map (rfl : List.length ([6, 11, 25] : List Int) = 3)) (by omega)) underlying52 sizeOf3 (Nat.mul_one _).symm) (qV rfl (R.loadG rfl (viewV (h_00.ok _ M0)) isAgg3 rfl) (qA (vi 6) rfl rfl ?_))
 refine WL.nil (thn_n (WP.reg ?_))
 refine qM (vu32 0) rfl rfl (qM (vu32 x) rfl rfl (qM (vi 6) rfl rfl (qV rfl (R.un rfl (run_neg (c := -6) (by omega) (by omega))) ?_)))
 refine WL.call Try.call73 rfl rfl (c_rot6 x _ ) rfl ?_
 rintro _ w_2 ⟨rfl, hc_1⟩
 have h_3 := h_00.same hc_1
 refine qV rfl (R.bin rfl rfl (b32_xor 0 (rot x 6))) (qA (vu32 ((0 : UInt32) ^^^ (rot x 6))) rfl rfl ?_)
 refine WL.nil (inb_n (thn_n (WP.reg ?_)))
 refine qV rfl (R.bin rfl rfl (bi_add (c := 1) (by omega) (by omega))) (qM (vi 1) rfl rfl ?_)
 refine WL.nil (thn_n ?_)
 refine WI.round ?_
 refine WP.seq (WP.reg ?_)
 refine qV rfl (R.bin rfl rfl (bi_lss (r := true) (by decide))) ?_
 refine WL.nil (thn_n (WP.seq ?_))
 refine WP.condT rfl ?_
 refine WP.skip (thn_n (WP.seq (WP.block (WP.seq (WP.reg ?_)))))
 refine qV rfl (R.indexS (a := a) (i := 1) (off := 1) (xs := ([6, 11, 25] : List Int).map vi64) rfl rfl rfl (by decide) (viewV (h_3.ok _ M0)) (lt_len (K := 3) (len_map (rfl : List.length ([6, 11, 25] : List Int) = 3)) (by omega)) underlying52 sizeOf3 (Nat.mul_one _).symm) (qV rfl (R.loadG rfl (viewV (h_3.ok _ M0)) isAgg3 rfl) (qA (vi 11) rfl rfl ?_))
 refine WL.nil (thn_n (WP.reg ?_))
 refine qM (vu32 ((0 : UInt32) ^^^ (rot x 6))) rfl rfl (qM (vu32 x) rfl rfl (qM (vi 11) rfl rfl (qV rfl (R.un rfl (run_neg (c := -11) (by omega) (by omega))) ?_)))
 refine WL.call Try.call73 rfl rfl (c_rot11 x _ ) rfl ?_
 rintro _ w_5 ⟨rfl, hc_4⟩
 have h_6 := h_3.same hc_4
 refine qV rfl (R.bin rfl rfl (b32_xor ((0 : UInt32) ^^^ (rot x 6)) (rot x 11))) (qA (vu32 (((0 : UInt32) ^^^ (rot x 6)) ^^^ (rot x 11))) rfl rfl ?_)
 refine WL.nil (inb_n (thn_n (WP.reg ?_)))
 refine qV rfl (R.bin rfl rfl (bi_add (c := 2) (by omega) (by omega))) (qM (vi 2) rfl rfl ?_)
 refine WL.nil (thn_n ?_)
 refine WI.round ?_
 refine WP.seq (WP.reg ?_)
 refine qV rfl (R.bin rfl rfl (bi_lss (r := true) (by decide))) ?_
 refine WL.nil (thn_n (WP.seq ?_))
 refine WP.condT rfl ?_
 refine WP.skip (thn_n (WP.seq (WP.block (WP.seq (WP.reg ?_)))))
 refine qV rfl (R.indexS (a := a) (i := 2) (off := 2) (xs := ([6, 11, 25] : List Int).map vi64) rfl rfl rfl (by decide) (viewV (h_6.ok _ M0)) (lt_len (K := 3) (len_map (rfl : List.length ([6, 11, 25] : List Int) = 3)) (by omega)) underlying52 sizeOf3 (Nat.mul_one _).symm) (qV rfl (R.loadG rfl (viewV (h_6.ok _ M0)) isAgg3 rfl) (qA (vi 25) rfl rfl ?_))
 refine WL.nil (thn_n (WP.reg ?_))
 refine qM (vu32 (((0 : UInt32) ^^^ (rot x 6)) ^^^ (rot x 11))) rfl rfl (qM (vu32 x) rfl rfl (qM (vi 25) rfl rfl (qV rfl (R.un rfl (run_neg (c := -25) (by omega) (by omega))) ?_)))
 refine WL.call Try.call73 rfl rfl (c_rot25 x _ ) rfl ?_
 rintro _ w_8 ⟨rfl, hc_7⟩
 have h_9 := h_6.same hc_7
 refine qV rfl (R.bin rfl rfl (b32_xor (((0 : UInt32) ^^^ (rot x 6)) ^^^ (rot x 11)) (rot x 25))) (qA (vu32 ((((0 : UInt32) ^^^ (rot x 6)) ^^^ (rot x 11)) ^^^ (rot x 25))) rfl rfl ?_)
 refine WL.nil (inb_n (thn_n (WP.reg ?_)))
 refine qV rfl (R.bin rfl rfl (bi_add (c := 3) (by omega) (by omega))) (qM (vi 3) rfl rfl ?_)
 refine WL.nil (thn_n ?_)
 refine WI.round ?_
 refine WP.seq (WP.reg ?_)
 refine qV rfl (R.bin rfl rfl (bi_lss (r := false) (by decide))) ?_
 refine WL.nil (thn_n (WP.seq ?_))
 refine WP.condF rfl ?_
 refine WP.exit (thn_x (thn_x (inb_hit (thn_n (WP.seq (WP.reg ?_))))))
 refine qM (vu32 ((((0 : UInt32) ^^^ (rot x 6)) ^^^ (rot x 11)) ^^^ (rot x 25))) rfl rfl (qA (vu32 ((((0 : UInt32) ^^^ (rot x 6)) ^^^ (rot x 11)) ^^^ (rot x 25))) rfl rfl ?_)
 refine WL.nil (thn_n (WP.ret ?_))
 refine ret_of results72 (RV.tmp (v := (vu32 ((((0 : UInt32) ^^^ (rot x 6)) ^^^ (rot x 11)) ^^^ (rot x 25)))) rfl RV.nil) ?_
 exact ⟨congrArg (fun x : UInt32 => vu32 x) (by rw [UInt32.zero_xor]), h_9.chgS⟩

theorem c_rors_2_13_22 (x : UInt32) (a : Option Addr) (cap : Nat) (w : World) (hv : View w a (([2, 13, 22] : List Int).map vi64)) :
  Cs Try.prog 72 [(vu32 x), (.slice a 3 cap)].toArray w (fun v w1 => v = (vu32 ((rot x 2 ^^^ rot x 13) ^^^ rot x 22)) ∧ Chg w w1 []) := by
 refine Cs.of (n := 22) (args := [(vu32 x), (.slice a 3 cap)]) Try.func72 rfl rfl rfl ?_
 have h_0 := HP.init w
 have h_00 := h_0.old (View.arg hv) (fun f hf => by cases hf)
 refine WP.seq (WP.reg ?_)
 refine qA (vu32 0) rfl rfl ?_
 refine WL.nil (thn_n (WP.seq (WP.reg ?_)))
 refine qA (vu32 0) rfl rfl ?_
 refine WL.nil (thn_n (WP.seq (WP.seq (WP.reg ?_))))
 refine qM (.slice a 3 cap) rfl rfl (qV rfl (R.lenS (a := a) (m := 3) rfl rfl underlying52) (qM (vi 0) rfl rfl ?_))
 refine WL.nil (thn_n (WP.block ?_))
 refine WP.loopU (WI.round ?_)
 refine WP.seq (WP.reg ?_)
 refine qV rfl (R.bin rfl rfl (bi_lss (r := true) (by decide))) ?_
 refine WL.nil (thn_n (WP.seq ?_))
 refine WP.condT rfl ?_
 refine WP.skip (thn_n (WP.seq (WP.block (WP.seq (WP.reg ?_)))))
 refine qV rfl (R.indexS (a := a) (i := 0) (off := 0) (xs := ([2, 13, 22] : List Int).map vi64) rfl rfl rfl (by decide) (viewV (h_00.ok _ M0)) (lt_len (K := 3) (len_map (rfl : List.length ([2, 13, 22] : List Int) = 3)) (by omega)) underlying52 sizeOf3 (Nat.mul_one _).symm) (qV rfl (R.loadG rfl (viewV (h_00.ok _ M0)) isAgg3 rfl) (qA (vi 2) rfl rfl ?_))
 refine WL.nil (thn_n (WP.reg ?_))
 refine qM (vu32 0) rfl rfl (qM (vu32 x) rfl rfl (qM (vi 2) rfl rfl (qV rfl (R.un rfl (run_neg (c := -2) (by omega) (by omega))) ?_)))
 refine WL.call Try.call73 rfl rfl (c_rot2 x _ ) rfl ?_
 rintro _ w_2 ⟨rfl, hc_1⟩
 have h_3 := h_00.same hc_1
 refine qV rfl (R.bin rfl rfl (b32_xor 0 (rot x 2))) (qA (vu32 ((0 : UInt32) ^^^ (rot x 2))) rfl rfl ?_)
 refine WL.nil (inb_n (thn_n (WP.reg ?_)))
 refine qV rfl (R.bin rfl rfl (bi_add (c := 1) (by omega) (by omega))) (qM (vi 1) rfl rfl ?_)
 refine WL.nil (thn_n ?_)
 refine WI.round ?_
 refine WP.seq (WP.reg ?_)
 refine qV rfl (R.bin rfl rfl (bi_lss (r := true) (by decide))) ?_
 refine WL.nil (thn_n (WP.seq ?_))
 refine WP.condT rfl ?_
 refine WP.skip (thn_n (WP.seq (WP.block (WP.seq (WP.reg ?_)))))
 refine qV rfl (R.indexS (a := a) (i := 1) (off := 1) (xs := ([2, 13, 22] : List Int).map vi64) rfl rfl rfl (by decide) (viewV (h_3.ok _ M0)) (lt_len (K := 3) (len_map (rfl : List.length ([2, 13, 22] : List Int) = 3)) (by omega)) underlying52 sizeOf3 (Nat.mul_one _).symm) (qV rfl (R.loadG rfl (viewV (h_3.ok _ M0)) isAgg3 rfl) (qA (vi 13) rfl rfl ?_))
 refine WL.nil (thn_n (WP.reg ?_))
 refine qM (vu32 ((0 : UInt32) ^^^ (rot x 2))) rfl rfl (qM (vu32 x) rfl rfl (qM (vi 13) rfl rfl (qV rfl (R.un rfl (run_neg (c := -13) (by omega) (by omega))) ?_)))
 refine WL.call Try.call73 rfl rfl (c_rot13 x _ ) rfl ?_
 rintro _ w_5 ⟨rfl, hc_4⟩
 have h_6 := h_3.same hc_4
 refine qV rfl (R.bin rfl rfl (b32_xor ((0 : UInt32) ^^^ (rot x 2)) (rot x 13))) (qA (vu32 (((0 : UInt32) ^^^ (rot x 2)) ^^^ (rot x 13))) rfl rfl ?_)
 refine WL.nil (inb_n (thn_n (WP.reg ?_)))
 refine qV rfl (R.bin rfl rfl (bi_add (c := 2) (by omega) (by omega))) (qM (vi 2) rfl rfl ?_)
 refine WL.nil (thn_n ?_)
 refine WI.round ?_
 refine WP.seq (WP.reg ?_)
 refine qV rfl (R.bin rfl rfl (bi_lss (r := true) (by decide))) ?_
 refine WL.nil (thn_n (WP.seq ?_))
 refine WP.condT rfl ?_
 refine WP.skip (thn_n (WP.seq (WP.block (WP.seq (WP.reg ?_)))))
 refine qV rfl (R.indexS (a := a) (i := 2) (off := 2) (xs := ([2, 13, 22] : List Int).map vi64) rfl rfl rfl (by decide) (viewV (h_6.ok _ M0)) (lt_len (K := 3) (len_map (rfl : List.length ([2, 13, 22] : List Int) = 3)) (by omega)) underlying52 sizeOf3 (Nat.mul_one _).symm) (qV rfl (R.loadG rfl (viewV (h_6.ok _ M0)) isAgg3 rfl) (qA (vi 22) rfl rfl ?_))
 refine WL.nil (thn_n (WP.reg ?_))
 refine qM (vu32 (((0 : UInt32) ^^^ (rot x 2)) ^^^ (rot x 13))) rfl rfl (qM (vu32 x) rfl rfl (qM (vi 22) rfl rfl (qV rfl (R.un rfl (run_neg (c := -22) (by omega) (by omega))) ?_)))
 refine WL.call Try.call73 rfl rfl (c_rot22 x _ ) rfl ?_
 rintro _ w_8 ⟨rfl, hc_7⟩
 have h_9 := h_6.same hc_7
 refine qV rfl (R.bin rfl rfl (b32_xor (((0 : UInt32) ^^^ (rot x 2)) ^^^ (rot x 13)) (rot x 22))) (qA (vu32 ((((0 : UInt32) ^^^ (rot x 2)) ^^^ (rot x 13)) ^^^ (rot x 22))) rfl rfl ?_)
 refine WL.nil (inb_n (thn_n (WP.reg ?_)))
 refine qV rfl (R.bin rfl rfl (bi_add (c := 3) (by omega) (by omega))) (qM (vi 3) rfl rfl ?_)
 refine WL.nil (thn_n ?_)
 refine WI.round ?_
 refine WP.seq (WP.reg ?_)
 refine qV rfl (R.bin rfl rfl (bi_lss (r := false) (by decide))) ?_
 refine WL.nil (thn_n (WP.seq ?_))
 refine WP.condF rfl ?_
 refine WP.exit (thn_x (thn_x (inb_hit (thn_n (WP.seq (WP.reg ?_))))))
 refine qM (vu32 ((((0 : UInt32) ^^^ (rot x 2)) ^^^ (rot x 13)) ^^^ (rot x 22))) rfl rfl (qA (vu32 ((((0 : UInt32) ^^^ (rot x 2)) ^^^ (rot x 13)) ^^^ (rot x 22))) rfl rfl ?_)
 refine WL.nil (thn_n (WP.ret ?_))
 refine ret_of results72 (RV.tmp (v := (vu32 ((((0 : UInt32) ^^^ (rot x 2)) ^^^ (rot x 13)) ^^^ (rot x 22)))) rfl RV.nil) ?_
 exact ⟨congrArg (fun x : UInt32 => vu32 x) (by rw [UInt32.zero_xor]), h_9.chgS⟩

theorem c_press (hh ks : List UInt32) (hhl : hh.length = 8) (hkl : ks.length = 64) (a : Option Addr) (cap : Nat) (bs : List UInt8) (hl : bs.length = 64) (hcap : 64 ≤ cap) (w : World) (hv : View w a (bs.map vu8)) :
  Cs Try.prog 65 [(.agg ⟨hh.map vu32⟩), (.slice a 64 cap), (.agg ⟨ks.map vu32⟩)].toArray w (fun v w1 => v = (.agg ⟨(pressL ks hh bs).map vu32⟩) ∧ Chg w w1 []) := by
 refine Cs.of (n := 179) (args := [(.agg ⟨hh.map vu32⟩), (.slice a 64 cap), (.agg ⟨ks.map vu32⟩)]) Try.func65 rfl rfl rfl ?_
 have h_0 := HP.init w
 have h_00 := h_0.old (View.arg hv) (fun f hf => by cases hf)
 refine WP.seq (WP.reg ?_)
 refine WL.box (segs := [(8, hh.map vu32)]) h_00 rfl rfl (sC (SOk.u32 hhl) sN) rfl (fun b_1 w_2 h_3 => ?_)
 refine WL.box (segs := [(64, ks.map vu32)]) h_3 rfl rfl (sC (SOk.u32 hkl) sN) rfl (fun b_4 w_5 h_6 => ?_)
 refine WL.alloc (segs := [(8, (zV 8).map vu32)]) h_6 (zv typeInfo126 rfl) rfl (sC (SOk.u32 lr) sN) rfl (fun b_7 w_8 h_9 => ?_)
 refine WL.nil (thn_n (WP.seq (WP.reg ?_)))
 refine qA (Value.func (Fn.func 72) [].toArray [].toArray) rfl rfl ?_
 refine WL.nil (thn_n (WP.seq (WP.reg ?_)))
 refine WL.alloc (segs := [(64, (zV 64).map vu32)]) h_9 (zv typeInfo125 rfl) rfl (sC (SOk.u32 lr) sN) rfl (fun b_10 w_11 h_12 => ?_)
 refine WL.nil (thn_n (WP.seq (WP.seq (WP.reg ?_))))
 refine qM (vi 0) rfl rfl ?_
 refine WL.nil (thn_n (WP.block ?_))
 refine WP.loopG (G := Nat) [9, 10, 11, 28, 29, 30, 31, 32, 33, 34, 35, 36, 37, 38, 39, 40, 41, 42, 43, 44, 45, 46, 47] (fun i => [(28, (vn i))]) (fun i m w1 => HP w w1 [.blk b_10 .nw 125 [(64, (WZ bs i).map vu32)], .blk b_7 .nw 126 [(8, (zV 8).map vu32)], .blk b_4 .nw 125 [(64, ks.map vu32)], .blk b_1 .nw 126 [(8, hh.map vu32)], .view a (bs.map vu8)] ∧ (i ≤ 16) ∧ m = 16 - i) ⟨0, _, ⟨rfl, trivial⟩, (by rw [WZ_0]; exact h_12), (by omega), rfl⟩ ?_
 rintro i m_15 J_16 w_13 ⟨h_14, hi, rfl⟩
 refine WP.seq (WP.reg ?_)
 refine qV rfl (R.bin rfl rfl (bi_lss (r := decide ((((i : Nat) : Int) : Int) < 16)) rfl)) ?_
 refine WL.nil (thn_n (WP.seq ?_))
 refine WP.cond (b := decide ((((i : Nat) : Int) : Int) < 16)) rfl (fun c_17 => ?_) (fun c_17 => ?_)
 ·have p_18 := of_decide_eq_true c_17
  refine WP.skip (thn_n (WP.seq (WP.block (WP.seq (WP.reg ?_)))))
  refine qM (vn i) rfl rfl (qA (vn i) rfl rfl ?_)
  refine WL.nil (thn_n (WP.seq (WP.reg ?_)))
  refine qM (.slice a 64 cap) rfl rfl (qM (vn i) rfl rfl (qV rfl (R.bin rfl rfl (bi_mul (c := ((4 * i : Nat) : Int)) (by omega) (by omega))) (qM (vn i) rfl rfl (qV rfl (R.bin rfl rfl (bi_mul (c := ((4 * i : Nat) : Int)) (by omega) (by omega))) (qV rfl (R.bin rfl rfl (bi_add (c := ((4 * i + 4 : Nat) : Int)) (by omega) (by omega))) (qV rfl (R.sliceS (a := a) (len := 64) (l := 4 * i) (h := 4 * i + 4) rfl (EvB.it (l := 4 * i) rfl rfl) (EvB.it (l := 4 * i + 4) rfl rfl) (by omega) (by omega) underlying72 sizeOf5) ?_))))))
  refine WL.call Try.call68 rfl rfl (c_Turned (slA a (4 * i) cap 1) (4 * i + 4 - (4 * i)) (cap - (4 * i)) ((bs.drop (4 * i)).take (4 * i + 4 - (4 * i))) (subLen (K := 64) hl (by omega) : List.length ((bs.drop (4 * i)).take (4 * i + 4 - (4 * i))) = 4 * i + 4 - (4 * i)) (by omega) _ (View.slM (l := 4 * i) (m := cap) (k := 4 * i + 4 - (4 * i)) (viewV (h_14.ok _ M4)) (by omega))) rfl ?_
  rintro _ w_21 ⟨a_19, cap_20, rfl, hc_22, ho_23⟩
  have h_24 := h_14.gotRow hc_22 ho_23
  refine WL.call Try.call74 rfl rfl (c_Get_ok a_19 (4 * i + 4 - (4 * i)) cap_20 (((bs.drop (4 * i)).take (4 * i + 4 - (4 * i))).reverse) ((List.length_reverse ..).trans (subLen (K := 64) hl (by omega) : List.length ((bs.drop (4 * i)).take (4 * i + 4 - (4 * i))) = 4 * i + 4 - (4 * i))) (by omega) (by omega) _ (ownView (h_24.ok _ M0))) rfl ?_
  rintro _ w_26 ⟨rfl, hc_25⟩
  have h_27 := h_24.same hc_25
  refine qM (.tuple [(vu64 (UInt64.ofNat (natLE (((bs.drop (4 * i)).take (4 * i + 4 - (4 * i))).reverse)))), (vi 0)].toArray) rfl rfl (qV rfl (R.extract rfl rfl) (qV rfl (R.extract rfl rfl) (qA (vu64 (UInt64.ofNat (natLE (((bs.drop (4 * i)).take (4 * i + 4 - (4 * i))).reverse)))) rfl rfl (qA (vi 0) rfl rfl ?_))))
  refine WL.nil (thn_n (WP.reg ?_))
  refine qM (vn i) rfl rfl (qM (vu64 (UInt64.ofNat (natLE (((bs.drop (4 * i)).take (4 * i + 4 - (4 * i))).reverse)))) rfl rfl (qV rfl (R.conv (b := ((UInt32.ofNat ((UInt64.ofNat (natLE (((bs.drop (4 * i)).take (4 * i + 4 - (4 * i))).reverse))).toNat)) : UInt32).toNat) rfl underlying26 underlying124 (w32_nat ((UInt64.ofNat (natLE (((bs.drop (4 * i)).take (4 * i + 4 - (4 * i))).reverse))).toNat))) (qV rfl (R.indexA (b := b_10) (off := 0) (off' := (0 + i)) (i := i) rfl rfl rfl (by omega) underlying125 sizeOf124 (by rw [Nat.mul_one])) ?_)))
  refine WL.storeE (b := b_10) (off := (0 + i)) (i := i) (v := (vu32 (UInt32.ofNat ((UInt64.ofNat (natLE (((bs.drop (4 * i)).take (4 * i + 4 - (4 * i))).reverse))).toNat)))) (cs' := ((WZ bs i).set i (UInt32.ofNat ((UInt64.ofNat (natLE (((bs.drop (4 * i)).take (4 * i + 4 - (4 * i))).reverse))).toNat))).map vu32) h_27 rfl rfl sizeOf124 rfl Y1 (by decide) Sg.h rfl (lt_len (K := 64) (len_map (WZ_len ..)) (by omega)) (set_u32 _ _ _) (fun w_28 h_29 => ?_)
  refine WL.nil (inb_n (thn_n (WP.reg ?_)))
  refine qV rfl (R.bin rfl rfl (bi_add (c := ((i + 1 : Nat) : Int)) (by omega) (by omega))) (qM (vn (i + 1)) rfl rfl ?_)
  refine WL.nil (thn_n ?_)
  have h_35 := (((((h_29.drop rfl).up J4).up J4).up J4).up J4).up J4
  rw [WZ_lo (i := i) hl (by omega) (by omega)] at h_35
  exact ⟨i + 1, _, (by omega), (Ag.upd rfl (U2 rfl rfl (U4 rfl rfl rfl rfl (U4 rfl rfl rfl rfl (U4 rfl rfl rfl rfl (U4 rfl rfl rfl rfl (U4 rfl rfl rfl rfl (Ag.updL rfl (Ag.mix _ _ _))))))))), ⟨rfl, trivial⟩, h_35, (by omega), rfl⟩
 ·have p_36 := of_decide_eq_false c_17
  refine WP.exit (thn_x (thn_x (inb_hit (thn_n (WP.seq (WP.seq (WP.reg ?_)))))))
  refine qA (vi 16) rfl rfl ?_
  refine WL.nil (thn_n (WP.block ?_))
  have hi16 : i = 16 := by omega
  subst hi16
  refine WP.loopG (G := Nat) [12, 13, 14, 48, 49, 50, 51, 52, 53, 54, 55, 56, 57, 58, 59, 60, 61, 62, 63, 64, 65, 66, 67, 68, 69, 70, 71, 72, 73, 74, 75, 76, 77, 78, 79, 80, 81, 82, 83, 84, 85, 86] (fun j => [(12, (vn j))]) (fun j m w1 => HP w w1 [.blk b_10 .nw 125 [(64, (WZ bs j).map vu32)], .blk b_7 .nw 126 [(8, (zV 8).map vu32)], .blk b_4 .nw 125 [(64, ks.map vu32)], .blk b_1 .nw 126 [(8, hh.map vu32)], .view a (bs.map vu8)] ∧ (16 ≤ j) ∧ (j ≤ 64) ∧ m = 64 - j) ⟨16, _, ⟨rfl, trivial⟩, h_14, (by omega), (by omega), rfl⟩ ?_
  rintro j m_39 J_40 w_37 ⟨h_38, hj, hj2, rfl⟩
  refine WP.seq (WP.seq (WP.reg ?_))
  refine qM (vn j) rfl rfl (qV rfl (R.bin rfl rfl (bi_lss (r := decide ((((j : Nat) : Int) : Int) < 64)) rfl)) ?_)
  refine WL.nil (thn_n ?_)
  refine WP.cond (b := decide ((((j : Nat) : Int) : Int) < 64)) rfl (fun c_41 => ?_) (fun c_41 => ?_)
  ·have p_42 := of_decide_eq_true c_41
   refine WP.skip (thn_n (WP.seq (WP.block (WP.seq ?_))))
   refine WP.drawT (SL w.heap.size [.blk b_10 .nw 125 [(64, (WZ bs j).map vu32)], .blk b_7 .nw 126 [(8, (zV 8).map vu32)], .blk b_4 .nw 125 [(64, ks.map vu32)], .blk b_1 .nw 126 [(8, hh.map vu32)], .view a (bs.map vu8)]) (.q 0 (.q 1 (.q 2 (.q 3 (.q 4 (.q 5 (.q 6 (.q 7 (.q 8 (.q 9 .nil)))))))))) (by kernel_rfl) (by kernel_rfl) rfl (by kernel_rfl) (fun w_43 hc_45 => (SL.cons ((h_38.same hc_45).ok _ M0) (SL.cons ((h_38.same hc_45).ok _ M1) (SL.cons ((h_38.same hc_45).ok _ M2) (SL.cons ((h_38.same hc_45).ok _ M3) (SL.cons ((h_38.same hc_45).ok _ M4) (SL.nil _ _))))))) (fun w_43 hc_45 => ?_)
   have h_44 := h_38.same hc_45
   refine qT rfl rfl (fun wq hS => R.move (v := (vn j)) rfl) ?_
   refine qT rfl rfl (fun wq hS => R.bin rfl rfl (bi_sub (c := ((j - 15 : Nat) : Int)) (by omega) (by omega))) ?_
   refine qT rfl rfl (fun wq hS => R.indexA (b := b_10) (off := 0) (off' := (0 + (j - 15))) (i := j - 15) rfl rfl rfl (by omega) underlying125 sizeOf124 (by rw [Nat.mul_one])) ?_
   refine qT rfl rfl (fun wq hS => R.loadE (b := b_10) (off := (0 + (j - 15))) (i := j - 15) (v := (vu32 ((WZ bs j).getD (j - 15) 0))) rfl isAgg124 (hS _ M0) Sg.h rfl (get_u32 (lt_len (K := 64) (WZ_len ..) (by omega)))) ?_
   refine qT rfl rfl (fun wq hS => R.move (v := (vn j)) rfl) ?_
   refine qT rfl rfl (fun wq hS => R.bin rfl rfl (bi_sub (c := ((j - 2 : Nat) : Int)) (by omega) (by omega))) ?_
   refine qT rfl rfl (fun wq hS => R.indexA (b := b_10) (off := 0) (off' := (0 + (j - 2))) (i := j - 2) rfl rfl rfl (by omega) underlying125 sizeOf124 (by rw [Nat.mul_one])) ?_
   refine qT rfl rfl (fun wq hS => R.loadE (b := b_10) (off := (0 + (j - 2))) (i := j - 2) (v := (vu32 ((WZ bs j).getD (j - 2) 0))) rfl isAgg124 (hS _ M0) Sg.h rfl (get_u32 (lt_len (K := 64) (WZ_len ..) (by omega)))) ?_
   refine qT rfl rfl (fun wq hS => R.assign (v := (vu32 ((WZ bs j).getD (j - 15) 0))) rfl) ?_
   refine qT rfl rfl (fun wq hS => R.assign (v := (vu32 ((WZ bs j).getD (j - 2) 0))) rfl) ?_
   refine WT.nil (thn_n ?_)
   refine WP.cutG (G := Nat × Nat) [60, 61, 62, 63, 64, 65, 66, 67, 68, 69, 70, 71, 72, 73, 74, 75, 76, 77, 78, 79, 80, 81, 82, 83, 84, 85, 86] (fun (bY13Y7Y0Y0, bY13Y20Y0Y0) => [(60, (vn j)), (61, (vn j)), (62, (vn (j - 16))), (63, (.pointer (some ⟨b_10, (0 + (j - 16)), none⟩))), (64, (vu32 ((WZ bs j).getD (j - 16) 0))), (65, (Value.func (Fn.func 72) [].toArray [].toArray)), (66, (vu32 ((WZ bs j).getD (j - 15) 0))), (69, (vu32 ((WZ bs j).getD (j - 15) 0))), (70, (vu32 (shr32 ((WZ bs j).getD (j - 15) 0) 3))), (73, (vn j)), (74, (vn (j - 7))), (75, (.pointer (some ⟨b_10, (0 + (j - 7)), none⟩))), (76, (vu32 ((WZ bs j).getD (j - 7) 0))), (78, (Value.func (Fn.func 72) [].toArray [].toArray)), (79, (vu32 ((WZ bs j).getD (j - 2) 0))), (82, (vu32 ((WZ bs j).getD (j - 2) 0))), (83, (vu32 (shr32 ((WZ bs j).getD (j - 2) 0) 10))), (67, (.slice (some ⟨bY13Y7Y0Y0, 0, none⟩) 2 2)), (68, (vu32 (rot ((WZ bs j).getD (j - 15) 0) 7 ^^^ rot ((WZ bs j).getD (j - 15) 0) 18))), (71, (vu32 ((rot ((WZ bs j).getD (j - 15) 0) 7 ^^^ rot ((WZ bs j).getD (j - 15) 0) 18) ^^^ (shr32 ((WZ bs j).getD (j - 15) 0) 3)))), (72, (vu32 (((WZ bs j).getD (j - 16) 0) + ((rot ((WZ bs j).getD (j - 15) 0) 7 ^^^ rot ((WZ bs j).getD (j - 15) 0) 18) ^^^ (shr32 ((WZ bs j).getD (j - 15) 0) 3))))), (77, (vu32 ((((WZ bs j).getD (j - 16) 0) + ((rot ((WZ bs j).getD (j - 15) 0) 7 ^^^ rot ((WZ bs j).getD (j - 15) 0) 18) ^^^ (shr32 ((WZ bs j).getD (j - 15) 0) 3))) + ((WZ bs j).getD (j - 7) 0)))), (80, (.slice (some ⟨bY13Y20Y0Y0, 0, none⟩) 2 2)), (81, (vu32 (rot ((WZ bs j).getD (j - 2) 0) 17 ^^^ rot ((WZ bs j).getD (j - 2) 0) 19))), (84, (vu32 ((rot ((WZ bs j).getD (j - 2) 0) 17 ^^^ rot ((WZ bs j).getD (j - 2) 0) 19) ^^^ (shr32 ((WZ bs j).getD (j - 2) 0) 10)))), (85, (vu32 (((((WZ bs j).getD (j - 16) 0) + ((rot ((WZ bs j).getD (j - 15) 0) 7 ^^^ rot ((WZ bs j).getD (j - 15) 0) 18) ^^^ (shr32 ((WZ bs j).getD (j - 15) 0) 3))) + ((WZ bs j).getD (j - 7) 0)) + ((rot ((WZ bs j).getD (j - 2) 0) 17 ^^^ rot ((WZ bs j).getD (j - 2) 0) 19) ^^^ (shr32 ((WZ bs j).getD (j - 2) 0) 10))))), (86, (pO b_10 (0 + j)))]) (fun (bY13Y7Y0Y0, bY13Y20Y0Y0) w1 => HP w w1 [.blk bY13Y20Y0Y0 .nw 3 [(2, [(vi 17), (vi 19)])], .blk bY13Y7Y0Y0 .nw 3 [(2, [(vi 7), (vi 18)])], .blk b_10 .nw 125 [(64, ((WZ bs j).set j (((((WZ bs j).getD (j - 16) 0) + ((rot ((WZ bs j).getD (j - 15) 0) 7 ^^^ rot ((WZ bs j).getD (j - 15) 0) 18) ^^^ (shr32 ((WZ bs j).getD (j - 15) 0) 3))) + ((WZ bs j).getD (j - 7) 0)) + ((rot ((WZ bs j).getD (j - 2) 0) 17 ^^^ rot ((WZ bs j).getD (j - 2) 0) 19) ^^^ (shr32 ((WZ bs j).getD (j - 2) 0) 10)))).map vu32)], .blk b_7 .nw 126 [(8, (zV 8).map vu32)], .blk b_4 .nw 125 [(64, ks.map vu32)], .blk b_1 .nw 126 [(8, hh.map vu32)], .view a (bs.map vu8)]) ?_ ?_
   ·refine WP.drawZ 27 (SL w.heap.size [.blk b_10 .nw 125 [(64, (WZ bs j).map vu32)], .blk b_7 .nw 126 [(8, (zV 8).map vu32)], .blk b_4 .nw 125 [(64, ks.map vu32)], .blk b_1 .nw 126 [(8, hh.map vu32)], .view a (bs.map vu8)]) (.q 0 (.q 1 (.q 2 (.q 3 (.q 4 (.q 5 (.q 6 (.q 9 (.q 10 (.q 13 (.q 14 (.q 15 (.q 16 (.q 18 (.q 19 (.q 22 (.q 23 (.s2 7 20 (.s2 8 20 (.q 11 (.q 12 (.q 17 (.s 20 (.s 21 (.q 24 (.q 25 (.q 26 (.s 27 .nil))))))))) (.s 8 (.q 11 (.q 12 (.q 17 (.s 21 (.q 24 (.q 25 (.q 26 (.s 27 .nil)))))))))) (.s 7 (.s 8 (.q 11 (.q 12 (.q 17 (.s 21 (.q 24 (.q 25 (.q 26 (.s 27 .nil)))))))))))))))))))))))))))) (by kernel_rfl) (by kernel_rfl) rfl (by kernel_rfl) (fun w_46 hc_48 => (SL.cons ((h_44.same hc_48).ok _ M0) (SL.cons ((h_44.same hc_48).ok _ M1) (SL.cons ((h_44.same hc_48).ok _ M2) (SL.cons ((h_44.same hc_48).ok _ M3) (SL.cons ((h_44.same hc_48).ok _ M4) (SL.nil _ _))))))) (fun w_46 hc_48 => ?_)
    have h_47 := h_44.same hc_48
    refine ZT.q rfl (Wn.no rfl) rfl rfl (fun wq hS => R.move (v := (vn j)) rfl) ?_
    refine ZT.q rfl (Wn.no rfl) rfl rfl (fun wq hS => R.move (v := (vn j)) rfl) ?_
    refine ZT.q rfl (Wn.no rfl) rfl rfl (fun wq hS => R.bin rfl rfl (bi_sub (c := ((j - 16 : Nat) : Int)) (by omega) (by omega))) ?_
    refine ZT.q rfl (Wn.no rfl) rfl rfl (fun wq hS => R.indexA (b := b_10) (off := 0) (off' := (0 + (j - 16))) (i := j - 16) rfl rfl rfl (by omega) underlying125 sizeOf124 (by rw [Nat.mul_one])) ?_
    refine ZT.q rfl (Wn.no rfl) rfl rfl (fun wq hS => R.loadE (b := b_10) (off := (0 + (j - 16))) (i := j - 16) (v := (vu32 ((WZ bs j).getD (j - 16) 0))) rfl isAgg124 (hS _ M0) Sg.h rfl (get_u32 (lt_len (K := 64) (WZ_len ..) (by omega)))) ?_
    refine ZT.q rfl (Wn.no rfl) rfl rfl (fun wq hS => R.move (v := (Value.func (Fn.func 72) [].toArray [].toArray)) rfl) ?_
    refine ZT.q rfl (Wn.no rfl) rfl rfl (fun wq hS => R.move (v := (vu32 ((WZ bs j).getD (j - 15) 0))) rfl) ?_
    refine ZT.q rfl (Wn.no rfl) rfl rfl (fun wq hS => R.move (v := (vu32 ((WZ bs j).getD (j - 15) 0))) rfl) ?_
    refine ZT.q rfl (Wn.no rfl) rfl rfl (fun wq hS => R.binR (v := vu32 (shr32 ((WZ bs j).getD (j - 15) 0) 3)) rfl rfl (run_shr32 _ _ _ ((WZ bs j).getD (j - 15) 0) _ 3)) ?_
    refine ZT.q rfl (Wn.no rfl) rfl rfl (fun wq hS => R.move (v := (vn j)) rfl) ?_
    refine ZT.q rfl (Wn.no rfl) rfl rfl (fun wq hS => R.bin rfl rfl (bi_sub (c := ((j - 7 : Nat) : Int)) (by omega) (by omega))) ?_
    refine ZT.q rfl (Wn.no rfl) rfl rfl (fun wq hS => R.indexA (b := b_10) (off := 0) (off' := (0 + (j - 7))) (i := j - 7) rfl rfl rfl (by omega) underlying125 sizeOf124 (by rw [Nat.mul_one])) ?_
    refine ZT.q rfl (Wn.no rfl) rfl rfl (fun wq hS => R.loadE (b := b_10) (off := (0 + (j - 7))) (i := j - 7) (v := (vu32 ((WZ bs j).getD (j - 7) 0))) rfl isAgg124 (hS _ M0) Sg.h rfl (get_u32 (lt_len (K := 64) (WZ_len ..) (by omega)))) ?_
    refine ZT.q rfl (Wn.no rfl) rfl rfl (fun wq hS => R.move (v := (Value.func (Fn.func 72) [].toArray [].toArray)) rfl) ?_
    refine ZT.q rfl (Wn.no rfl) rfl rfl (fun wq hS => R.move (v := (vu32 ((WZ bs j).getD (j - 2) 0))) rfl) ?_
    refine ZT.q rfl (Wn.no rfl) rfl rfl (fun wq hS => R.move (v := (vu32 ((WZ bs j).getD (j - 2) 0))) rfl) ?_
    refine ZT.q rfl (Wn.no rfl) rfl rfl (fun wq hS => R.binR (v := vu32 (shr32 ((WZ bs j).getD (j - 2) 0) 10)) rfl rfl (run_shr32 _ _ _ ((WZ bs j).getD (j - 2) 0) _ 10)) ?_
    refine ZT.s2 ?_ ?_
    ·refine OpZ.one rfl (Wn.no rfl) ?_
     refine WL.buildSl (vs := [(0, (vi 7)), (1, (vi 18))]) (cs := [(vi 7), (vi 18)]) h_47 underlying52 sizeOf3 (zv typeInfo3 rfl) rfl rfl (by kernel_rfl) rfl (by simp [Value.oneCell']) rfl rfl (fun b_49 w_50 h_51 => ?_)
     refine WL.nil ?_
     refine ⟨(N1_2_3_4_5 h_51.ok), ?_⟩
     refine ZT.s2 ?_ ?_
     ·refine OpZ.one rfl (Wn.no rfl) ?_
      refine WL.call Try.call72 rfl rfl (c_rors_7_18 ((WZ bs j).getD (j - 15) 0) (some ⟨b_49, 0, none⟩) 2 _ (viewB (h_51.ok _ M0) Sg.h)) rfl ?_
      rintro _ w_53 ⟨rfl, hc_52⟩
      have h_54 := h_51.same hc_52
      refine WL.nil ?_
      refine ⟨(N1_2_3_4_5 h_54.ok), ?_⟩
      refine ZT.q rfl (Wn.no rfl) rfl rfl (fun wq hS => R.bin rfl rfl (b32_xor (rot ((WZ bs j).getD (j - 15) 0) 7 ^^^ rot ((WZ bs j).getD (j - 15) 0) 18) (shr32 ((WZ bs j).getD (j - 15) 0) 3))) ?_
      refine ZT.q rfl (Wn.no rfl) rfl rfl (fun wq hS => R.bin rfl rfl (b32_add ((WZ bs j).getD (j - 16) 0) ((rot ((WZ bs j).getD (j - 15) 0) 7 ^^^ rot ((WZ bs j).getD (j - 15) 0) 18) ^^^ (shr32 ((WZ bs j).getD (j - 15) 0) 3)))) ?_
      refine ZT.q rfl (Wn.no rfl) rfl rfl (fun wq hS => R.bin rfl rfl (b32_add (((WZ bs j).getD (j - 16) 0) + ((rot ((WZ bs j).getD (j - 15) 0) 7 ^^^ rot ((WZ bs j).getD (j - 15) 0) 18) ^^^ (shr32 ((WZ bs j).getD (j - 15) 0) 3))) ((WZ bs j).getD (j - 7) 0))) ?_
      refine ZT.s ?_
      refine OpZ.one rfl (Wn.no rfl) ?_
      refine WL.buildSl (vs := [(0, (vi 17)), (1, (vi 19))]) (cs := [(vi 17), (vi 19)]) h_54 underlying52 sizeOf3 (zv typeInfo3 rfl) rfl rfl (by kernel_rfl) rfl (by simp [Value.oneCell']) rfl rfl (fun b_55 w_56 h_57 => ?_)
      refine WL.nil ?_
      refine ⟨(N2_3_4_5_6 h_57.ok), ?_⟩
      refine ZT.s ?_
      refine OpZ.one rfl (Wn.no rfl) ?_
      refine WL.call Try.call72 rfl rfl (c_rors_17_19 ((WZ bs j).getD (j - 2) 0) (some ⟨b_55, 0, none⟩) 2 _ (viewB (h_57.ok _ M0) Sg.h)) rfl ?_
      rintro _ w_59 ⟨rfl, hc_58⟩
      have h_60 := h_57.same hc_58
      refine WL.nil ?_
      refine ⟨(N2_3_4_5_6 h_60.ok), ?_⟩
      refine ZT.q rfl (Wn.no rfl) rfl rfl (fun wq hS => R.bin rfl rfl (b32_xor (rot ((WZ bs j).getD (j - 2) 0) 17 ^^^ rot ((WZ bs j).getD (j - 2) 0) 19) (shr32 ((WZ bs j).getD (j - 2) 0) 10))) ?_
      refine ZT.q rfl (Wn.no rfl) rfl rfl (fun wq hS => R.bin rfl rfl (b32_add ((((WZ bs j).getD (j - 16) 0) + ((rot ((WZ bs j).getD (j - 15) 0) 7 ^^^ rot ((WZ bs j).getD (j - 15) 0) 18) ^^^ (shr32 ((WZ bs j).getD (j - 15) 0) 3))) + ((WZ bs j).getD (j - 7) 0)) ((rot ((WZ bs j).getD (j - 2) 0) 17 ^^^ rot ((WZ bs j).getD (j - 2) 0) 19) ^^^ (shr32 ((WZ bs j).getD (j - 2) 0) 10)))) ?_
      refine ZT.q rfl (Wn.no rfl) rfl rfl (fun wq hS => R.indexA (b := b_10) (off := 0) (off' := (0 + j)) (i := j) rfl rfl rfl (by omega) underlying125 sizeOf124 (by rw [Nat.mul_one])) ?_
      refine ZT.s ?_
      refine OpZ.last rfl (Wn.no rfl) ?_
      refine WL.storeE (b := b_10) (off := (0 + j)) (i := j) (v := (vu32 (((((WZ bs j).getD (j - 16) 0) + ((rot ((WZ bs j).getD (j - 15) 0) 7 ^^^ rot ((WZ bs j).getD (j - 15) 0) 18) ^^^ (shr32 ((WZ bs j).getD (j - 15) 0) 3))) + ((WZ bs j).getD (j - 7) 0)) + ((rot ((WZ bs j).getD (j - 2) 0) 17 ^^^ rot ((WZ bs j).getD (j - 2) 0) 19) ^^^ (shr32 ((WZ bs j).getD (j - 2) 0) 10))))) (cs' := ((WZ bs j).set j (((((WZ bs j).getD (j - 16) 0) + ((rot ((WZ bs j).getD (j - 15) 0) 7 ^^^ rot ((WZ bs j).getD (j - 15) 0) 18) ^^^ (shr32 ((WZ bs j).getD (j - 15) 0) 3))) + ((WZ bs j).getD (j - 7) 0)) + ((rot ((WZ bs j).getD (j - 2) 0) 17 ^^^ rot ((WZ bs j).getD (j - 2) 0) 19) ^^^ (shr32 ((WZ bs j).getD (j - 2) 0) 10)))).map vu32) h_60 rfl rfl sizeOf124 rfl Y2 (by decide) Sg.h rfl (lt_len (K := 64) (len_map (WZ_len ..)) (by omega)) (set_u32 _ _ _) (fun w_61 h_62 => ?_)
      refine WL.nil (ZT.nil (thn_n ?_))
      exact ⟨(b_49, b_55), (Ag.upd rfl (U2 rfl rfl (U4 rfl rfl rfl rfl (U4 rfl rfl rfl rfl (U4 rfl rfl rfl rfl (U4 rfl rfl rfl rfl (U4 rfl rfl rfl rfl (U4 rfl rfl rfl rfl (Ag.refl _ _))))))))), ⟨rfl, rfl, rfl, rfl, rfl, rfl, rfl, rfl, rfl, rfl, rfl, rfl, rfl, rfl, rfl, rfl, rfl, rfl, rfl, rfl, rfl, rfl, rfl, rfl, rfl, rfl, rfl, trivial⟩, h_62⟩
     ·refine OpZ.one rfl (Wn.no rfl) ?_
      refine WL.buildSl (vs := [(0, (vi 17)), (1, (vi 19))]) (cs := [(vi 17), (vi 19)]) h_51 underlying52 sizeOf3 (zv typeInfo3 rfl) rfl rfl (by kernel_rfl) rfl (by simp [Value.oneCell']) rfl rfl (fun b_63 w_64 h_65 => ?_)
      refine WL.nil ?_
      refine ⟨(N2_3_4_5_6 h_65.ok), ?_⟩
      refine ZT.s ?_
      refine OpZ.one rfl (Wn.no rfl) ?_
      refine WL.call Try.call72 rfl rfl (c_rors_7_18 ((WZ bs j).getD (j - 15) 0) (some ⟨b_49, 0, none⟩) 2 _ (viewB (h_65.ok _ M1) Sg.h)) rfl ?_
      rintro _ w_67 ⟨rfl, hc_66⟩
      have h_68 := h_65.same hc_66
      refine WL.nil ?_
      refine ⟨(N2_3_4_5_6 h_68.ok), ?_⟩
      refine ZT.q rfl (Wn.no rfl) rfl rfl (fun wq hS => R.bin rfl rfl (b32_xor (rot ((WZ bs j).getD (j - 15) 0) 7 ^^^ rot ((WZ bs j).getD (j - 15) 0) 18) (shr32 ((WZ bs j).getD (j - 15) 0) 3))) ?_
      refine ZT.q rfl (Wn.no rfl) rfl rfl (fun wq hS => R.bin rfl rfl (b32_add ((WZ bs j).getD (j - 16) 0) ((rot ((WZ bs j).getD (j - 15) 0) 7 ^^^ rot ((WZ bs j).getD (j - 15) 0) 18) ^^^ (shr32 ((WZ bs j).getD (j - 15) 0) 3)))) ?_
      refine ZT.q rfl (Wn.no rfl) rfl rfl (fun wq hS => R.bin rfl rfl (b32_add (((WZ bs j).getD (j - 16) 0) + ((rot ((WZ bs j).getD (j - 15) 0) 7 ^^^ rot ((WZ bs j).getD (j - 15) 0) 18) ^^^ (shr32 ((WZ bs j).getD (j - 15) 0) 3))) ((WZ bs j).getD (j - 7) 0))) ?_
      refine ZT.s ?_
      refine OpZ.one rfl (Wn.no rfl) ?_
      refine WL.call Try.call72 rfl rfl (c_rors_17_19 ((WZ bs j).getD (j - 2) 0) (some ⟨b_63, 0, none⟩) 2 _ (viewB (h_68.ok _ M0) Sg.h)) rfl ?_
      rintro _ w_70 ⟨rfl, hc_69⟩
      have h_71 := h_68.same hc_69
      refine WL.nil ?_
      refine ⟨(N2_3_4_5_6 h_71.ok), ?_⟩
      refine ZT.q rfl (Wn.no rfl) rfl rfl (fun wq hS => R.bin rfl rfl (b32_xor (rot ((WZ bs j).getD (j - 2) 0) 17 ^^^ rot ((WZ bs j).getD (j - 2) 0) 19) (shr32 ((WZ bs j).getD (j - 2) 0) 10))) ?_
      refine ZT.q rfl (Wn.no rfl) rfl rfl (fun wq hS => R.bin rfl rfl (b32_add ((((WZ bs j).getD (j - 16) 0) + ((rot ((WZ bs j).getD (j - 15) 0) 7 ^^^ rot ((WZ bs j).getD (j - 15) 0) 18) ^^^ (shr32 ((WZ bs j).getD (j - 15) 0) 3))) + ((WZ bs j).getD (j - 7) 0)) ((rot ((WZ bs j).getD (j - 2) 0) 17 ^^^ rot ((WZ bs j).getD (j - 2) 0) 19) ^^^ (shr32 ((WZ bs j).getD (j - 2) 0) 10)))) ?_
      refine ZT.q rfl (Wn.no rfl) rfl rfl (fun wq hS => R.indexA (b := b_10) (off := 0) (off' := (0 + j)) (i := j) rfl rfl rfl (by omega) underlying125 sizeOf124 (by rw [Nat.mul_one])) ?_
      refine ZT.s ?_
      refine OpZ.last rfl (Wn.no rfl) ?_
      refine WL.storeE (b := b_10) (off := (0 + j)) (i := j) (v := (vu32 (((((WZ bs j).getD (j - 16) 0) + ((rot ((WZ bs j).getD (j - 15) 0) 7 ^^^ rot ((WZ bs j).getD (j - 15) 0) 18) ^^^ (shr32 ((WZ bs j).getD (j - 15) 0) 3))) + ((WZ bs j).getD (j - 7) 0)) + ((rot ((WZ bs j).getD (j - 2) 0) 17 ^^^ rot ((WZ bs j).getD (j - 2) 0) 19) ^^^ (shr32 ((WZ bs j).getD (j - 2) 0) 10))))) (cs' := ((WZ bs j).set j (((((WZ bs j).getD (j - 16) 0) + ((rot ((WZ bs j).getD (j - 15) 0) 7 ^^^ rot ((WZ bs j).getD (j - 15) 0) 18) ^^^ (shr32 ((WZ bs j).getD (j - 15) 0) 3))) + ((WZ bs j).getD (j - 7) 0)) + ((rot ((WZ bs j).getD (j - 2) 0) 17 ^^^ rot ((WZ bs j).getD (j - 2) 0) 19) ^^^ (shr32 ((WZ bs j).getD (j - 2) 0) 10)))).map vu32) h_71 rfl rfl sizeOf124 rfl Y2 (by decide) Sg.h rfl (lt_len (K := 64) (len_map (WZ_len ..)) (by omega)) (set_u32 _ _ _) (fun w_72 h_73 => ?_)
      refine WL.nil (ZT.nil (thn_n ?_))
      exact ⟨(b_49, b_63), (Ag.upd rfl (U2 rfl rfl (U4 rfl rfl rfl rfl (U4 rfl rfl rfl rfl (U4 rfl rfl rfl rfl (U4 rfl rfl rfl rfl (U4 rfl rfl rfl rfl (U4 rfl rfl rfl rfl (Ag.refl _ _))))))))), ⟨rfl, rfl, rfl, rfl, rfl, rfl, rfl, rfl, rfl, rfl, rfl, rfl, rfl, rfl, rfl, rfl, rfl, rfl, rfl, rfl, rfl, rfl, rfl, rfl, rfl, rfl, rfl, trivial⟩, h_73⟩
    ·refine OpZ.one rfl (Wn.no rfl) ?_
     refine WL.buildSl (vs := [(0, (vi 17)), (1, (vi 19))]) (cs := [(vi 17), (vi 19)]) h_47 underlying52 sizeOf3 (zv typeInfo3 rfl) rfl rfl (by kernel_rfl) rfl (by simp [Value.oneCell']) rfl rfl (fun b_74 w_75 h_76 => ?_)
     refine WL.nil ?_
     refine ⟨(N1_2_3_4_5 h_76.ok), ?_⟩
     refine ZT.s ?_
     refine OpZ.one rfl (Wn.no rfl) ?_
     refine WL.buildSl (vs := [(0, (vi 7)), (1, (vi 18))]) (cs := [(vi 7), (vi 18)]) h_76 underlying52 sizeOf3 (zv typeInfo3 rfl) rfl rfl (by kernel_rfl) rfl (by simp [Value.oneCell']) rfl rfl (fun b_77 w_78 h_79 => ?_)
     refine WL.nil ?_
     refine ⟨(N2_3_4_5_6 h_79.ok), ?_⟩
     refine ZT.s ?_
     refine OpZ.one rfl (Wn.no rfl) ?_
     refine WL.call Try.call72 rfl rfl (c_rors_7_18 ((WZ bs j).getD (j - 15) 0) (some ⟨b_77, 0, none⟩) 2 _ (viewB (h_79.ok _ M0) Sg.h)) rfl ?_
     rintro _ w_81 ⟨rfl, hc_80⟩
     have h_82 := h_79.same hc_80
     refine WL.nil ?_
     refine ⟨(N2_3_4_5_6 h_82.ok), ?_⟩
     refine ZT.q rfl (Wn.no rfl) rfl rfl (fun wq hS => R.bin rfl rfl (b32_xor (rot ((WZ bs j).getD (j - 15) 0) 7 ^^^ rot ((WZ bs j).getD (j - 15) 0) 18) (shr32 ((WZ bs j).getD (j - 15) 0) 3))) ?_
     refine ZT.q rfl (Wn.no rfl) rfl rfl (fun wq hS => R.bin rfl rfl (b32_add ((WZ bs j).getD (j - 16) 0) ((rot ((WZ bs j).getD (j - 15) 0) 7 ^^^ rot ((WZ bs j).getD (j - 15) 0) 18) ^^^ (shr32 ((WZ bs j).getD (j - 15) 0) 3)))) ?_
     refine ZT.q rfl (Wn.no rfl) rfl rfl (fun wq hS => R.bin rfl rfl (b32_add (((WZ bs j).getD (j - 16) 0) + ((rot ((WZ bs j).getD (j - 15) 0) 7 ^^^ rot ((WZ bs j).getD (j - 15) 0) 18) ^^^ (shr32 ((WZ bs j).getD (j - 15) 0) 3))) ((WZ bs j).getD (j - 7) 0))) ?_
     refine ZT.s ?_
     refine OpZ.one rfl (Wn.no rfl) ?_
     refine WL.call Try.call72 rfl rfl (c_rors_17_19 ((WZ bs j).getD (j - 2) 0) (some ⟨b_74, 0, none⟩) 2 _ (viewB (h_82.ok _ M1) Sg.h)) rfl ?_
     rintro _ w_84 ⟨rfl, hc_83⟩
     have h_85 := h_82.same hc_83
     refine WL.nil ?_
     refine ⟨(N2_3_4_5_6 h_85.ok), ?_⟩
     refine ZT.q rfl (Wn.no rfl) rfl rfl (fun wq hS => R.bin rfl rfl (b32_xor (rot ((WZ bs j).getD (j - 2) 0) 17 ^^^ rot ((WZ bs j).getD (j - 2) 0) 19) (shr32 ((WZ bs j).getD (j - 2) 0) 10))) ?_
     refine ZT.q rfl (Wn.no rfl) rfl rfl (fun wq hS => R.bin rfl rfl (b32_add ((((WZ bs j).getD (j - 16) 0) + ((rot ((WZ bs j).getD (j - 15) 0) 7 ^^^ rot ((WZ bs j).getD (j - 15) 0) 18) ^^^ (shr32 ((WZ bs j).getD (j - 15) 0) 3))) + ((WZ bs j).getD (j - 7) 0)) ((rot ((WZ bs j).getD (j - 2) 0) 17 ^^^ rot ((WZ bs j).getD (j - 2) 0) 19) ^^^ (shr32 ((WZ bs j).getD (j - 2) 0) 10)))) ?_
     refine ZT.q rfl (Wn.no rfl) rfl rfl (fun wq hS => R.indexA (b := b_10) (off := 0) (off' := (0 + j)) (i := j) rfl rfl rfl (by omega) underlying125 sizeOf124 (by rw [Nat.mul_one])) ?_
     refine ZT.s ?_
     refine OpZ.last rfl (Wn.no rfl) ?_
     refine WL.storeE (b := b_10) (off := (0 + j)) (i := j) (v := (vu32 (((((WZ bs j).getD (j - 16) 0) + ((rot ((WZ bs j).getD (j - 15) 0) 7 ^^^ rot ((WZ bs j).getD (j - 15) 0) 18) ^^^ (shr32 ((WZ bs j).getD (j - 15) 0) 3))) + ((WZ bs j).getD (j - 7) 0)) + ((rot ((WZ bs j).getD (j - 2) 0) 17 ^^^ rot ((WZ bs j).getD (j - 2) 0) 19) ^^^ (shr32 ((WZ bs j).getD (j - 2) 0) 10))))) (cs' := ((WZ bs j).set j (((((WZ bs j).getD (j - 16) 0) + ((rot ((WZ bs j).getD (j - 15) 0) 7 ^^^ rot ((WZ bs j).getD (j - 15) 0) 18) ^^^ (shr32 ((WZ bs j).getD (j - 15) 0) 3))) + ((WZ bs j).getD (j - 7) 0)) + ((rot ((WZ bs j).getD (j - 2) 0) 17 ^^^ rot ((WZ bs j).getD (j - 2) 0) 19) ^^^ (shr32 ((WZ bs j).getD (j - 2) 0) 10)))).map vu32) h_85 rfl rfl sizeOf124 rfl Y2 (by decide) Sg.h rfl (lt_len (K := 64) (len_map (WZ_len ..)) (by omega)) (set_u32 _ _ _) (fun w_86 h_87 => ?_)
     refine WL.nil (ZT.nil (thn_n ?_))
     have h_94 := ((((((h_87.up J6).up J6).up J6).up J6).up J6).up J5).up J6
     exact ⟨(b_77, b_74), (Ag.upd rfl (U2 rfl rfl (U4 rfl rfl rfl rfl (U4 rfl rfl rfl rfl (U4 rfl rfl rfl rfl (U4 rfl rfl rfl rfl (U4 rfl rfl rfl rfl (U4 rfl rfl rfl rfl (Ag.refl _ _))))))))), ⟨rfl, rfl, rfl, rfl, rfl, rfl, rfl, rfl, rfl, rfl, rfl, rfl, rfl, rfl, rfl, rfl, rfl, rfl, rfl, rfl, rfl, rfl, rfl, rfl, rfl, rfl, rfl, trivial⟩, h_94⟩
   ·rintro ⟨b_98, b_99⟩ J_95 w_96 h_97
    refine inb_n (thn_n (WP.reg ?_))
    refine qM (vn j) rfl rfl (qV rfl (R.bin rfl rfl (bi_add (c := ((j + 1 : Nat) : Int)) (by omega) (by omega))) (qA (vn (j + 1)) rfl rfl ?_))
    refine WL.nil (thn_n ?_)
    have h_106 := ((((((h_97.drop rfl).drop rfl).up J4).up J4).up J4).up J4).up J4
    have es : (WZ bs j).set j (((((WZ bs j).getD (j - 16) 0) + ((rot ((WZ bs j).getD (j - 15) 0) 7 ^^^ rot ((WZ bs j).getD (j - 15) 0) 18) ^^^ (shr32 ((WZ bs j).getD (j - 15) 0) 3))) + ((WZ bs j).getD (j - 7) 0)) + ((rot ((WZ bs j).getD (j - 2) 0) 17 ^^^ rot ((WZ bs j).getD (j - 2) 0) 19) ^^^ (shr32 ((WZ bs j).getD (j - 2) 0) 10))) = WZ bs (j + 1) := WZ_hi (by omega) (by omega) rfl
    rw [es] at h_106
    exact ⟨j + 1, _, (by omega), (Ag.upd rfl (U2 rfl rfl (Ag.updL rfl (Ag.trans (Ag.sub rfl (Ag.mix _ _ _)) (Ag.upd rfl (Ag.upd rfl (Ag.upd rfl (Ag.upd rfl (Ag.upd rfl (Ag.upd rfl (Ag.upd rfl (Ag.upd rfl (Ag.upd rfl (Ag.upd rfl (Ag.upd rfl (Ag.upd rfl (Ag.updL rfl (Ag.mix _ _ _)))))))))))))))))), ⟨rfl, trivial⟩, h_106, (by omega), (by omega), rfl⟩
  ·have p_107 := of_decide_eq_false c_41
   refine WP.exit (thn_x (thn_x (inb_hit (thn_n (WP.seq ?_)))))
   refine WP.drawT (SL w.heap.size [.blk b_10 .nw 125 [(64, (WZ bs j).map vu32)], .blk b_7 .nw 126 [(8, (zV 8).map vu32)], .blk b_4 .nw 125 [(64, ks.map vu32)], .blk b_1 .nw 126 [(8, hh.map vu32)], .view a (bs.map vu8)]) (.q 0 (.q 1 (.q 2 (.q 3 (.q 4 (.q 5 (.q 6 (.q 7 (.q 8 (.q 9 (.q 10 (.q 11 (.q 12 (.q 13 (.q 14 (.q 15 (.q 16 (.q 17 (.q 18 (.q 19 (.q 20 (.q 21 (.q 22 (.q 23 .nil)))))))))))))))))))))))) (by kernel_rfl) (by kernel_rfl) rfl (by kernel_rfl) (fun w_108 hc_110 => (SL.cons ((h_38.same hc_110).ok _ M0) (SL.cons ((h_38.same hc_110).ok _ M1) (SL.cons ((h_38.same hc_110).ok _ M2) (SL.cons ((h_38.same hc_110).ok _ M3) (SL.cons ((h_38.same hc_110).ok _ M4) (SL.nil _ _))))))) (fun w_108 hc_110 => ?_)
   have h_109 := h_38.same hc_110
   refine qT rfl rfl (fun wq hS => R.indexA (b := b_1) (off := 0) (off' := 0) (i := 0) rfl rfl rfl (by decide) underlying126 sizeOf124 rfl) ?_
   refine qT rfl rfl (fun wq hS => R.loadE (b := b_1) (off := 0) (i := 0) (v := (vu32 (hh.getD 0 0))) rfl isAgg124 (hS _ M3) Sg.h rfl (get_u32 (lt_len (K := 8) hhl (by decide)))) ?_
   refine qT rfl rfl (fun wq hS => R.indexA (b := b_1) (off := 0) (off' := 1) (i := 1) rfl rfl rfl (by decide) underlying126 sizeOf124 rfl) ?_
   refine qT rfl rfl (fun wq hS => R.loadE (b := b_1) (off := 1) (i := 1) (v := (vu32 (hh.getD 1 0))) rfl isAgg124 (hS _ M3) Sg.h rfl (get_u32 (lt_len (K := 8) hhl (by decide)))) ?_
   refine qT rfl rfl (fun wq hS => R.indexA (b := b_1) (off := 0) (off' := 2) (i := 2) rfl rfl rfl (by decide) underlying126 sizeOf124 rfl) ?_
   refine qT rfl rfl (fun wq hS => R.loadE (b := b_1) (off := 2) (i := 2) (v := (vu32 (hh.getD 2 0))) rfl isAgg124 (hS _ M3) Sg.h rfl (get_u32 (lt_len (K := 8) hhl (by decide)))) ?_
   refine qT rfl rfl (fun wq hS => R.indexA (b := b_1) (off := 0) (off' := 3) (i := 3) rfl rfl rfl (by decide) underlying126 sizeOf124 rfl) ?_
   refine qT rfl rfl (fun wq hS => R.loadE (b := b_1) (off := 3) (i := 3) (v := (vu32 (hh.getD 3 0))) rfl isAgg124 (hS _ M3) Sg.h rfl (get_u32 (lt_len (K := 8) hhl (by decide)))) ?_
   refine qT rfl rfl (fun wq hS => R.indexA (b := b_1) (off := 0) (off' := 4) (i := 4) rfl rfl rfl (by decide) underlying126 sizeOf124 rfl) ?_
   refine qT rfl rfl (fun wq hS => R.loadE (b := b_1) (off := 4) (i := 4) (v := (vu32 (hh.getD 4 0))) rfl isAgg124 (hS _ M3) Sg.h rfl (get_u32 (lt_len (K := 8) hhl (by decide)))) ?_
   refine qT rfl rfl (fun wq hS => R.indexA (b := b_1) (off := 0) (off' := 5) (i := 5) rfl rfl rfl (by decide) underlying126 sizeOf124 rfl) ?_
   refine qT rfl rfl (fun wq hS => R.loadE (b := b_1) (off := 5) (i := 5) (v := (vu32 (hh.getD 5 0))) rfl isAgg124 (hS _ M3) Sg.h rfl (get_u32 (lt_len (K := 8) hhl (by decide)))) ?_
   refine qT rfl rfl (fun wq hS => R.indexA (b := b_1) (off := 0) (off' := 6) (i := 6) rfl rfl rfl (by decide) underlying126 sizeOf124 rfl) ?_
   refine qT rfl rfl (fun wq hS => R.loadE (b := b_1) (off := 6) (i := 6) (v := (vu32 (hh.getD 6 0))) rfl isAgg124 (hS _ M3) Sg.h rfl (get_u32 (lt_len (K := 8) hhl (by decide)))) ?_
   refine qT rfl rfl (fun wq hS => R.indexA (b := b_1) (off := 0) (off' := 7) (i := 7) rfl rfl rfl (by decide) underlying126 sizeOf124 rfl) ?_
   refine qT rfl rfl (fun wq hS => R.loadE (b := b_1) (off := 7) (i := 7) (v := (vu32 (hh.getD 7 0))) rfl isAgg124 (hS _ M3) Sg.h rfl (get_u32 (lt_len (K := 8) hhl (by decide)))) ?_
   refine qT rfl rfl (fun wq hS => R.assign (v := (vu32 (hh.getD 0 0))) rfl) ?_
   refine qT rfl rfl (fun wq hS => R.assign (v := (vu32 (hh.getD 1 0))) rfl) ?_
   refine qT rfl rfl (fun wq hS => R.assign (v := (vu32 (hh.getD 2 0))) rfl) ?_
   refine qT rfl rfl (fun wq hS => R.assign (v := (vu32 (hh.getD 3 0))) rfl) ?_
   refine qT rfl rfl (fun wq hS => R.assign (v := (vu32 (hh.getD 4 0))) rfl) ?_
   refine qT rfl rfl (fun wq hS => R.assign (v := (vu32 (hh.getD 5 0))) rfl) ?_
   refine qT rfl rfl (fun wq hS => R.assign (v := (vu32 (hh.getD 6 0))) rfl) ?_
   refine qT rfl rfl (fun wq hS => R.assign (v := (vu32 (hh.getD 7 0))) rfl) ?_
   refine WT.nil (thn_n (WP.seq (WP.seq (WP.reg ?_))))
   refine qM (vi 0) rfl rfl ?_
   refine WL.nil (thn_n (WP.block ?_))
   have hj64 : j = 64 := by omega
   subst hj64
   rw [WZ_all] at h_109
   refine WP.loopG (G := Nat) [15, 16, 17, 18, 19, 20, 21, 22, 23, 24, 25, 103, 104, 105, 106, 107, 108, 109, 110, 111, 112, 113, 114, 115, 116, 117, 118, 119, 120, 121, 122, 123, 124, 125, 126, 127, 128, 129, 130, 131, 132, 133, 134, 135, 136, 137, 138, 139, 140, 141, 142, 143, 144, 145, 146, 147, 148, 149, 150, 151, 152, 153, 154, 155, 156, 157] (fun r => [(15, (vu32 ((stN ks (W bs) hh r).getD 0 0))), (16, (vu32 ((stN ks (W bs) hh r).getD 1 0))), (17, (vu32 ((stN ks (W bs) hh r).getD 2 0))), (18, (vu32 ((stN ks (W bs) hh r).getD 3 0))), (19, (vu32 ((stN ks (W bs) hh r).getD 4 0))), (20, (vu32 ((stN ks (W bs) hh r).getD 5 0))), (21, (vu32 ((stN ks (W bs) hh r).getD 6 0))), (22, (vu32 ((stN ks (W bs) hh r).getD 7 0))), (103, (vn r))]) (fun r m w1 => HP w w1 [.blk b_10 .nw 125 [(64, (W bs).map vu32)], .blk b_7 .nw 126 [(8, (zV 8).map vu32)], .blk b_4 .nw 125 [(64, ks.map vu32)], .blk b_1 .nw 126 [(8, hh.map vu32)], .view a (bs.map vu8)] ∧ (r ≤ 64) ∧ m = 64 - r) ⟨0, _, ⟨rfl, rfl, rfl, rfl, rfl, rfl, rfl, rfl, rfl, trivial⟩, h_109, (by omega), rfl⟩ ?_
   rintro r m_113 J_114 w_111 ⟨h_112, hr, rfl⟩
   refine WP.seq (WP.reg ?_)
   refine qV rfl (R.bin rfl rfl (bi_lss (r := decide ((((r : Nat) : Int) : Int) < 64)) rfl)) ?_
   refine WL.nil (thn_n (WP.seq ?_))
   refine WP.cond (b := decide ((((r : Nat) : Int) : Int) < 64)) rfl (fun c_115 => ?_) (fun c_115 => ?_)
   ·have p_116 := of_decide_eq_true c_115
    refine WP.skip (thn_n (WP.seq (WP.block (WP.seq (WP.reg ?_)))))
    refine qM (vn r) rfl rfl (qA (vn r) rfl rfl ?_)
    refine WL.nil (thn_n (WP.seq ?_))
    refine WP.drawT (SL w.heap.size [.blk b_10 .nw 125 [(64, (W bs).map vu32)], .blk b_7 .nw 126 [(8, (zV 8).map vu32)], .blk b_4 .nw 125 [(64, ks.map vu32)], .blk b_1 .nw 126 [(8, hh.map vu32)], .view a (bs.map vu8)]) (.q 0 (.q 1 (.q 2 (.q 6 (.q 7 (.q 8 (.q 9 (.q 10 (.q 11 (.q 12 (.q 13 (.q 15 (.q 16 (.q 17 (.q 19 (.q 20 (.q 21 (.s 3 (.s 4 (.q 5 (.q 14 (.q 18 (.q 22 (.q 23 .nil)))))))))))))))))))))))) (by kernel_rfl) (by kernel_rfl) rfl (by kernel_rfl) (fun w_117 hc_119 => (SL.cons ((h_112.same hc_119).ok _ M0) (SL.cons ((h_112.same hc_119).ok _ M1) (SL.cons ((h_112.same hc_119).ok _ M2) (SL.cons ((h_112.same hc_119).ok _ M3) (SL.cons ((h_112.same hc_119).ok _ M4) (SL.nil _ _))))))) (fun w_117 hc_119 => ?_)
    have h_118 := h_112.same hc_119
    refine qT rfl rfl (fun wq hS => R.move (v := (vu32 ((stN ks (W bs) hh r).getD 7 0))) rfl) ?_
    refine qT rfl rfl (fun wq hS => R.move (v := (Value.func (Fn.func 72) [].toArray [].toArray)) rfl) ?_
    refine qT rfl rfl (fun wq hS => R.move (v := (vu32 ((stN ks (W bs) hh r).getD 4 0))) rfl) ?_
    refine qT rfl rfl (fun wq hS => R.move (v := (vu32 ((stN ks (W bs) hh r).getD 4 0))) rfl) ?_
    refine qT rfl rfl (fun wq hS => R.move (v := (vu32 ((stN ks (W bs) hh r).getD 5 0))) rfl) ?_
    refine qT rfl rfl (fun wq hS => R.bin rfl rfl (b32_and ((stN ks (W bs) hh r).getD 4 0) ((stN ks (W bs) hh r).getD 5 0))) ?_
    refine qT rfl rfl (fun wq hS => R.move (v := (vu32 ((stN ks (W bs) hh r).getD 4 0))) rfl) ?_
    refine qT rfl rfl (fun wq hS => R.un rfl (run_not32 ((stN ks (W bs) hh r).getD 4 0))) ?_
    refine qT rfl rfl (fun wq hS => R.move (v := (vu32 ((stN ks (W bs) hh r).getD 6 0))) rfl) ?_
    refine qT rfl rfl (fun wq hS => R.bin rfl rfl (b32_and (~~~((stN ks (W bs) hh r).getD 4 0)) ((stN ks (W bs) hh r).getD 6 0))) ?_
    refine qT rfl rfl (fun wq hS => R.bin rfl rfl (b32_xor (((stN ks (W bs) hh r).getD 4 0) &&& ((stN ks (W bs) hh r).getD 5 0)) ((~~~((stN ks (W bs) hh r).getD 4 0)) &&& ((stN ks (W bs) hh r).getD 6 0)))) ?_
    refine qT rfl rfl (fun wq hS => R.move (v := (vn r)) rfl) ?_
    refine qT rfl rfl (fun wq hS => R.indexA (b := b_4) (off := 0) (off' := (0 + r)) (i := r) rfl rfl rfl (by omega) underlying125 sizeOf124 (by rw [Nat.mul_one])) ?_
    refine qT rfl rfl (fun wq hS => R.loadE (b := b_4) (off := (0 + r)) (i := r) (v := (vu32 (ks.getD r 0))) rfl isAgg124 (hS _ M2) Sg.h rfl (get_u32 (lt_len (K := 64) hkl (by omega)))) ?_
    refine qT rfl rfl (fun wq hS => R.move (v := (vn r)) rfl) ?_
    refine qT rfl rfl (fun wq hS => R.indexA (b := b_10) (off := 0) (off' := (0 + r)) (i := r) rfl rfl rfl (by omega) underlying125 sizeOf124 (by rw [Nat.mul_one])) ?_
    refine qT rfl rfl (fun wq hS => R.loadE (b := b_10) (off := (0 + r)) (i := r) (v := (vu32 ((W bs).getD r 0))) rfl isAgg124 (hS _ M0) Sg.h rfl (get_u32 (lt_len (K := 64) (W_len bs) (by omega)))) ?_
    refine WT.s (oN rfl ?_)
    refine WL.buildSl (vs := [(0, (vi 6)), (1, (vi 11)), (2, (vi 25))]) (cs := [(vi 6), (vi 11), (vi 25)]) h_118 underlying52 sizeOf3 (zv typeInfo3 rfl) rfl rfl (by kernel_rfl) rfl (by simp [Value.oneCell']) rfl rfl (fun b_120 w_121 h_122 => ?_)
    refine WL.nil ?_
    refine ⟨(N1_2_3_4_5 h_122.ok), ?_⟩
    refine WT.s (oN rfl ?_)
    refine WL.call Try.call72 rfl rfl (c_rors_6_11_25 ((stN ks (W bs) hh r).getD 4 0) (some ⟨b_120, 0, none⟩) 3 _ (viewB (h_122.ok _ M0) Sg.h)) rfl ?_
    rintro _ w_124 ⟨rfl, hc_123⟩
    have h_125 := h_122.same hc_123
    refine WL.nil ?_
    refine ⟨(N1_2_3_4_5 h_125.ok), ?_⟩
    refine qT rfl rfl (fun wq hS => R.bin rfl rfl (b32_add ((stN ks (W bs) hh r).getD 7 0) ((rot ((stN ks (W bs) hh r).getD 4 0) 6 ^^^ rot ((stN ks (W bs) hh r).getD 4 0) 11) ^^^ rot ((stN ks (W bs) hh r).getD 4 0) 25))) ?_
    refine qT rfl rfl (fun wq hS => R.bin rfl rfl (b32_add (((stN ks (W bs) hh r).getD 7 0) + ((rot ((stN ks (W bs) hh r).getD 4 0) 6 ^^^ rot ((stN ks (W bs) hh r).getD 4 0) 11) ^^^ rot ((stN ks (W bs) hh r).getD 4 0) 25)) ((((stN ks (W bs) hh r).getD 4 0) &&& ((stN ks (W bs) hh r).getD 5 0)) ^^^ ((~~~((stN ks (W bs) hh r).getD 4 0)) &&& ((stN ks (W bs) hh r).getD 6 0))))) ?_
    refine qT rfl rfl (fun wq hS => R.bin rfl rfl (b32_add ((((stN ks (W bs) hh r).getD 7 0) + ((rot ((stN ks (W bs) hh r).getD 4 0) 6 ^^^ rot ((stN ks (W bs) hh r).getD 4 0) 11) ^^^ rot ((stN ks (W bs) hh r).getD 4 0) 25)) + ((((stN ks (W bs) hh r).getD 4 0) &&& ((stN ks (W bs) hh r).getD 5 0)) ^^^ ((~~~((stN ks (W bs) hh r).getD 4 0)) &&& ((stN ks (W bs) hh r).getD 6 0)))) (ks.getD r 0))) ?_
    refine qT rfl rfl (fun wq hS => R.bin rfl rfl (b32_add (((((stN ks (W bs) hh r).getD 7 0) + ((rot ((stN ks (W bs) hh r).getD 4 0) 6 ^^^ rot ((stN ks (W bs) hh r).getD 4 0) 11) ^^^ rot ((stN ks (W bs) hh r).getD 4 0) 25)) + ((((stN ks (W bs) hh r).getD 4 0) &&& ((stN ks (W bs) hh r).getD 5 0)) ^^^ ((~~~((stN ks (W bs) hh r).getD 4 0)) &&& ((stN ks (W bs) hh r).getD 6 0)))) + (ks.getD r 0)) ((W bs).getD r 0))) ?_
    refine qT rfl rfl (fun wq hS => R.assign (v := (vu32 ((((((stN ks (W bs) hh r).getD 7 0) + ((rot ((stN ks (W bs) hh r).getD 4 0) 6 ^^^ rot ((stN ks (W bs) hh r).getD 4 0) 11) ^^^ rot ((stN ks (W bs) hh r).getD 4 0) 25)) + ((((stN ks (W bs) hh r).getD 4 0) &&& ((stN ks (W bs) hh r).getD 5 0)) ^^^ ((~~~((stN ks (W bs) hh r).getD 4 0)) &&& ((stN ks (W bs) hh r).getD 6 0)))) + (ks.getD r 0)) + ((W bs).getD r 0)))) rfl) ?_
    refine WT.nil (thn_n (WP.seq (WP.reg ?_)))
    refine qM (Value.func (Fn.func 72) [].toArray [].toArray) rfl rfl (qM (vu32 ((stN ks (W bs) hh r).getD 0 0)) rfl rfl ?_)
    refine WL.buildSl (vs := [(0, (vi 2)), (1, (vi 13)), (2, (vi 22))]) (cs := [(vi 2), (vi 13), (vi 22)]) h_125 underlying52 sizeOf3 (zv typeInfo3 rfl) rfl rfl (by kernel_rfl) rfl (by simp [Value.oneCell']) rfl rfl (fun b_126 w_127 h_128 => ?_)
    refine WL.call Try.call72 rfl rfl (c_rors_2_13_22 ((stN ks (W bs) hh r).getD 0 0) (some ⟨b_126, 0, none⟩) 3 _ (viewB (h_128.ok _ M0) Sg.h)) rfl ?_
    rintro _ w_130 ⟨rfl, hc_129⟩
    have h_131 := h_128.same hc_129
    refine qM (vu32 ((stN ks (W bs) hh r).getD 0 0)) rfl rfl (qM (vu32 ((stN ks (W bs) hh r).getD 1 0)) rfl rfl (qV rfl (R.bin rfl rfl (b32_and ((stN ks (W bs) hh r).getD 0 0) ((stN ks (W bs) hh r).getD 1 0))) (qM (vu32 ((stN ks (W bs) hh r).getD 0 0)) rfl rfl (qM (vu32 ((stN ks (W bs) hh r).getD 2 0)) rfl rfl (qV rfl (R.bin rfl rfl (b32_and ((stN ks (W bs) hh r).getD 0 0) ((stN ks (W bs) hh r).getD 2 0))) (qV rfl (R.bin rfl rfl (b32_xor (((stN ks (W bs) hh r).getD 0 0) &&& ((stN ks (W bs) hh r).getD 1 0)) (((stN ks (W bs) hh r).getD 0 0) &&& ((stN ks (W bs) hh r).getD 2 0)))) (qM (vu32 ((stN ks (W bs) hh r).getD 1 0)) rfl rfl (qM (vu32 ((stN ks (W bs) hh r).getD 2 0)) rfl rfl (qV rfl (R.bin rfl rfl (b32_and ((stN ks (W bs) hh r).getD 1 0) ((stN ks (W bs) hh r).getD 2 0))) (qV rfl (R.bin rfl rfl (b32_xor ((((stN ks (W bs) hh r).getD 0 0) &&& ((stN ks (W bs) hh r).getD 1 0)) ^^^ (((stN ks (W bs) hh r).getD 0 0) &&& ((stN ks (W bs) hh r).getD 2 0))) (((stN ks (W bs) hh r).getD 1 0) &&& ((stN ks (W bs) hh r).getD 2 0)))) (qV rfl (R.bin rfl rfl (b32_add ((rot ((stN ks (W bs) hh r).getD 0 0) 2 ^^^ rot ((stN ks (W bs) hh r).getD 0 0) 13) ^^^ rot ((stN ks (W bs) hh r).getD 0 0) 22) (((((stN ks (W bs) hh r).getD 0 0) &&& ((stN ks (W bs) hh r).getD 1 0)) ^^^ (((stN ks (W bs) hh r).getD 0 0) &&& ((stN ks (W bs) hh r).getD 2 0))) ^^^ (((stN ks (W bs) hh r).getD 1 0) &&& ((stN ks (W bs) hh r).getD 2 0))))) ?_)))))))))))
    refine qA (vu32 (((rot ((stN ks (W bs) hh r).getD 0 0) 2 ^^^ rot ((stN ks (W bs) hh r).getD 0 0) 13) ^^^ rot ((stN ks (W bs) hh r).getD 0 0) 22) + (((((stN ks (W bs) hh r).getD 0 0) &&& ((stN ks (W bs) hh r).getD 1 0)) ^^^ (((stN ks (W bs) hh r).getD 0 0) &&& ((stN ks (W bs) hh r).getD 2 0))) ^^^ (((stN ks (W bs) hh r).getD 1 0) &&& ((stN ks (W bs) hh r).getD 2 0))))) rfl rfl ?_
    refine WL.nil (thn_n (WP.reg ?_))
    refine qM (vu32 ((((((stN ks (W bs) hh r).getD 7 0) + ((rot ((stN ks (W bs) hh r).getD 4 0) 6 ^^^ rot ((stN ks (W bs) hh r).getD 4 0) 11) ^^^ rot ((stN ks (W bs) hh r).getD 4 0) 25)) + ((((stN ks (W bs) hh r).getD 4 0) &&& ((stN ks (W bs) hh r).getD 5 0)) ^^^ ((~~~((stN ks (W bs) hh r).getD 4 0)) &&& ((stN ks (W bs) hh r).getD 6 0)))) + (ks.getD r 0)) + ((W bs).getD r 0))) rfl rfl (qM (vu32 (((rot ((stN ks (W bs) hh r).getD 0 0) 2 ^^^ rot ((stN ks (W bs) hh r).getD 0 0) 13) ^^^ rot ((stN ks (W bs) hh r).getD 0 0) 22) + (((((stN ks (W bs) hh r).getD 0 0) &&& ((stN ks (W bs) hh r).getD 1 0)) ^^^ (((stN ks (W bs) hh r).getD 0 0) &&& ((stN ks (W bs) hh r).getD 2 0))) ^^^ (((stN ks (W bs) hh r).getD 1 0) &&& ((stN ks (W bs) hh r).getD 2 0))))) rfl rfl (qV rfl (R.bin rfl rfl (b32_add ((((((stN ks (W bs) hh r).getD 7 0) + ((rot ((stN ks (W bs) hh r).getD 4 0) 6 ^^^ rot ((stN ks (W bs) hh r).getD 4 0) 11) ^^^ rot ((stN ks (W bs) hh r).getD 4 0) 25)) + ((((stN ks (W bs) hh r).getD 4 0) &&& ((stN ks (W bs) hh r).getD 5 0)) ^^^ ((~~~((stN ks (W bs) hh r).getD 4 0)) &&& ((stN ks (W bs) hh r).getD 6 0)))) + (ks.getD r 0)) + ((W bs).getD r 0)) (((rot ((stN ks (W bs) hh r).getD 0 0) 2 ^^^ rot ((stN ks (W bs) hh r).getD 0 0) 13) ^^^ rot ((stN ks (W bs) hh r).getD 0 0) 22) + (((((stN ks (W bs) hh r).getD 0 0) &&& ((stN ks (W bs) hh r).getD 1 0)) ^^^ (((stN ks (W bs) hh r).getD 0 0) &&& ((stN ks (W bs) hh r).getD 2 0))) ^^^ (((stN ks (W bs) hh r).getD 1 0) &&& ((stN ks (W bs) hh r).getD 2 0)))))) (qM (vu32 ((stN ks (W bs) hh r).getD 0 0)) rfl rfl (qM (vu32 ((stN ks (W bs) hh r).getD 1 0)) rfl rfl (qM (vu32 ((stN ks (W bs) hh r).getD 2 0)) rfl rfl (qM (vu32 ((stN ks (W bs) hh r).getD 3 0)) rfl rfl (qM (vu32 ((((((stN ks (W bs) hh r).getD 7 0) + ((rot ((stN ks (W bs) hh r).getD 4 0) 6 ^^^ rot ((stN ks (W bs) hh r).getD 4 0) 11) ^^^ rot ((stN ks (W bs) hh r).getD 4 0) 25)) + ((((stN ks (W bs) hh r).getD 4 0) &&& ((stN ks (W bs) hh r).getD 5 0)) ^^^ ((~~~((stN ks (W bs) hh r).getD 4 0)) &&& ((stN ks (W bs) hh r).getD 6 0)))) + (ks.getD r 0)) + ((W bs).getD r 0))) rfl rfl (qV rfl (R.bin rfl rfl (b32_add ((stN ks (W bs) hh r).getD 3 0) ((((((stN ks (W bs) hh r).getD 7 0) + ((rot ((stN ks (W bs) hh r).getD 4 0) 6 ^^^ rot ((stN ks (W bs) hh r).getD 4 0) 11) ^^^ rot ((stN ks (W bs) hh r).getD 4 0) 25)) + ((((stN ks (W bs) hh r).getD 4 0) &&& ((stN ks (W bs) hh r).getD 5 0)) ^^^ ((~~~((stN ks (W bs) hh r).getD 4 0)) &&& ((stN ks (W bs) hh r).getD 6 0)))) + (ks.getD r 0)) + ((W bs).getD r 0)))) (qM (vu32 ((stN ks (W bs) hh r).getD 4 0)) rfl rfl (qM (vu32 ((stN ks (W bs) hh r).getD 5 0)) rfl rfl (qM (vu32 ((stN ks (W bs) hh r).getD 6 0)) rfl rfl ?_)))))))))))
    refine qA (vu32 (((((((stN ks (W bs) hh r).getD 7 0) + ((rot ((stN ks (W bs) hh r).getD 4 0) 6 ^^^ rot ((stN ks (W bs) hh r).getD 4 0) 11) ^^^ rot ((stN ks (W bs) hh r).getD 4 0) 25)) + ((((stN ks (W bs) hh r).getD 4 0) &&& ((stN ks (W bs) hh r).getD 5 0)) ^^^ ((~~~((stN ks (W bs) hh r).getD 4 0)) &&& ((stN ks (W bs) hh r).getD 6 0)))) + (ks.getD r 0)) + ((W bs).getD r 0)) + (((rot ((stN ks (W bs) hh r).getD 0 0) 2 ^^^ rot ((stN ks (W bs) hh r).getD 0 0) 13) ^^^ rot ((stN ks (W bs) hh r).getD 0 0) 22) + (((((stN ks (W bs) hh r).getD 0 0) &&& ((stN ks (W bs) hh r).getD 1 0)) ^^^ (((stN ks (W bs) hh r).getD 0 0) &&& ((stN ks (W bs) hh r).getD 2 0))) ^^^ (((stN ks (W bs) hh r).getD 1 0) &&& ((stN ks (W bs) hh r).getD 2 0)))))) rfl rfl (qA (vu32 ((stN ks (W bs) hh r).getD 0 0)) rfl rfl (qA (vu32 ((stN ks (W bs) hh r).getD 1 0)) rfl rfl (qA (vu32 ((stN ks (W bs) hh r).getD 2 0)) rfl rfl (qA (vu32 (((stN ks (W bs) hh r).getD 3 0) + ((((((stN ks (W bs) hh r).getD 7 0) + ((rot ((stN ks (W bs) hh r).getD 4 0) 6 ^^^ rot ((stN ks (W bs) hh r).getD 4 0) 11) ^^^ rot ((stN ks (W bs) hh r).getD 4 0) 25)) + ((((stN ks (W bs) hh r).getD 4 0) &&& ((stN ks (W bs) hh r).getD 5 0)) ^^^ ((~~~((stN ks (W bs) hh r).getD 4 0)) &&& ((stN ks (W bs) hh r).getD 6 0)))) + (ks.getD r 0)) + ((W bs).getD r 0)))) rfl rfl (qA (vu32 ((stN ks (W bs) hh r).getD 4 0)) rfl rfl (qA (vu32 ((stN ks (W bs) hh r).getD 5 0)) rfl rfl (qA (vu32 ((stN ks (W bs) hh r).getD 6 0)) rfl rfl ?_)))))))
    refine WL.nil (inb_n (thn_n (WP.reg ?_)))
    refine qV rfl (R.bin rfl rfl (bi_add (c := ((r + 1 : Nat) : Int)) (by omega) (by omega))) (qM (vn (r + 1)) rfl rfl ?_)
    refine WL.nil (thn_n ?_)
    have h_138 := ((((((h_131.drop rfl).drop rfl).up J4).up J4).up J4).up J4).up J4
    exact ⟨r + 1, _, (by omega), (U2 rfl rfl (U4 rfl rfl rfl rfl (U4 rfl rfl rfl rfl (U4 rfl rfl rfl rfl (U4 rfl rfl rfl rfl (U4 rfl rfl rfl rfl (U4 rfl rfl rfl rfl (U4 rfl rfl rfl rfl (U4 rfl rfl rfl rfl (U4 rfl rfl rfl rfl (U4 rfl rfl rfl rfl (U4 rfl rfl rfl rfl (U4 rfl rfl rfl rfl (U4 rfl rfl rfl rfl (U4 rfl rfl rfl rfl (U4 rfl rfl rfl rfl (U4 rfl rfl rfl rfl (Ag.updL rfl (Ag.mix _ _ _))))))))))))))))))), ⟨congrArg (fun x : UInt32 => vu32 x) (st_0 ks (W bs) hh r).symm, congrArg (fun x : UInt32 => vu32 x) (st_1 ks (W bs) hh r).symm, congrArg (fun x : UInt32 => vu32 x) (st_2 ks (W bs) hh r).symm, congrArg (fun x : UInt32 => vu32 x) (st_3 ks (W bs) hh r).symm, congrArg (fun x : UInt32 => vu32 x) (st_4 ks (W bs) hh r).symm, congrArg (fun x : UInt32 => vu32 x) (st_5 ks (W bs) hh r).symm, congrArg (fun x : UInt32 => vu32 x) (st_6 ks (W bs) hh r).symm, congrArg (fun x : UInt32 => vu32 x) (st_7 ks (W bs) hh r).symm, rfl, trivial⟩, h_138, (by omega), rfl⟩
   ·have p_139 := of_decide_eq_false c_115
    refine WP.exit (thn_x (thn_x (inb_hit (thn_n (WP.seq (WP.seq (WP.reg ?_)))))))
    refine qM (vu32 ((stN ks (W bs) hh r).getD 0 0)) rfl rfl (qM (vu32 ((stN ks (W bs) hh r).getD 1 0)) rfl rfl (qM (vu32 ((stN ks (W bs) hh r).getD 2 0)) rfl rfl (qM (vu32 ((stN ks (W bs) hh r).getD 3 0)) rfl rfl (qM (vu32 ((stN ks (W bs) hh r).getD 4 0)) rfl rfl (qM (vu32 ((stN ks (W bs) hh r).getD 5 0)) rfl rfl (qM (vu32 ((stN ks (W bs) hh r).getD 6 0)) rfl rfl (qM (vu32 ((stN ks (W bs) hh r).getD 7 0)) rfl rfl (qV rfl (R.buildA (vs := [(0, (vu32 ((stN ks (W bs) hh r).getD 0 0))), (1, (vu32 ((stN ks (W bs) hh r).getD 1 0))), (2, (vu32 ((stN ks (W bs) hh r).getD 2 0))), (3, (vu32 ((stN ks (W bs) hh r).getD 3 0))), (4, (vu32 ((stN ks (W bs) hh r).getD 4 0))), (5, (vu32 ((stN ks (W bs) hh r).getD 5 0))), (6, (vu32 ((stN ks (W bs) hh r).getD 6 0))), (7, (vu32 ((stN ks (W bs) hh r).getD 7 0)))]) (cs := ([(stN ks (W bs) hh r).getD 0 0, (stN ks (W bs) hh r).getD 1 0, (stN ks (W bs) hh r).getD 2 0, (stN ks (W bs) hh r).getD 3 0, (stN ks (W bs) hh r).getD 4 0, (stN ks (W bs) hh r).getD 5 0, (stN ks (W bs) hh r).getD 6 0, (stN ks (W bs) hh r).getD 7 0] : List UInt32).map vu32) underlying126 sizeOf124 (zv typeInfo126 rfl) rfl (fill8 rfl _ _ _ _ _ _ _ _)) (qM (vi 0) rfl rfl ?_)))))))))
    refine WL.nil (thn_n (WP.block ?_))
    have hr64 : r = 64 := by omega
    subst hr64
    refine WP.loopG (G := Nat) [26, 27, 167, 168, 169, 170, 171, 172, 173, 174, 175, 176, 177] (fun q => [(167, (vn q))]) (fun q m w1 => HP w w1 [.blk b_10 .nw 125 [(64, (W bs).map vu32)], .blk b_7 .nw 126 [(8, (zV 8).map vu32)], .blk b_4 .nw 125 [(64, ks.map vu32)], .blk b_1 .nw 126 [(8, (mix (pressL ks hh bs) hh q).map vu32)], .view a (bs.map vu8)] ∧ (q ≤ 8) ∧ m = 8 - q) ⟨0, _, ⟨rfl, trivial⟩, (by rw [mix_0]; exact h_112), (by omega), rfl⟩ ?_
    rintro q m_142 J_143 w_140 ⟨h_141, hq, rfl⟩
    refine WP.seq (WP.reg ?_)
    refine qV rfl (R.bin rfl rfl (bi_lss (r := decide ((((q : Nat) : Int) : Int) < 8)) rfl)) ?_
    refine WL.nil (thn_n (WP.seq ?_))
    refine WP.cond (b := decide ((((q : Nat) : Int) : Int) < 8)) rfl (fun c_144 => ?_) (fun c_144 => ?_)
    ·have p_145 := of_decide_eq_true c_144
     refine WP.skip (thn_n (WP.seq (WP.block (WP.seq (WP.reg ?_)))))
     refine qM (vn q) rfl rfl (qV rfl (R.indexV (i := q) (cs := (stN ks (W bs) hh 64).map vu32) (v := (vu32 ((stN ks (W bs) hh 64).getD q 0))) (congrArg (fun l : List UInt32 => Value.agg ⟨l.map vu32⟩) (eight32 (stN_len (K := ks) (V := W bs) hhl 64))) rfl rfl (by omega) underlying126 isAgg124 sizeOf124 (get_u32 (lt_len (K := 8) (stN_len hhl 64) (by omega)))) (qA (vn q) rfl rfl (qA (vu32 ((stN ks (W bs) hh 64).getD q 0)) rfl rfl ?_)))
     refine WL.nil (thn_n (WP.reg ?_))
     refine qM (vn q) rfl rfl (qV rfl (R.indexA (b := b_1) (off := 0) (off' := (0 + q)) (i := q) rfl rfl rfl (by omega) underlying126 sizeOf124 (by rw [Nat.mul_one])) (qV rfl (R.loadE (b := b_1) (off := (0 + q)) (i := q) (v := (vu32 ((mix (pressL ks hh bs) hh q).getD q 0))) rfl isAgg124 (h_141.ok _ M3) Sg.h rfl (get_u32 (lt_len (K := 8) (mix_len (pressL_len ..) hhl) (by omega)))) (qM (vu32 ((stN ks (W bs) hh 64).getD q 0)) rfl rfl (qV rfl (R.bin rfl rfl (b32_add ((mix (pressL ks hh bs) hh q).getD q 0) ((stN ks (W bs) hh 64).getD q 0))) (qV rfl (R.indexA (b := b_1) (off := 0) (off' := (0 + q)) (i := q) rfl rfl rfl (by omega) underlying126 sizeOf124 (by rw [Nat.mul_one])) ?_)))))
     refine WL.storeE (b := b_1) (off := (0 + q)) (i := q) (v := (vu32 (((mix (pressL ks hh bs) hh q).getD q 0) + ((stN ks (W bs) hh 64).getD q 0)))) (cs' := ((mix (pressL ks hh bs) hh q).set q (((mix (pressL ks hh bs) hh q).getD q 0) + ((stN ks (W bs) hh 64).getD q 0))).map vu32) h_141 rfl rfl sizeOf124 rfl Y3 (by decide) Sg.h rfl (lt_len (K := 8) (len_map (mix_len (pressL_len ..) hhl)) (by omega)) (set_u32 _ _ _) (fun w_146 h_147 => ?_)
     refine WL.nil (inb_n (thn_n (WP.reg ?_)))
     refine qV rfl (R.bin rfl rfl (bi_add (c := ((q + 1 : Nat) : Int)) (by omega) (by omega))) (qM (vn (q + 1)) rfl rfl ?_)
     refine WL.nil (thn_n ?_)
     have h_152 := ((((h_147.up J4).up J4).up J4).up J4).up J4
     rw [pr_step hhl (by omega)] at h_152
     exact ⟨q + 1, _, (by omega), (Ag.upd rfl (U4 rfl rfl rfl rfl (U4 rfl rfl rfl rfl (U4 rfl rfl rfl rfl (Ag.updL rfl (Ag.mix _ _ _)))))), ⟨rfl, trivial⟩, h_152, (by omega), rfl⟩
    ·have p_153 := of_decide_eq_false c_144
     refine WP.exit (thn_x (thn_x (inb_hit (thn_n (WP.seq (WP.reg ?_))))))
     refine qV rfl (R.loadA [] [(8, (mix (pressL ks hh bs) hh q).map vu32)] [] (cs := (mix (pressL ks hh bs) hh q).map vu32) rfl isAgg126 sizeOf126 (h_141.ok _ M3) rfl rfl rfl rfl) ?_
     refine WL.storeA [] [(8, (zV 8).map vu32)] [(8, (mix (pressL ks hh bs) hh q).map vu32)] [] h_141 rfl rfl sizeOf126 Y1 (by decide) rfl rfl rfl rfl rfl rfl (sC (SOk.u32 (mix_len (pressL_len ..) hhl)) sN) (fun w_154 h_155 => ?_)
     refine WL.nil (thn_n (WP.ret ?_))
     refine ret_of results65 (RV.cell rfl (h_155.loadA (cs := (mix (pressL ks hh bs) hh q).map vu32) isAgg126 sizeOf126 M1 rfl rfl) RV.nil) ?_
     have hq8 : q = 8 := by omega
     subst hq8
     exact ⟨by rw [pr_all hhl]; rfl, h_155.chgS⟩
end Go.Proofs.Ytbhllplbbkmndaa

namespace Go.Sh
open Go.Vc
def stH (m : List UInt8) : List UInt32 := hs kL hL m (m.length / 64)
def rsL (m : List UInt8) : List UInt8 := m.drop (64 * (m.length / 64))
theorem stH_len (m : List UInt8) : (stH m).length = 8 := hs_len hL_len _
theorem rsL_len (m : List UInt8) : (rsL m).length = m.length % 64 := by rw [rsL, List.length_drop]; omega
def HashAt (B : Nat) (w : World) (b : Nat) (T : TypeId) (m : List UInt8) : Prop :=
  ∃ (ra : Option Addr) (rn rc : Nat), CellsAt w b T (flat [(64, kL.map vu32), (8, (stH m).map vu32), (1, [.slice ra rn rc]), (1, [vi ((m.length : Nat) : Int)]), (1, [.bool true])]) ∧ View w ra ((rsL m).map vu8) ∧ (rsL m).length = rn ∧ rn ≤ rc ∧ (∀ x ∈ (Ent.view ra ((rsL m).map vu8)).blocks, B ≤ x ∧ x ≠ b)
theorem Sep_off {a : Option Addr} {xs : List Value} {b : Nat} {m : Md} {T : TypeId} {segs : List Sgm} (hm : m ≠ .ro) (h : Sep (.view a xs) (.blk b m T segs)) : ∀ x ∈ (Ent.view a xs).blocks, x ≠ b := by
  intro x hx e
  refine h (.inr ?_) x hx ?_
  · cases m <;> first | rfl | exact absurd rfl hm
  · rw [e]; exact List.mem_singleton.2 rfl
theorem Sep_offRow {a : Option Addr} {xs : List Value} {b k cap s : Nat} {m : Md} {E T : TypeId} {segs : List Sgm} (h : Sep (.row a k cap E s xs) (.blk b m T segs)) : ∀ x ∈ (Ent.view a xs).blocks, x ≠ b := by
  intro x hx e
  refine h (.inl rfl) x (row_view x hx) ?_
  rw [e]; exact List.mem_singleton.2 rfl
theorem off_Sep {a : Option Addr} {xs : List Value} {b : Nat} {m : Md} {T : TypeId} {segs : List Sgm} (h : ∀ x ∈ (Ent.view a xs).blocks, x ≠ b) : Sep (.blk b m T segs) (.view a xs) := by
  intro _ x hx hb
  rw [List.mem_singleton.1 hx] at hb
  exact h b hb rfl
section
variable {w w' w0 : World} {L : List Ent}
theorem HP_three {b : Nat} {T : TypeId} {segs : List Sgm} {a a2 : Option Addr} {xs ys : List Value} (hb : (Ent.blk b .ar T segs).ok w.heap.size w) (h1 : View w a xs) (h2 : View w a2 ys) (o1 : ∀ x ∈ (Ent.view a xs).blocks, x ≠ b) (o2 : ∀ x ∈ (Ent.view a2 ys).blocks, x ≠ b) : HP w w [.blk b .ar T segs, .view a xs, .view a2 ys] := by
  have e1 := ((HP.init w).oldV (View.arg h2) rfl (fun f hf => by cases hf)).oldV (View.arg h1) rfl (by simp [Ent.mut])
  refine e1.old hb fun f hf => ?_
  rcases List.mem_cons.1 hf with rfl | hf
  · exact off_Sep o1
  · rw [List.mem_singleton] at hf; subst hf; exact off_Sep o2
theorem HP_gotHash {b : Nat} {T : TypeId} {segs : List Sgm} {a : Option Addr} {xs : List Value} (h : HP w0 w L) (hc : Chg w w' []) (hb : w.heap.size ≤ b) (hok : SsOk segs) (hcells : CellsAt w' b T (flat segs)) (hv : View w' a xs) (hf : ∀ x ∈ (Ent.view a xs).blocks, w.heap.size ≤ x ∧ x ≠ b) :
    HP w0 w' (.blk b .nw T segs :: .view a xs :: L) := by
  have h1 := h.push hc (e := .view a xs) (View.arg hv) rfl (fun x hx => (hf x hx).1)
  refine h1.add ⟨hok, hcells, Nat.le_trans h.size hb⟩ rfl fun f hf2 => ?_
  rcases List.mem_cons.1 hf2 with rfl | hf2
  · exact off_Sep fun x hx => (hf x hx).2
  · intro _ x hx hxf
    rw [List.mem_singleton.1 hx] at hxf
    have := Ent.lt (h.ok f hf2) b hxf
    omega
theorem HP_passedHash {b : Nat} {m : Md} {T : TypeId} {segs segs' : List Sgm} {a : Option Addr} {xs : List Value} (h : HP w0 w (.blk b m T segs :: L)) (hm : m ≠ .ro) (hc : Chg w w' [b]) (hok : SsOk segs') (hcells : CellsAt w' b T (flat segs')) (hv : View w' a xs) (hf : ∀ x ∈ (Ent.view a xs).blocks, w.heap.size ≤ x ∧ x ≠ b) :
    HP w0 w' (.view a xs :: .blk b m T segs' :: L) := by
  have h1 := h.passed (segs' := segs') .h hm hc hok hcells
  refine h1.add (View.arg hv) rfl fun f hf2 => ?_
  rcases List.mem_cons.1 hf2 with rfl | hf2
  · intro _ x hx hxb
    exact (hf x hx).2 (List.mem_singleton.1 hxb)
  · intro _ x hx hxf
    have := Ent.lt (h.ok f (List.mem_cons_of_mem _ hf2)) x hxf
    have := (hf x hx).1
    omega
end
theorem wr_0 (m bs : List UInt8) : stH m = hs kL hL (m ++ bs) (m.length / 64) := (hs_app _ (by omega)).symm
theorem wr_r (m bs : List UInt8) : [rsL m, bs].flatten = (m ++ bs).drop (64 * (m.length / 64)) := by
  rw [rsL, List.drop_append_of_le_length (by omega)]; simp
theorem wr_step {M : List UInt8} {k n : Nat} (hn : n = 64) : pressL kL (hs kL hL M k) (((M.drop (64 * k)).drop 0).take n) = hs kL hL M (k + 1) := by
  subst hn; rw [List.drop_zero]; rfl
theorem wr_drop (M : List UInt8) (k : Nat) : (M.drop (64 * k)).drop 64 = M.drop (64 * (k + 1)) := by
  rw [List.drop_drop]; congr 1
theorem mix_ovr {α : Type} {p h c : List α} {n i k : Nat} (hp : p.length = n) (hc : c = (p.drop i).take k) (hi : i + k ≤ n) : ovr (mix p h i) i c = mix p h (i + k) := by
  have h1 : (p.take i).length = i := by rw [List.length_take]; omega
  have h2 : ((p.drop i).take k).length = k := by rw [List.length_take, List.length_drop]; omega
  subst hc
  rw [ovr, mix, mix, h2, List.take_append_of_le_length (by omega), List.take_take, Nat.min_self, List.drop_append, h1, List.drop_drop]
  have e : (p.take i).drop (i + k) = [] := List.drop_of_length_le (by omega)
  rw [e, List.nil_append, ← List.append_assoc, List.take_add]
  congr 2; omega
theorem dig_ovr {h : List UInt32} {i : Nat} (hi : i < 8) (x : UInt32) (hx : x = h.getD i 0) : ovr (mix (digL h) (List.replicate 32 0) (4 * i)) (4 * i) (leN 4 (UInt64.ofNat x.toNat).toNat).reverse = mix (digL h) (List.replicate 32 0) (4 * (i + 1)) := by
  have hl := x.toNat_lt
  rw [nat64 (by omega), hx]
  exact mix_ovr (digL_len h) (dig_word hi).symm (by omega)
theorem sum_dig (m : List UInt8) : digL (stH (m ++ padL m.length)) = sumL m := rfl
end Go.Sh

namespace Go.Proofs.Ytbhllplbbkmndaa
open Go.Proofs.Try
open Go.Vc Go.Sh Go.RowKit
set_option maxRecDepth 20000

theorem c_padding (n : Nat) (hn : n ≤ 1099511627776) (w : World) :
  Cs Try.prog 67 [(vi ((n : Nat) : Int))].toArray w (fun v w1 => ∃ a cap, v = .slice a (padL n).length cap ∧ Chg w w1 [] ∧ Own w.heap.size w1 5 1 a (padL n).length cap ((padL n).map vu8)) := by
 refine Cs.of (n := 23) (args := [(vn n)]) Try.func67 rfl rfl rfl ?_
 have h_0 := HP.init w
 refine WP.seq (WP.reg ?_)
 refine qA (.slice none 0 0) rfl rfl ?_
 refine WL.nil (thn_n (WP.seq (WP.reg ?_)))
 refine WL.buildSl (vs := [(0, (vu8 128))]) (cs := ([128] : List UInt8).map vu8) h_0 underlying72 sizeOf5 (zv typeInfo5 rfl) rfl rfl (by kernel_rfl) rfl (one_u8 _) rfl rfl (fun b_1 w_2 h_3 => ?_)
 refine qM (vn n) rfl rfl (qV rfl (R.bin rfl rfl (bi_rem (c := ((n % 64 : Nat) : Int)) (Int.natCast_nonneg _) (by omega) (by first | omega | rfl))) (qV rfl (R.bin rfl rfl (bi_sub (c := ((119 - (n % 64) : Nat) : Int)) (by omega) (by omega))) (qV rfl (R.bin rfl rfl (bi_rem (c := (((119 - (n % 64)) % 64 : Nat) : Int)) (Int.natCast_nonneg _) (by omega) (by first | omega | rfl))) ?_)))
 have h_4 := HP.blkRow (m := 1) (s := 1) h_3 At.h rfl (by simp only [maxLen]; decide)
 refine WL.appendZ (i := Try.t5) (m := (119 - (n % 64)) % 64) (km := 1 + ((119 - (n % 64)) % 64)) (xs := ([128] : List UInt8).map vu8) (zs := (([128] : List UInt8) ++ List.replicate ((119 - (n % 64)) % 64) (0 : UInt8)).map vu8) h_4 rfl rfl underlying72 underlying3 rfl rfl rfl rfl (by simp only [List.map_append, List.map_replicate, List.map_nil]) (by omega) (by omega) (fun _ _ => At.h) rfl (fun a_5 c_6 w_7 h_8 => ?_)
 refine qA (.slice a_5 (1 + ((119 - (n % 64)) % 64)) c_6) rfl rfl ?_
 refine WL.nil (thn_n (WP.seq (WP.reg ?_)))
 refine qM (vn n) rfl rfl (qV rfl (R.conv (b := ((UInt64.ofNat n) : UInt64).toNat) rfl underlying3 underlying26 (w64_nat n)) (qV rfl (R.bin (v := (vu64 (UInt64.ofNat (n * 8)))) rfl rfl ((b64_mul (UInt64.ofNat n) 8).trans (congrArg (fun x : UInt64 => some (vu64 x)) (mul8 n)))) ?_))
 refine WL.call Try.call43 rfl rfl (c_Put_b (UInt64.ofNat (n * 8)) 8 rfl _) rfl ?_
 rintro _ w_11 ⟨a_9, cap_10, rfl, hc_12, ho_13⟩
 have h_14 := h_8.gotRow hc_12 ho_13
 refine qM (.tuple [(.slice a_9 8 cap_10), (vi 0)].toArray) rfl rfl (qV rfl (R.extract rfl rfl) (qV rfl (R.extract rfl rfl) (qA (.slice a_9 8 cap_10) rfl rfl (qA (vi 0) rfl rfl ?_))))
 refine WL.nil (thn_n (WP.seq (WP.reg ?_)))
 refine qM (.slice a_5 (1 + ((119 - (n % 64)) % 64)) c_6) rfl rfl (qM (.slice a_9 8 cap_10) rfl rfl ?_)
 refine WL.call Try.call68 rfl rfl (c_Turned a_9 8 cap_10 (leN 8 (UInt64.ofNat (n * 8)).toNat) (leN_len ..) (by omega) _ (ownView (h_14.ok _ M0))) rfl ?_
 rintro _ w_17 ⟨a_15, cap_16, rfl, hc_18, ho_19⟩
 have h_20 := h_14.gotRow hc_18 ho_19
 refine WL.append (km := (1 + ((119 - (n % 64)) % 64)) + 8) (xs := (([128] : List UInt8) ++ List.replicate ((119 - (n % 64)) % 64) (0 : UInt8)).map vu8) (ys := ((leN 8 (UInt64.ofNat (n * 8)).toNat).reverse).map vu8) (zs := ((([128] : List UInt8) ++ List.replicate ((119 - (n % 64)) % 64) (0 : UInt8)) ++ ((leN 8 (UInt64.ofNat (n * 8)).toNat).reverse)).map vu8) h_20 rfl rfl el72 (ownView (h_20.ok _ M0)) ((len_map ((List.length_reverse ..).trans (leN_len ..))).trans (Nat.mul_one _).symm) (one_u8 _) (by simp only [List.map_append, List.map_nil]) (by omega) (by omega) (by omega) (fun _ _ => Y2) rfl (fun a_21 c_22 w_23 h_24 => ?_)
 refine qA (.slice a_21 ((1 + ((119 - (n % 64)) % 64)) + 8) c_22) rfl rfl ?_
 refine WL.nil (thn_n (WP.ret ?_))
 refine ret_of results67 (RV.tmp (v := (.slice a_21 ((1 + ((119 - (n % 64)) % 64)) + 8) c_22)) rfl RV.nil) ?_
 have es : (([128] : List UInt8) ++ List.replicate ((119 - (n % 64)) % 64) (0 : UInt8)) ++ ((leN 8 (UInt64.ofNat (n * 8)).toNat).reverse) = padL n := pad_P (by omega)
 have el : (1 + ((119 - (n % 64)) % 64)) + 8 = (padL n).length := by have hq := padL_len n; omega
 have hown := h_24.own M2
 rw [el, es] at hown
 exact ⟨_, _, by rw [el]; rfl, h_24.chgS, hown⟩
end Go.Proofs.Ytbhllplbbkmndaa

namespace Go.Proofs.Ytbhllplbbkmndaa
open Go.Proofs.Try
open Go.Vc Go.Sh Go.RowKit
set_option maxRecDepth 20000
theorem pl130 : ∀ fs, Try.prog.underlying 130 = some (.struct fs) → Places Try.prog fs [(0, 64), (64, 8), (72, 1), (73, 1), (74, 1)] := by
 intro fs h w; rw [underlying130] at h; cases h; simp
theorem c_New  (w : World) :
  Cs Try.prog 56 [].toArray w (fun v w1 => ∃ b, v = .pointer (some ⟨b, 0, none⟩) ∧ Chg w w1 [] ∧ w.heap.size ≤ b ∧ HashAt w.heap.size w1 b 130 []) := by
 refine Cs.of (n := 11) (args := []) Try.func56 rfl rfl rfl ?_
 have h_0 := HP.init w
 refine WP.seq (WP.reg ?_)
 refine qA (.pointer none) rfl rfl ?_
 refine WL.nil (thn_n (WP.seq (WP.reg ?_)))
 refine WL.call Try.call63 rfl rfl (c_tables  _ ) rfl ?_
 rintro _ w_2 ⟨rfl, hc_1⟩
 have h_3 := h_0.same hc_1
 refine qM (.tuple [(.agg ⟨kL.map vu32⟩), (.agg ⟨hL.map vu32⟩)].toArray) rfl rfl (qV rfl (R.extract rfl rfl) (qV rfl (R.extract rfl rfl) ?_))
 refine WL.alloc (segs := [(64, (zV 64).map vu32)]) h_3 (zv typeInfo125 rfl) rfl (sC (SOk.u32 lr) sN) rfl (fun b_4 w_5 h_6 => ?_)
 refine WL.alloc (segs := [(8, (zV 8).map vu32)]) h_6 (zv typeInfo126 rfl) rfl (sC (SOk.u32 lr) sN) rfl (fun b_7 w_8 h_9 => ?_)
 refine WL.storeA [] [(64, (zV 64).map vu32)] [(64, kL.map vu32)] [] h_9 rfl rfl sizeOf125 Y1 (by decide) rfl rfl rfl rfl rfl rfl (sC (SOk.u32 kL_len) sN) (fun w_10 h_11 => ?_)
 refine WL.storeA [] [(8, (zV 8).map vu32)] [(8, hL.map vu32)] [] h_11 rfl rfl sizeOf126 At.h (by decide) rfl rfl rfl rfl rfl rfl (sC (SOk.u32 hL_len) sN) (fun w_12 h_13 => ?_)
 refine WL.nil (thn_n (WP.seq (WP.reg ?_)))
 refine qV rfl (R.loadA [] [(64, kL.map vu32)] [] (cs := kL.map vu32) rfl isAgg125 sizeOf125 (h_13.ok _ M1) rfl rfl rfl rfl) (qV rfl (R.loadA [] [(8, hL.map vu32)] [] (cs := hL.map vu32) rfl isAgg126 sizeOf126 (h_13.ok _ M0) rfl rfl rfl rfl) (qV rfl (R.buildS (pl := [(0, 64), (64, 8), (72, 1), (73, 1), (74, 1)]) (zs := [(64, (zV 64).map vu32), (8, (zV 8).map vu32), (1, [(.slice none 0 0)]), (1, [(vi 0)]), (1, [(.bool false)])]) (vs := [(0, (.agg ⟨kL.map vu32⟩)), (1, (.agg ⟨hL.map vu32⟩)), (4, (.bool true))]) (out := [(64, kL.map vu32), (8, hL.map vu32), (1, [(.slice none 0 0)]), (1, [(vi 0)]), (1, [(.bool true)])]) underlying130 (zv typeInfo130 rfl) rfl (sC (SOk.u32 lr) (sC (SOk.u32 lr) (sC sV (sC sV (sC sV sN))))) (pl130 _ underlying130) rfl (FillR.cons [] [(64, (zV 64).map vu32)] [(64, kL.map vu32)] [(8, (zV 8).map vu32), (1, [(.slice none 0 0)]), (1, [(vi 0)]), (1, [(.bool false)])] rfl rfl rfl rfl (sC (SOk.u32 kL_len) sN) rfl rfl rfl (FillR.cons [(64, kL.map vu32)] [(8, (zV 8).map vu32)] [(8, hL.map vu32)] [(1, [(.slice none 0 0)]), (1, [(vi 0)]), (1, [(.bool false)])] rfl rfl rfl rfl (sC (SOk.u32 hL_len) sN) rfl rfl rfl (FillR.cons [(64, kL.map vu32), (8, hL.map vu32), (1, [(.slice none 0 0)]), (1, [(vi 0)])] [(1, [(.bool false)])] [(1, [(.bool true)])] [] rfl rfl rfl rfl (sC sV sN) rfl rfl rfl FillR.nil))) rfl) ?_))
 refine WL.box (segs := [(64, kL.map vu32), (8, hL.map vu32), (1, [(.slice none 0 0)]), (1, [(vi 0)]), (1, [(.bool true)])]) h_13 rfl rfl (sC (SOk.u32 kL_len) (sC (SOk.u32 hL_len) (sC sV (sC sV (sC sV sN))))) rfl (fun b_15 w_16 h_17 => ?_)
 refine qA (pO b_15 0) rfl rfl ?_
 refine WL.nil (thn_n (WP.ret ?_))
 refine ret_of results56 (RV.tmp (v := (pO b_15 0)) rfl RV.nil) ?_
 exact ⟨_, rfl, h_17.chgS, h_17.newB M0, none, 0, 0, h_17.cells M0, View.nil _ _, rfl, Nat.le_refl _, fun x hx => by cases hx⟩

theorem c_there_true (kk hh : List UInt32) (hkk : kk.length = 64) (hhl : hh.length = 8) (ra : Option Addr) (rn rc nn : Nat) (bc : Nat) (w : World) (hcb : (Ent.blk bc .ro 130 [(64, kk.map vu32), (8, hh.map vu32), (1, [(.slice ra rn rc)]), (1, [(vi ((nn : Nat) : Int))]), (1, [(.bool true)])]).ok w.heap.size w) :
  Cs Try.prog 64 [(.pointer (some ⟨bc, 0, none⟩))].toArray w (fun v w1 => v = (.bool true) ∧ Chg w w1 []) := by
 refine Cs.of (n := 11) (args := [(pO bc 0)]) Try.func64 rfl rfl rfl ?_
 have h_0 := HP.init w
 have h_00 := h_0.old hcb (fun f hf => by cases hf)
 refine WP.seq (WP.reg ?_)
 refine qA (.bool false) rfl rfl ?_
 refine WL.nil (thn_n (WP.seq (WP.reg ?_)))
 refine qM (pO bc 0) rfl rfl (qV rfl (R.neNilP rfl rfl underlying116) (qM (.bool true) rfl rfl ?_))
 refine WL.want rfl rfl ?_
 refine qM (pO bc 0) rfl rfl ?_
 refine WL.want rfl rfl ?_
 refine qV rfl (R.nilCheck rfl) ?_
 refine WL.want rfl rfl ?_
 refine qV rfl (R.fieldAddr (off' := 74) rfl underlying130 rfl sizeOf4 rfl rfl) ?_
 refine WL.want rfl rfl ?_
 refine qV rfl (R.load1 rfl isAgg4 (h_00.ok _ M0) (Sg.t rfl (Sg.t rfl (Sg.t rfl (Sg.t rfl Sg.h))))) (qV rfl (R.pickT (v := (.bool true)) rfl rfl) (qA (.bool true) rfl rfl ?_))
 refine WL.nil (thn_n (WP.ret ?_))
 refine ret_of results64 (RV.tmp (v := (.bool true)) rfl RV.nil) ?_
 exact ⟨rfl, h_00.chgS⟩

theorem c_Copy (mg : List UInt8) (ra : Option Addr) (rn rc : Nat) (hrn : (rsL mg).length = rn) (hrc : rn ≤ rc) (bc : Nat) (hm : mg.length ≤ 1000000000000) (w : World) (hvr : View w ra ((rsL mg).map vu8)) (hcb : (Ent.blk bc .ro 130 [(64, kL.map vu32), (8, (stH mg).map vu32), (1, [(.slice ra rn rc)]), (1, [(vi ((mg.length : Nat) : Int))]), (1, [(.bool true)])]).ok w.heap.size w) :
  Cs Try.prog 66 [(.pointer (some ⟨bc, 0, none⟩))].toArray w (fun v w1 => ∃ b, v = .pointer (some ⟨b, 0, none⟩) ∧ Chg w w1 [] ∧ w.heap.size ≤ b ∧ HashAt w.heap.size w1 b 130 mg) := by
 refine Cs.of (n := 16) (args := [(pO bc 0)]) Try.func66 rfl rfl rfl ?_
 have h_0 := HP.init w
 have h_01 := h_0.oldV (View.arg hvr) rfl (by simp [Ent.mut])
 have h_00 := h_01.oldV hcb rfl (by simp [Ent.mut])
 have hrl := rsL_len mg
 refine WP.seq (WP.reg ?_)
 refine qA (.pointer none) rfl rfl ?_
 refine WL.nil (thn_n (WP.seq (WP.seq (WP.reg ?_))))
 refine qM (pO bc 0) rfl rfl ?_
 refine WL.call Try.call64 rfl rfl (c_there_true kL (stH mg) kL_len (stH_len mg) ra rn rc mg.length bc _ (h_00.argR M0)) rfl ?_
 rintro _ w_2 ⟨rfl, hc_1⟩
 have h_3 := h_00.same hc_1
 refine qV rfl (R.not (b := true) rfl) ?_
 refine WL.nil (thn_n ?_)
 refine WP.condF rfl ?_
 refine WP.skip (thn_n (WP.seq (WP.reg ?_)))
 refine qM (pO bc 0) rfl rfl (qV rfl (R.nilCheck rfl) (qV rfl (R.loadA [] [(64, kL.map vu32), (8, (stH mg).map vu32), (1, [(.slice ra rn rc)]), (1, [(vn (mg.length))]), (1, [(.bool true)])] [] rfl isAgg130 sizeOf130 (h_3.ok _ M0) rfl rfl rfl rfl) ?_))
 refine WL.alloc (segs := [(64, (zV 64).map vu32), (8, (zV 8).map vu32), (1, [(.slice none 0 0)]), (1, [(vi 0)]), (1, [(.bool false)])]) h_3 (zv typeInfo130 rfl) rfl (sC (SOk.u32 lr) (sC (SOk.u32 lr) (sC sV (sC sV (sC sV sN))))) rfl (fun b_4 w_5 h_6 => ?_)
 refine WL.storeA [] [(64, (zV 64).map vu32), (8, (zV 8).map vu32), (1, [(.slice none 0 0)]), (1, [(vi 0)]), (1, [(.bool false)])] [(64, kL.map vu32), (8, (stH mg).map vu32), (1, [(.slice ra rn rc)]), (1, [(vn (mg.length))]), (1, [(.bool true)])] [] h_6 rfl rfl sizeOf130 At.h (by decide) rfl rfl rfl rfl rfl rfl (sC (SOk.u32 kL_len) (sC (SOk.u32 (stH_len mg)) (sC sV (sC sV (sC sV sN))))) (fun w_7 h_8 => ?_)
 refine WL.nil (thn_n (WP.seq (WP.reg ?_)))
 refine qM (pO bc 0) rfl rfl (qV rfl (R.nilCheck rfl) (qV rfl (R.fieldAddr (off' := 72) rfl underlying130 rfl sizeOf72 rfl rfl) (qV rfl (R.load1 rfl isAgg72 (h_8.ok _ M1) (Sg.t rfl (Sg.t rfl Sg.h))) ?_)))
 refine WL.call Try.call55 rfl rfl (c_Clone ra rn rc (rsL mg) hrn (by omega) _ (viewV (h_8.ok _ M2))) rfl ?_
 rintro _ w_11 ⟨a_9, cap_10, rfl, hc_12, ho_13⟩
 have h_14 := h_8.gotRow hc_12 ho_13
 refine qV rfl (R.fieldAddr (off' := 72) rfl underlying130 rfl sizeOf72 rfl rfl) ?_
 refine WL.store1 h_14 rfl rfl sizeOf72 rfl Y1 (by decide) (Sg.t rfl (Sg.t rfl Sg.h)) (fun w_15 h_16 => ?_)
 refine WL.nil (thn_n (WP.seq (WP.reg ?_)))
 refine qA (pO b_4 0) rfl rfl ?_
 refine WL.nil (thn_n (WP.ret ?_))
 refine ret_of results66 (RV.tmp (v := (pO b_4 0)) rfl RV.nil) ?_
 exact ⟨_, rfl, h_16.chgS, h_16.newB M1, _, _, _, h_16.cells M1, Own.view (h_16.own M0), hrn, (h_16.own M0).2.2.1, fun x hx => ⟨Own.blk (h_16.own M0) x hx, Sep_offRow (h_16.ne (i := 0) (j := 1) rfl rfl rfl) x hx⟩⟩

theorem c_Write (mg : List UInt8) (ra : Option Addr) (rn rc : Nat) (hrn : (rsL mg).length = rn) (hrc : rn ≤ rc) (bc : Nat) (hm : mg.length ≤ 1000000000000) (a : Option Addr) (n cap : Nat) (bs : List UInt8) (hl : bs.length = n) (hn : n ≤ 1000000000000) (hcap : n ≤ cap) (w : World) (hvr : View w ra ((rsL mg).map vu8)) (hv : View w a (bs.map vu8)) (hcb : (Ent.blk bc .ar 130 [(64, kL.map vu32), (8, (stH mg).map vu32), (1, [(.slice ra rn rc)]), (1, [(vi ((mg.length : Nat) : Int))]), (1, [(.bool true)])]).ok w.heap.size w) (ho1 : ∀ x ∈ (Ent.view ra ((rsL mg).map vu8)).blocks, x ≠ bc) (ho2 : ∀ x ∈ (Ent.view a (bs.map vu8)).blocks, x ≠ bc) :
  Cs Try.prog 57 [(.pointer (some ⟨bc, 0, none⟩)), (.slice a n cap)].toArray w (fun v w1 => v = vi 0 ∧ Chg w w1 [bc] ∧ HashAt w.heap.size w1 bc 130 (mg ++ bs)) := by
 refine Cs.of (n := 58) (args := [(pO bc 0), (.slice a n cap)]) Try.func57 rfl rfl rfl ?_
 have h_0 := HP.init w
 have h_00 := HP_three hcb hvr hv ho1 ho2
 have hrl := rsL_len mg
 refine WP.seq (WP.reg ?_)
 refine qA (vi 0) rfl rfl ?_
 refine WL.nil (thn_n (WP.seq (WP.seq (WP.reg ?_))))
 refine qM (pO bc 0) rfl rfl ?_
 refine WL.call Try.call64 rfl rfl (c_there_true kL (stH mg) kL_len (stH_len mg) ra rn rc mg.length bc _ (h_00.argR M0)) rfl ?_
 rintro _ w_2 ⟨rfl, hc_1⟩
 have h_3 := h_00.same hc_1
 refine qV rfl (R.not (b := true) rfl) ?_
 refine WL.nil (thn_n ?_)
 refine WP.condF rfl ?_
 refine WP.skip (thn_n (WP.seq (WP.reg ?_)))
 refine qM (pO bc 0) rfl rfl (qV rfl (R.nilCheck rfl) (qV rfl (R.fieldAddr (off' := 73) rfl underlying130 rfl sizeOf3 rfl rfl) (qV rfl (R.load1 rfl isAgg3 (h_3.ok _ M0) (Sg.t rfl (Sg.t rfl (Sg.t rfl Sg.h)))) (qM (.slice a n cap) rfl rfl (qV rfl (R.lenS (a := a) (m := n) rfl rfl underlying72) (qV rfl (R.bin rfl rfl (bi_add (c := ((mg.length + n : Nat) : Int)) (by omega) (by omega))) (qV rfl (R.nilCheck rfl) (qV rfl (R.fieldAddr (off' := 73) rfl underlying130 rfl sizeOf3 rfl rfl) ?_))))))))
 refine WL.store1 h_3 rfl rfl sizeOf3 rfl At.h (by decide) (Sg.t rfl (Sg.t rfl (Sg.t rfl Sg.h))) (fun w_4 h_5 => ?_)
 refine WL.nil (thn_n (WP.seq (WP.reg ?_)))
 refine qM (pO bc 0) rfl rfl (qM (pO bc 0) rfl rfl (qV rfl (R.nilCheck rfl) (qV rfl (R.fieldAddr (off' := 72) rfl underlying130 rfl sizeOf72 rfl rfl) (qV rfl (R.load1 rfl isAgg72 (h_5.ok _ M0) (Sg.t rfl (Sg.t rfl Sg.h))) (qM (.slice a n cap) rfl rfl ?_)))))
 refine WL.buildSl (vs := [(0, (.slice ra rn rc)), (1, (.slice a n cap))]) (cs := [(.slice ra rn rc), (.slice a n cap)]) h_5 underlying97 sizeOf72 (zv typeInfo72 rfl) rfl rfl (by kernel_rfl) rfl (by simp [Value.oneCell']) rfl rfl (fun b_6 w_7 h_8 => ?_)
 refine WL.call Try.call52 rfl rfl (c_Concat (some ⟨b_6, 0, none⟩) 2 2 [(.slice ra rn rc), (.slice a n cap)] [rsL mg, bs] rfl (by rw [wr_r, List.length_drop, List.length_append]; omega) (by omega) _ (viewB (h_8.ok _ M0) Sg.h) (Sls.cons hrn (by omega) (viewV (h_8.ok _ M2)) (Sls.cons hl (by omega) (viewV (h_8.ok _ M3)) Sls.nil))) rfl ?_
 rintro _ w_11 ⟨a_9, cap_10, rfl, hc_12, ho_13⟩
 have h_14 := h_8.gotRow hc_12 ho_13
 refine qV rfl (R.nilCheck rfl) (qV rfl (R.fieldAddr (off' := 72) rfl underlying130 rfl sizeOf72 rfl rfl) ?_)
 refine WL.store1 h_14 rfl rfl sizeOf72 rfl Y2 (by decide) (Sg.t rfl (Sg.t rfl Sg.h)) (fun w_15 h_16 => ?_)
 refine WL.nil (thn_n (WP.seq (WP.block ?_)))
 have hf_18 := Own.blk (h_16.own M0)
 have hq_19 := (h_16.own M0).2.2.1
 have h_17 := h_16.rowView
 have h_26 := ((((((h_17.up J1).drop rfl).up J2).drop rfl).up J2).up J1).up J2
 have hbl : (mg ++ bs).length = mg.length + n := by rw [List.length_append, hl]
 rw [wr_0 mg bs, wr_r mg bs] at h_26
 rw [wr_r mg bs] at hf_18 hq_19
 refine WP.loopG (G := Nat × Option Addr × Nat × Nat) [27, 28, 29, 30, 31, 32, 33, 34, 35, 36, 37, 38, 39, 40, 41, 42, 43, 44, 45, 46, 47, 48, 49, 50, 51, 52, 53, 54, 55, 56, 57] (fun (k, xa, xn, xc) => []) (fun (k, xa, xn, xc) m w1 => HP w w1 [.blk bc .ar 130 [(64, kL.map vu32), (8, (hs kL hL (mg ++ bs) k).map vu32), (1, [(.slice xa xn xc)]), (1, [(vn (mg.length + n))]), (1, [(.bool true)])], .view xa (((mg ++ bs).drop (64 * k)).map vu8), .view a (bs.map vu8)] ∧ (((mg ++ bs).drop (64 * k)).length = xn) ∧ (xn ≤ xc) ∧ (64 * k ≤ mg.length + n) ∧ (∀ b ∈ (Ent.view xa (((mg ++ bs).drop (64 * k)).map vu8)).blocks, w.heap.size ≤ b) ∧ m = mg.length + n - 64 * k) ⟨(mg.length / 64, a_9, _, _), _, trivial, h_26, rfl, hq_19, (by omega), hf_18, rfl⟩ ?_
 rintro ⟨k, xa, xn, xc⟩ m_29 J_30 w_27 ⟨h_28, hxn, hxc, hk, hxf, rfl⟩
 have hdl : xn = mg.length + n - 64 * k := by rw [← hxn, List.length_drop, hbl]
 refine WP.seq (WP.seq (WP.reg ?_))
 refine qM (pO bc 0) rfl rfl (qV rfl (R.nilCheck rfl) (qV rfl (R.fieldAddr (off' := 72) rfl underlying130 rfl sizeOf72 rfl rfl) (qV rfl (R.load1 rfl isAgg72 (h_28.ok _ M0) (Sg.t rfl (Sg.t rfl Sg.h))) (qV rfl (R.lenS (a := xa) (m := xn) rfl rfl underlying72) (qV rfl (R.bin rfl rfl (bi_geq (r := decide ((((xn : Nat) : Int) : Int) ≥ 64)) rfl)) ?_)))))
 refine WL.nil (thn_n ?_)
 refine WP.cond (b := decide ((((xn : Nat) : Int) : Int) ≥ 64)) rfl (fun c_31 => ?_) (fun c_31 => ?_)
 ·have p_32 := of_decide_eq_true c_31
  refine WP.skip (thn_n (WP.block (WP.seq ?_)))
  refine WP.cutG (G := Unit) [33, 34, 35, 36, 37, 38, 39, 40, 41, 42, 43, 44, 45, 46, 47, 48, 49] (fun _ => [(33, (pO bc 0)), (34, (pO bc 0)), (35, (pO bc 0)), (36, (pO bc 64)), (38, (pO bc 0)), (39, (pO bc 0)), (40, (pO bc 72)), (43, (pO bc 0)), (44, (pO bc 0)), (45, (pO bc 0)), (37, (.agg ⟨(hs kL hL (mg ++ bs) k).map vu32⟩)), (41, (.slice xa xn xc)), (42, (.slice (slA xa 0 xc 1) 64 xc)), (46, (.agg ⟨kL.map vu32⟩)), (47, (.agg ⟨(pressL kL (hs kL hL (mg ++ bs) k) ((((mg ++ bs).drop (64 * k)).drop 0).take 64)).map vu32⟩)), (48, (pO bc 0)), (49, (pO bc 64))]) (fun _ w1 => HP w w1 [.blk bc .ar 130 [(64, kL.map vu32), (8, (pressL kL (hs kL hL (mg ++ bs) k) ((((mg ++ bs).drop (64 * k)).drop 0).take 64)).map vu32), (1, [(.slice xa xn xc)]), (1, [(vn (mg.length + n))]), (1, [(.bool true)])], .view xa (((mg ++ bs).drop (64 * k)).map vu8), .view a (bs.map vu8)]) ?_ ?_
  ·refine WP.drawT (SL w.heap.size [.view xa (((mg ++ bs).drop (64 * k)).map vu8), .view a (bs.map vu8)]) (.q 0 (.q 1 (.q 2 (.q 3 (.q 5 (.q 6 (.q 7 (.q 10 (.q 11 (.q 12 (.s3 4 8 13 (.s2 8 13 (.q 9 (.s 13 (.s 14 (.q 15 (.q 16 (.s 17 .nil)))))) (.s 8 (.q 9 (.s 14 (.q 15 (.q 16 (.s 17 .nil))))))) (.q 9 (.s2 4 13 (.s 13 (.s 14 (.q 15 (.q 16 (.s 17 .nil))))) (.s 4 (.s 14 (.q 15 (.q 16 (.s 17 .nil))))))) (.s2 4 8 (.s 8 (.q 9 (.s 14 (.q 15 (.q 16 (.s 17 .nil)))))) (.q 9 (.s 4 (.s 14 (.q 15 (.q 16 (.s 17 .nil)))))))))))))))))) (by kernel_rfl) (by kernel_rfl) rfl (by kernel_rfl) (fun w_33 hc_35 => (SL.cons ((h_28.same hc_35).ok _ M1) (SL.cons ((h_28.same hc_35).ok _ M2) (SL.nil _ _)))) (fun w_33 hc_35 => ?_)
   have h_34 := h_28.same hc_35
   refine qT rfl rfl (fun wq hS => R.move (v := (pO bc 0)) rfl) ?_
   refine qT rfl rfl (fun wq hS => R.move (v := (pO bc 0)) rfl) ?_
   refine qT rfl rfl (fun wq hS => R.nilCheck rfl) ?_
   refine qT rfl rfl (fun wq hS => R.fieldAddr (off' := 64) rfl underlying130 rfl sizeOf126 rfl rfl) ?_
   refine qT rfl rfl (fun wq hS => R.move (v := (pO bc 0)) rfl) ?_
   refine qT rfl rfl (fun wq hS => R.nilCheck rfl) ?_
   refine qT rfl rfl (fun wq hS => R.fieldAddr (off' := 72) rfl underlying130 rfl sizeOf72 rfl rfl) ?_
   refine qT rfl rfl (fun wq hS => R.move (v := (pO bc 0)) rfl) ?_
   refine qT rfl rfl (fun wq hS => R.nilCheck rfl) ?_
   refine qT rfl rfl (fun wq hS => R.fieldAddr (off' := 0) rfl underlying130 rfl sizeOf125 rfl rfl) ?_
   refine WT.s3 ?_ ?_ ?_
   ·refine oN rfl ?_
    refine qV rfl (R.loadA [(64, kL.map vu32)] [(8, (hs kL hL (mg ++ bs) k).map vu32)] [(1, [(.slice xa xn xc)]), (1, [(vn (mg.length + n))]), (1, [(.bool true)])] (cs := (hs kL hL (mg ++ bs) k).map vu32) rfl isAgg126 sizeOf126 (h_34.ok _ M0) rfl rfl rfl rfl) ?_
    refine WL.nil ?_
    refine ⟨(N1_2 h_34.ok), ?_⟩
    refine WT.s2 ?_ ?_
    ·refine oN rfl ?_
     refine qV rfl (R.load1 rfl isAgg72 (h_34.ok _ M0) (Sg.t rfl (Sg.t rfl Sg.h))) ?_
     refine WL.nil ?_
     refine ⟨(N1_2 h_34.ok), ?_⟩
     refine qT rfl rfl (fun wq hS => R.sliceS (a := xa) (len := xn) (l := 0) (h := 64) rfl EvB.dflt (EvB.it (l := 64) rfl rfl) (by decide) (by omega) underlying72 sizeOf5) ?_
     refine WT.s (oN rfl ?_)
     refine qV rfl (R.loadA [] [(64, kL.map vu32)] [(8, (hs kL hL (mg ++ bs) k).map vu32), (1, [(.slice xa xn xc)]), (1, [(vn (mg.length + n))]), (1, [(.bool true)])] (cs := kL.map vu32) rfl isAgg125 sizeOf125 (h_34.ok _ M0) rfl rfl rfl rfl) ?_
     refine WL.nil ?_
     refine ⟨(N1_2 h_34.ok), ?_⟩
     refine WT.s (oN rfl ?_)
     refine WL.call Try.call65 rfl rfl (c_press (hs kL hL (mg ++ bs) k) kL (hs_len hL_len k) kL_len (slA xa 0 xc 1) xc ((((mg ++ bs).drop (64 * k)).drop 0).take 64) (subLen (K := xn) hxn (by omega) : List.length ((((mg ++ bs).drop (64 * k)).drop 0).take 64) = 64) (by omega) _ (View.slM (l := 0) (m := xc) (k := 64) (viewV (h_34.ok _ M1)) (by omega))) rfl ?_
     rintro _ w_37 ⟨rfl, hc_36⟩
     have h_38 := h_34.same hc_36
     refine WL.nil ?_
     refine ⟨(N1_2 h_38.ok), ?_⟩
     refine qT rfl rfl (fun wq hS => R.nilCheck rfl) ?_
     refine qT rfl rfl (fun wq hS => R.fieldAddr (off' := 64) rfl underlying130 rfl sizeOf126 rfl rfl) ?_
     refine WT.s (oN rfl ?_)
     refine WL.storeA [(64, kL.map vu32)] [(8, (hs kL hL (mg ++ bs) k).map vu32)] [(8, (pressL kL (hs kL hL (mg ++ bs) k) ((((mg ++ bs).drop (64 * k)).drop 0).take 64)).map vu32)] [(1, [(.slice xa xn xc)]), (1, [(vn (mg.length + n))]), (1, [(.bool true)])] h_38 rfl rfl sizeOf126 At.h (by decide) rfl rfl rfl rfl rfl rfl (sC (SOk.u32 (pressL_len ..)) sN) (fun w_39 h_40 => ?_)
     refine WL.nil ?_
     refine ⟨(N1_2 h_40.ok), ?_⟩
     refine WT.nil (thn_n ?_)
     exact ⟨(), (Ag.upd rfl (U4 rfl rfl rfl rfl (U4 rfl rfl rfl rfl (U4 rfl rfl rfl rfl (U4 rfl rfl rfl rfl (Ag.refl _ _)))))), ⟨rfl, rfl, rfl, rfl, rfl, rfl, rfl, rfl, rfl, rfl, rfl, rfl, rfl, rfl, rfl, rfl, rfl, trivial⟩, h_40⟩
    ·refine oN rfl ?_
     refine qV rfl (R.loadA [] [(64, kL.map vu32)] [(8, (hs kL hL (mg ++ bs) k).map vu32), (1, [(.slice xa xn xc)]), (1, [(vn (mg.length + n))]), (1, [(.bool true)])] (cs := kL.map vu32) rfl isAgg125 sizeOf125 (h_34.ok _ M0) rfl rfl rfl rfl) ?_
     refine WL.nil ?_
     refine ⟨(N1_2 h_34.ok), ?_⟩
     refine WT.s (oN rfl ?_)
     refine qV rfl (R.load1 rfl isAgg72 (h_34.ok _ M0) (Sg.t rfl (Sg.t rfl Sg.h))) ?_
     refine WL.nil ?_
     refine ⟨(N1_2 h_34.ok), ?_⟩
     refine qT rfl rfl (fun wq hS => R.sliceS (a := xa) (len := xn) (l := 0) (h := 64) rfl EvB.dflt (EvB.it (l := 64) rfl rfl) (by decide) (by omega) underlying72 sizeOf5) ?_
     refine WT.s (oN rfl ?_)
     refine WL.call Try.call65 rfl rfl (c_press (hs kL hL (mg ++ bs) k) kL (hs_len hL_len k) kL_len (slA xa 0 xc 1) xc ((((mg ++ bs).drop (64 * k)).drop 0).take 64) (subLen (K := xn) hxn (by omega) : List.length ((((mg ++ bs).drop (64 * k)).drop 0).take 64) = 64) (by omega) _ (View.slM (l := 0) (m := xc) (k := 64) (viewV (h_34.ok _ M1)) (by omega))) rfl ?_
     rintro _ w_42 ⟨rfl, hc_41⟩
     have h_43 := h_34.same hc_41
     refine WL.nil ?_
     refine ⟨(N1_2 h_43.ok), ?_⟩
     refine qT rfl rfl (fun wq hS => R.nilCheck rfl) ?_
     refine qT rfl rfl (fun wq hS => R.fieldAddr (off' := 64) rfl underlying130 rfl sizeOf126 rfl rfl) ?_
     refine WT.s (oN rfl ?_)
     refine WL.storeA [(64, kL.map vu32)] [(8, (hs kL hL (mg ++ bs) k).map vu32)] [(8, (pressL kL (hs kL hL (mg ++ bs) k) ((((mg ++ bs).drop (64 * k)).drop 0).take 64)).map vu32)] [(1, [(.slice xa xn xc)]), (1, [(vn (mg.length + n))]), (1, [(.bool true)])] h_43 rfl rfl sizeOf126 At.h (by decide) rfl rfl rfl rfl rfl rfl (sC (SOk.u32 (pressL_len ..)) sN) (fun w_44 h_45 => ?_)
     refine WL.nil ?_
     refine ⟨(N1_2 h_45.ok), ?_⟩
     refine WT.nil (thn_n ?_)
     exact ⟨(), (Ag.upd rfl (U4 rfl rfl rfl rfl (U4 rfl rfl rfl rfl (U4 rfl rfl rfl rfl (U4 rfl rfl rfl rfl (Ag.refl _ _)))))), ⟨rfl, rfl, rfl, rfl, rfl, rfl, rfl, rfl, rfl, rfl, rfl, rfl, rfl, rfl, rfl, rfl, rfl, trivial⟩, h_45⟩
   ·refine oN rfl ?_
    refine qV rfl (R.load1 rfl isAgg72 (h_34.ok _ M0) (Sg.t rfl (Sg.t rfl Sg.h))) ?_
    refine WL.nil ?_
    refine ⟨(N1_2 h_34.ok), ?_⟩
    refine qT rfl rfl (fun wq hS => R.sliceS (a := xa) (len := xn) (l := 0) (h := 64) rfl EvB.dflt (EvB.it (l := 64) rfl rfl) (by decide) (by omega) underlying72 sizeOf5) ?_
    refine WT.s2 ?_ ?_
    ·refine oN rfl ?_
     refine qV rfl (R.loadA [(64, kL.map vu32)] [(8, (hs kL hL (mg ++ bs) k).map vu32)] [(1, [(.slice xa xn xc)]), (1, [(vn (mg.length + n))]), (1, [(.bool true)])] (cs := (hs kL hL (mg ++ bs) k).map vu32) rfl isAgg126 sizeOf126 (h_34.ok _ M0) rfl rfl rfl rfl) ?_
     refine WL.nil ?_
     refine ⟨(N1_2 h_34.ok), ?_⟩
     refine WT.s (oN rfl ?_)
     refine qV rfl (R.loadA [] [(64, kL.map vu32)] [(8, (hs kL hL (mg ++ bs) k).map vu32), (1, [(.slice xa xn xc)]), (1, [(vn (mg.length + n))]), (1, [(.bool true)])] (cs := kL.map vu32) rfl isAgg125 sizeOf125 (h_34.ok _ M0) rfl rfl rfl rfl) ?_
     refine WL.nil ?_
     refine ⟨(N1_2 h_34.ok), ?_⟩
     refine WT.s (oN rfl ?_)
     refine WL.call Try.call65 rfl rfl (c_press (hs kL hL (mg ++ bs) k) kL (hs_len hL_len k) kL_len (slA xa 0 xc 1) xc ((((mg ++ bs).drop (64 * k)).drop 0).take 64) (subLen (K := xn) hxn (by omega) : List.length ((((mg ++ bs).drop (64 * k)).drop 0).take 64) = 64) (by omega) _ (View.slM (l := 0) (m := xc) (k := 64) (viewV (h_34.ok _ M1)) (by omega))) rfl ?_
     rintro _ w_47 ⟨rfl, hc_46⟩
     have h_48 := h_34.same hc_46
     refine WL.nil ?_
     refine ⟨(N1_2 h_48.ok), ?_⟩
     refine qT rfl rfl (fun wq hS => R.nilCheck rfl) ?_
     refine qT rfl rfl (fun wq hS => R.fieldAddr (off' := 64) rfl underlying130 rfl sizeOf126 rfl rfl) ?_
     refine WT.s (oN rfl ?_)
     refine WL.storeA [(64, kL.map vu32)] [(8, (hs kL hL (mg ++ bs) k).map vu32)] [(8, (pressL kL (hs kL hL (mg ++ bs) k) ((((mg ++ bs).drop (64 * k)).drop 0).take 64)).map vu32)] [(1, [(.slice xa xn xc)]), (1, [(vn (mg.length + n))]), (1, [(.bool true)])] h_48 rfl rfl sizeOf126 At.h (by decide) rfl rfl rfl rfl rfl rfl (sC (SOk.u32 (pressL_len ..)) sN) (fun w_49 h_50 => ?_)
     refine WL.nil ?_
     refine ⟨(N1_2 h_50.ok), ?_⟩
     refine WT.nil (thn_n ?_)
     exact ⟨(), (Ag.upd rfl (U4 rfl rfl rfl rfl (U4 rfl rfl rfl rfl (U4 rfl rfl rfl rfl (U4 rfl rfl rfl rfl (Ag.refl _ _)))))), ⟨rfl, rfl, rfl, rfl, rfl, rfl, rfl, rfl, rfl, rfl, rfl, rfl, rfl, rfl, rfl, rfl, rfl, trivial⟩, h_50⟩
    ·refine oN rfl ?_
     refine qV rfl (R.loadA [] [(64, kL.map vu32)] [(8, (hs kL hL (mg ++ bs) k).map vu32), (1, [(.slice xa xn xc)]), (1, [(vn (mg.length + n))]), (1, [(.bool true)])] (cs := kL.map vu32) rfl isAgg125 sizeOf125 (h_34.ok _ M0) rfl rfl rfl rfl) ?_
     refine WL.nil ?_
     refine ⟨(N1_2 h_34.ok), ?_⟩
     refine WT.s (oN rfl ?_)
     refine qV rfl (R.loadA [(64, kL.map vu32)] [(8, (hs kL hL (mg ++ bs) k).map vu32)] [(1, [(.slice xa xn xc)]), (1, [(vn (mg.length + n))]), (1, [(.bool true)])] (cs := (hs kL hL (mg ++ bs) k).map vu32) rfl isAgg126 sizeOf126 (h_34.ok _ M0) rfl rfl rfl rfl) ?_
     refine WL.nil ?_
     refine ⟨(N1_2 h_34.ok), ?_⟩
     refine WT.s (oN rfl ?_)
     refine WL.call Try.call65 rfl rfl (c_press (hs kL hL (mg ++ bs) k) kL (hs_len hL_len k) kL_len (slA xa 0 xc 1) xc ((((mg ++ bs).drop (64 * k)).drop 0).take 64) (subLen (K := xn) hxn (by omega) : List.length ((((mg ++ bs).drop (64 * k)).drop 0).take 64) = 64) (by omega) _ (View.slM (l := 0) (m := xc) (k := 64) (viewV (h_34.ok _ M1)) (by omega))) rfl ?_
     rintro _ w_52 ⟨rfl, hc_51⟩
     have h_53 := h_34.same hc_51
     refine WL.nil ?_
     refine ⟨(N1_2 h_53.ok), ?_⟩
     refine qT rfl rfl (fun wq hS => R.nilCheck rfl) ?_
     refine qT rfl rfl (fun wq hS => R.fieldAddr (off' := 64) rfl underlying130 rfl sizeOf126 rfl rfl) ?_
     refine WT.s (oN rfl ?_)
     refine WL.storeA [(64, kL.map vu32)] [(8, (hs kL hL (mg ++ bs) k).map vu32)] [(8, (pressL kL (hs kL hL (mg ++ bs) k) ((((mg ++ bs).drop (64 * k)).drop 0).take 64)).map vu32)] [(1, [(.slice xa xn xc)]), (1, [(vn (mg.length + n))]), (1, [(.bool true)])] h_53 rfl rfl sizeOf126 At.h (by decide) rfl rfl rfl rfl rfl rfl (sC (SOk.u32 (pressL_len ..)) sN) (fun w_54 h_55 => ?_)
     refine WL.nil ?_
     refine ⟨(N1_2 h_55.ok), ?_⟩
     refine WT.nil (thn_n ?_)
     exact ⟨(), (Ag.upd rfl (U4 rfl rfl rfl rfl (U4 rfl rfl rfl rfl (U4 rfl rfl rfl rfl (U4 rfl rfl rfl rfl (Ag.refl _ _)))))), ⟨rfl, rfl, rfl, rfl, rfl, rfl, rfl, rfl, rfl, rfl, rfl, rfl, rfl, rfl, rfl, rfl, rfl, trivial⟩, h_55⟩
   ·refine oN rfl ?_
    refine qV rfl (R.loadA [] [(64, kL.map vu32)] [(8, (hs kL hL (mg ++ bs) k).map vu32), (1, [(.slice xa xn xc)]), (1, [(vn (mg.length + n))]), (1, [(.bool true)])] (cs := kL.map vu32) rfl isAgg125 sizeOf125 (h_34.ok _ M0) rfl rfl rfl rfl) ?_
    refine WL.nil ?_
    refine ⟨(N1_2 h_34.ok), ?_⟩
    refine WT.s2 ?_ ?_
    ·refine oN rfl ?_
     refine qV rfl (R.loadA [(64, kL.map vu32)] [(8, (hs kL hL (mg ++ bs) k).map vu32)] [(1, [(.slice xa xn xc)]), (1, [(vn (mg.length + n))]), (1, [(.bool true)])] (cs := (hs kL hL (mg ++ bs) k).map vu32) rfl isAgg126 sizeOf126 (h_34.ok _ M0) rfl rfl rfl rfl) ?_
     refine WL.nil ?_
     refine ⟨(N1_2 h_34.ok), ?_⟩
     refine WT.s (oN rfl ?_)
     refine qV rfl (R.load1 rfl isAgg72 (h_34.ok _ M0) (Sg.t rfl (Sg.t rfl Sg.h))) ?_
     refine WL.nil ?_
     refine ⟨(N1_2 h_34.ok), ?_⟩
     refine qT rfl rfl (fun wq hS => R.sliceS (a := xa) (len := xn) (l := 0) (h := 64) rfl EvB.dflt (EvB.it (l := 64) rfl rfl) (by decide) (by omega) underlying72 sizeOf5) ?_
     refine WT.s (oN rfl ?_)
     refine WL.call Try.call65 rfl rfl (c_press (hs kL hL (mg ++ bs) k) kL (hs_len hL_len k) kL_len (slA xa 0 xc 1) xc ((((mg ++ bs).drop (64 * k)).drop 0).take 64) (subLen (K := xn) hxn (by omega) : List.length ((((mg ++ bs).drop (64 * k)).drop 0).take 64) = 64) (by omega) _ (View.slM (l := 0) (m := xc) (k := 64) (viewV (h_34.ok _ M1)) (by omega))) rfl ?_
     rintro _ w_57 ⟨rfl, hc_56⟩
     have h_58 := h_34.same hc_56
     refine WL.nil ?_
     refine ⟨(N1_2 h_58.ok), ?_⟩
     refine qT rfl rfl (fun wq hS => R.nilCheck rfl) ?_
     refine qT rfl rfl (fun wq hS => R.fieldAddr (off' := 64) rfl underlying130 rfl sizeOf126 rfl rfl) ?_
     refine WT.s (oN rfl ?_)
     refine WL.storeA [(64, kL.map vu32)] [(8, (hs kL hL (mg ++ bs) k).map vu32)] [(8, (pressL kL (hs kL hL (mg ++ bs) k) ((((mg ++ bs).drop (64 * k)).drop 0).take 64)).map vu32)] [(1, [(.slice xa xn xc)]), (1, [(vn (mg.length + n))]), (1, [(.bool true)])] h_58 rfl rfl sizeOf126 At.h (by decide) rfl rfl rfl rfl rfl rfl (sC (SOk.u32 (pressL_len ..)) sN) (fun w_59 h_60 => ?_)
     refine WL.nil ?_
     refine ⟨(N1_2 h_60.ok), ?_⟩
     refine WT.nil (thn_n ?_)
     exact ⟨(), (Ag.upd rfl (U4 rfl rfl rfl rfl (U4 rfl rfl rfl rfl (U4 rfl rfl rfl rfl (U4 rfl rfl rfl rfl (Ag.refl _ _)))))), ⟨rfl, rfl, rfl, rfl, rfl, rfl, rfl, rfl, rfl, rfl, rfl, rfl, rfl, rfl, rfl, rfl, rfl, trivial⟩, h_60⟩
    ·refine oN rfl ?_
     refine qV rfl (R.load1 rfl isAgg72 (h_34.ok _ M0) (Sg.t rfl (Sg.t rfl Sg.h))) ?_
     refine WL.nil ?_
     refine ⟨(N1_2 h_34.ok), ?_⟩
     refine qT rfl rfl (fun wq hS => R.sliceS (a := xa) (len := xn) (l := 0) (h := 64) rfl EvB.dflt (EvB.it (l := 64) rfl rfl) (by decide) (by omega) underlying72 sizeOf5) ?_
     refine WT.s (oN rfl ?_)
     refine qV rfl (R.loadA [(64, kL.map vu32)] [(8, (hs kL hL (mg ++ bs) k).map vu32)] [(1, [(.slice xa xn xc)]), (1, [(vn (mg.length + n))]), (1, [(.bool true)])] (cs := (hs kL hL (mg ++ bs) k).map vu32) rfl isAgg126 sizeOf126 (h_34.ok _ M0) rfl rfl rfl rfl) ?_
     refine WL.nil ?_
     refine ⟨(N1_2 h_34.ok), ?_⟩
     refine WT.s (oN rfl ?_)
     refine WL.call Try.call65 rfl rfl (c_press (hs kL hL (mg ++ bs) k) kL (hs_len hL_len k) kL_len (slA xa 0 xc 1) xc ((((mg ++ bs).drop (64 * k)).drop 0).take 64) (subLen (K := xn) hxn (by omega) : List.length ((((mg ++ bs).drop (64 * k)).drop 0).take 64) = 64) (by omega) _ (View.slM (l := 0) (m := xc) (k := 64) (viewV (h_34.ok _ M1)) (by omega))) rfl ?_
     rintro _ w_62 ⟨rfl, hc_61⟩
     have h_63 := h_34.same hc_61
     refine WL.nil ?_
     refine ⟨(N1_2 h_63.ok), ?_⟩
     refine qT rfl rfl (fun wq hS => R.nilCheck rfl) ?_
     refine qT rfl rfl (fun wq hS => R.fieldAddr (off' := 64) rfl underlying130 rfl sizeOf126 rfl rfl) ?_
     refine WT.s (oN rfl ?_)
     refine WL.storeA [(64, kL.map vu32)] [(8, (hs kL hL (mg ++ bs) k).map vu32)] [(8, (pressL kL (hs kL hL (mg ++ bs) k) ((((mg ++ bs).drop (64 * k)).drop 0).take 64)).map vu32)] [(1, [(.slice xa xn xc)]), (1, [(vn (mg.length + n))]), (1, [(.bool true)])] h_63 rfl rfl sizeOf126 At.h (by decide) rfl rfl rfl rfl rfl rfl (sC (SOk.u32 (pressL_len ..)) sN) (fun w_64 h_65 => ?_)
     refine WL.nil ?_
     refine ⟨(N1_2 h_65.ok), ?_⟩
     refine WT.nil (thn_n ?_)
     exact ⟨(), (Ag.upd rfl (U4 rfl rfl rfl rfl (U4 rfl rfl rfl rfl (U4 rfl rfl rfl rfl (U4 rfl rfl rfl rfl (Ag.refl _ _)))))), ⟨rfl, rfl, rfl, rfl, rfl, rfl, rfl, rfl, rfl, rfl, rfl, rfl, rfl, rfl, rfl, rfl, rfl, trivial⟩, h_65⟩
  ·rintro _ J_66 w_67 h_68
   refine thn_n (WP.reg ?_)
   refine qM (pO bc 0) rfl rfl (qM (pO bc 0) rfl rfl (qV rfl (R.nilCheck rfl) (qV rfl (R.fieldAddr (off' := 72) rfl underlying130 rfl sizeOf72 rfl rfl) (qV rfl (R.load1 rfl isAgg72 (h_68.ok _ M0) (Sg.t rfl (Sg.t rfl Sg.h))) (qV rfl (R.sliceS (a := xa) (len := xn) (l := 64) (h := xn) rfl (EvB.it (l := 64) rfl rfl) EvB.dflt (by omega) (by omega) underlying72 sizeOf5) ?_)))))
   have h_69 := HP.viewDrop (m := 64) (q := xc) h_68 M1 (by omega)
   refine qV rfl (R.nilCheck rfl) (qV rfl (R.fieldAddr (off' := 72) rfl underlying130 rfl sizeOf72 rfl rfl) ?_)
   refine WL.store1 h_69 rfl rfl sizeOf72 rfl Y1 (by decide) (Sg.t rfl (Sg.t rfl Sg.h)) (fun w_70 h_71 => ?_)
   refine WL.nil (inb_n (thn_n ?_))
   have h_76 := ((((h_71.up J2).drop rfl).up J2).up J1).up J2
   have es : pressL kL (hs kL hL (mg ++ bs) k) ((((mg ++ bs).drop (64 * k)).drop 0).take 64) = hs kL hL (mg ++ bs) (k + 1) := wr_step rfl
   have ed := wr_drop (mg ++ bs) k
   rw [es, ed] at h_76
   have hxf2 : ∀ b ∈ (Ent.view (slA xa 64 xc 1) (((mg ++ bs).drop (64 * (k + 1))).map vu8)).blocks, w.heap.size ≤ b := fun b hb => hxf b (view_sl_blocks (l := (mg ++ bs).drop (64 * k)) (l' := (mg ++ bs).drop (64 * (k + 1))) (fun h2 e => h2 (by rw [← ed, e]; rfl)) b hb)
   exact ⟨(k + 1, slA xa 64 xc 1, xn - 64, xc - 64), _, (by omega), (U4 rfl rfl rfl rfl (U4 rfl rfl rfl rfl (Ag.updL rfl (Ag.trans (Ag.sub rfl (Ag.mix _ _ _)) (Ag.upd rfl (Ag.upd rfl (Ag.upd rfl (Ag.upd rfl (Ag.upd rfl (Ag.upd rfl (Ag.updL rfl (Ag.mix _ _ _)))))))))))), trivial, h_76, (by rw [List.length_drop, hbl]; omega), (by omega), (by omega), hxf2, rfl⟩
 ·have p_77 := of_decide_eq_false c_31
  refine WP.exit (thn_x (thn_x (inb_hit (thn_n (WP.seq (WP.reg ?_))))))
  refine qA (vi 0) rfl rfl ?_
  refine WL.nil (thn_n (WP.ret ?_))
  refine ret_of results57 (RV.tmp (v := (vi 0)) rfl RV.nil) ?_
  have hdl2 : xn = mg.length + n - 64 * k := by rw [← hxn, List.length_drop, hbl]
  have hk2 : k = (mg ++ bs).length / 64 := by omega
  have hcl := h_28.cells M0
  have hvw := viewV (h_28.ok _ M1)
  rw [hk2] at hxn hxf hvw hcl
  rw [← hbl] at hcl
  exact ⟨rfl, h_28.chgS, xa, xn, xc, hcl, hvw, hxn, hxc, fun x hx => ⟨hxf x hx, fun e => by have h1 := hxf x hx; have h2 := hcb.2.2; rw [e] at h1; exact absurd h1 (Nat.not_le.2 h2)⟩⟩
end Go.Proofs.Ytbhllplbbkmndaa
