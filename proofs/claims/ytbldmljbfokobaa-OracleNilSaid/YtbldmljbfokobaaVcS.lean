/- Strings and bytes: rules for walks, proved here for every program of the model. Conditions: none beyond what each theorem states. -/
import Derived.Test.YtbldmljbfokobaaVcT
import Derived.Laws.BytesString
import Derived.Laws.Strings
set_option linter.unusedVariables false
set_option linter.unusedSimpArgs false
namespace Go.Vc
open Go.RowKit
set_option linter.unusedSectionVars false

/-! ## strings -/
def bstr (l : List UInt8) : ByteArray := ⟨l.toArray⟩
theorem bstr_toList (l : List UInt8) : (bstr l).toList = l := by rw [ByteArray.toList_eq]; rfl
theorem bstr_size (l : List UInt8) : (bstr l).size = l.length := rfl
theorem bstr_of (s : ByteArray) : bstr s.data.toList = s := by
  obtain ⟨⟨l⟩⟩ := s; rfl

section
variable {P : Program} {n : Nat} {ops : Array Oper} {Q : Exit → Fr → World → Prop} {rest : List Oper} {F : Fr} {w w' w0 : World} {L L' : List Ent}
variable {ty : TypeId} {pos : String} {after : Array Edge} {dst : Option Tmp} {g : Option (Nat × Bool)}

theorem R.eqStr {T T' : TypeId} {x y : Operand} {a b : List UInt8} {r : Bool} (hx : evO F x = .string (bstr a)) (hy : evO F y = .string (bstr b)) (hr : decide (a = b) = r) :
    (execOp (evO F) ⟨dst, .binOp .eql T x y T', ty, pos, after, g⟩).run P w = .ok (.value (.bool r)) w := by
  subst hr
  have h1 : (eqGuard .eql T x y (.string (bstr a)) (.string (bstr b))).run P w = .ok () w := rfl
  have h2 : (a == b) = decide (a = b) := by rw [Bool.eq_iff_iff]; simp
  simp only [execOp, hx, hy, Sem.run_bind, h1, Result.andThen_ok, binOp_string_eql, Sem.run_pure, bstr_toList, h2]
theorem R.neStr {T T' : TypeId} {x y : Operand} {a b : List UInt8} {r : Bool} (hx : evO F x = .string (bstr a)) (hy : evO F y = .string (bstr b)) (hr : decide (a ≠ b) = r) :
    (execOp (evO F) ⟨dst, .binOp .neq T x y T', ty, pos, after, g⟩).run P w = .ok (.value (.bool r)) w := by
  subst hr
  have h1 : (eqGuard .neq T x y (.string (bstr a)) (.string (bstr b))).run P w = .ok () w := rfl
  have h2 : (!(a == b)) = decide (a ≠ b) := by rw [Bool.eq_iff_iff]; simp
  simp only [execOp, hx, hy, Sem.run_bind, h1, Result.andThen_ok, binOp_string_neq, Sem.run_pure, bstr_toList, h2]

theorem foldl_push : ∀ (l : List UInt8) (s : ByteArray), ((l.map fun b => (b.toNat : Int)).foldl (fun r n => r.push (UInt8.ofNat n.toNat)) s) = ⟨s.data ++ l.toArray⟩
  | [], s => by simp
  | b :: l, s => by
    simp only [List.map_cons, List.foldl_cons, foldl_push l]
    have : UInt8.ofNat (b.toNat : Int).toNat = b := by simp
    rw [this]
    congr 1
    apply Array.ext'
    simp [ByteArray.push]

/-- string(b) -/
theorem R.toStr {S D E : TypeId} {x : Operand} {a : Option Addr} {m c : Nat} {bs : List UInt8} (hx : evO F x = .slice a m c) (hS : P.underlying S = some (.slice E)) (hE : P.underlying E = some (.int .u8)) (hD : P.underlying D = some .string) (hv : View w a (bs.map vu8)) (hl : bs.length = m) :
    (execOp (evO F) ⟨dst, .convert S D x, ty, pos, after, g⟩).run P w = .ok (.value (.string (bstr bs))) w := by
  have h1 : (Conv.bytesToString (.slice a m c)).run P w = .ok (.string (bstr bs)) w := by
    cases a with
    | none =>
      have : bs = [] := by
        cases bs with
        | nil => rfl
        | cons y ys => obtain ⟨ad, e, _⟩ := hv 0 _ rfl; cases e
      subst this; rfl
    | some ad =>
      have hc : ∀ j u, (bs.map vu8)[j]? = some u → w.cell? (ad.add j) = some u := hv.cells
      have hload := run_loadCells_list (P := P) w ad (bs.map vu8) hc
      rw [List.length_map, hl] at hload
      have e : (bs.map fun b => (b.toNat : Int)).map (Value.int .u8) = bs.map vu8 := by rw [List.map_map]; rfl
      rw [run_bytesToString w ad m c (bs.map fun b => (b.toNat : Int)) (by rw [e]; exact hload), foldl_push]
      congr 2
      simp [bstr]
  simp only [execOp, hx, Sem.run_bind, run_convert_bytes_string w S D E a m c hS hE hD, h1, Result.andThen_ok, Sem.run_pure]

theorem bytes_cells (l : List UInt8) : ((bstr l).data.map fun b => (Value.int .u8 b.toNat : Value)) = ⟨l.map vu8⟩ := by
  apply Array.ext'
  rw [Array.toList_map]; rfl

/-- []byte(s): a row of the call's own -/
theorem WL.toBytes {d : Nat} {S D E : TypeId} {x : Operand} {bs : List UInt8} (h : HP w0 w L) (hx : evO F x = .string (bstr bs)) (hS : P.underlying S = some .string) (hD : P.underlying D = some (.slice E)) (hE : P.underlying E = some (.int .u8)) (hm : bs.length ≤ maxLen) (hd : Nat.blt d n = true)
    (k : ∀ a c w', HP w0 w' (.row a bs.length c E 1 (bs.map vu8) :: L) → WL P n ops Q rest (upd F d (.slice a bs.length c)) w') : WL P n ops Q (⟨some d, .convert S D x, ty, pos, after, none⟩ :: rest) F w := by
  have hge := grownCap_ge w bs.length 0 E
  have hcm := grownCap_le_maxLen w bs.length 0 E hm
  let cap := grownCap w bs.length 0 E
  let cs : List Value := bs.map vu8 ++ List.replicate (cap - bs.length) (vu8 0)
  have hlen : cs.length = cap := by simp only [cs, List.length_append, List.length_map, List.length_replicate]; show _ = grownCap w bs.length 0 E; omega
  let w1 : World := w.drew.alloc (.cells ⟨cs⟩ E)
  let w2 : World := w1.freeze ⟨w.heap.size, cap, none⟩ 1
  have hb1 : w1.heap[w.heap.size]? = some (.cells ⟨cs⟩ E) := heap_alloc_new _ _
  have hb2 : w2.heap[w.heap.size]? = some (.cells ⟨cs⟩ E (cap, cap + 1)) := by
    simp only [w2, World.freeze, Nat.one_ne_zero, if_false, Array.getElem?_modify, if_true, hb1]
    simp
  have hch : Chg w w2 [] := by
    refine ⟨rfl, rfl, rfl, by simp [w2, w1, World.freeze], fun k hk _ => ?_⟩
    have hne : w.heap.size ≠ k := by omega
    simp only [w2, World.freeze, Nat.one_ne_zero, if_false, Array.getElem?_modify, hne, if_false]
    exact Below.heap_alloc w.drew _ k hk
  have hrow : HP w0 w2 (.row (some ⟨w.heap.size, 0, none⟩) bs.length cap E 1 (bs.map vu8) :: L) := by
    refine h.gotRow hch (Own.new (Nat.le_refl _) ⟨(cap, cap + 1), ⟨Nat.le_succ _, fun i hi hf => ?_⟩, hb2⟩ hge hcm ?_ ?_ (one_u8 _))
    · have hi : i < cs.length := hi
      have := hf.1
      rw [hlen] at hi; omega
    · rw [hlen, Nat.mul_one]; exact Nat.le_refl _
    · rw [Nat.mul_one]
      show cs.take bs.length = _
      have : (bs.map vu8).length = bs.length := by simp
      rw [← this]; exact List.take_left
  refine WL.val rfl rfl hd ?_ (k _ _ _ hrow)
  have hsz : (bstr bs).size = bs.length := rfl
  have hcsz : w1.shape? w.heap.size = some (E, cap) := by
    simp [World.shape?, hb1, hlen]
  have hA : ((⟨bs.map vu8⟩ : Array Value) ++ Array.replicate (cap - bs.length) (Value.int .u8 0)) = ⟨cs⟩ := by
    apply Array.ext'
    simp [cs]
  simp only [execOp, hx, Sem.run_bind, convert, run_underlying hS, run_underlying hD, run_underlying hE, Result.andThen_ok, Conv.stringToBytes, bytes_cells, hsz]
  have hfc : ∀ q : Question, q = .appendCap bs.length 0 E → (choose q).run P w = .ok cap w.drew := fun q hq => by subst hq; rfl
  simp only [hfc _ rfl, Result.andThen_ok, newRow, Sem.run_bind, run_newObj, Sem.run_pure, markStringish, run_shape]
  rw [hA]
  have hs2 : World.shape? w1 w.drew.heap.size = some (E, cap) := hcsz
  have e1 : ({ heap := w.drew.heap.push (Obj.cells ⟨cs⟩ E), tape := w.drew.tape, drawn := w.drew.drawn, os := w.drew.os, output := w.drew.output } : World) = w1 := rfl
  rw [e1, hs2]
  rfl
/-! copy(b, s) -/
theorem copyS_core {t ts E : TypeId} {bs : List UInt8} {b off base i K m dl dc : Nat} {md : Md} {Tb : TypeId} {segs segs' : List Sgm} {cs cs' : List Value} {L' : List Ent} {q : Nat} (h : HP w0 w L) (hT : P.underlying t = some (.slice E)) (hs : ∀ w, (sizeOf E).run P w = .ok 1 w)
    (hl : bs.length = m) (hat : At (.blk b md Tb segs) (.blk b md Tb segs') L L') (hmut : md ≠ .ro) (hsg : Sg (K, cs) (K, cs') base segs segs') (hoff : off = base + i) (hq : min m dl = q) (hi : i + q ≤ cs.length) (hcs : cs.take i ++ ((bs.map vu8).take q ++ cs.drop (i + q)) = cs') :
    ∃ w', (Builtin.copy_ #[t, ts] ty #[.slice (some ⟨b, off, none⟩) dl dc, .string (bstr bs)]).run P w = .ok (vi q) w' ∧ HP w0 w' L' := by
  obtain ⟨ys, hys⟩ : ∃ ys, ys = bs.map vu8 := ⟨_, rfl⟩
  have hl0 := hl
  have h1 : ∀ v ∈ ys, v.oneCell' = true := by rw [hys]; exact one_u8 _
  have hl : ys.length = m := by rw [hys]; simpa using hl0
  rw [← hys] at hcs
  obtain ⟨ok, hc⟩ := h.blk hat.mem
  obtain ⟨A, B, e, e', hlA⟩ := hsg.flat ok
  have hsok := hsg.ok ok
  have hqm : q ≤ m := by omega
  have hyq : (ys.take q).length = q := by rw [List.length_take, hl]; omega
  have hc0 : cs = cs.take i ++ ((cs.drop i).take q ++ cs.drop (i + q)) := by rw [← List.drop_drop, List.take_append_drop, List.take_append_drop]
  have hok' : SOk (K, cs') := ⟨by
    show cs'.length = K
    have hK : cs.length = K := hsok.len
    rw [← hcs]; simp only [List.length_append, List.length_take, List.length_drop, hl]; omega, fun v hv => by
    have hv : v ∈ cs' := hv
    rw [← hcs] at hv
    rcases List.mem_append.1 hv with hv | hv
    · exact hsok.one v (List.mem_of_mem_take hv)
    · rcases List.mem_append.1 hv with hv | hv
      · exact h1 v (List.mem_of_mem_take hv)
      · exact hsok.one v (List.mem_of_mem_drop hv)⟩
  have e1 : flat segs = (A ++ cs.take i) ++ ((cs.drop i).take q ++ (cs.drop (i + q) ++ B)) := by
    rw [e]; exact (congrArg (fun t => A ++ (t ++ B)) hc0).trans (by simp only [List.append_assoc])
  rw [e1] at hc
  have hlen1 : (A ++ cs.take i).length = off := by rw [List.length_append, List.length_take, hlA, hoff]; omega
  have hlen2 : ((cs.drop i).take q).length = q := by rw [List.length_take, List.length_drop]; omega
  obtain ⟨w', hr, hcs2, hch⟩ := run_storeCells P b off Tb (ys.take q) 0 _ _ w hc (by simpa using hlen1) (by rw [hyq, List.length_append, hlen2]; omega) (fun v hv => h1 v (List.mem_of_mem_take hv))
  have hf : (Builtin.firstCells 1 q (.string (bstr bs))).run P w = .ok ⟨ys.take q⟩ w := by
    have : (((bstr bs).extract 0 q).data.map fun b => (Value.int .u8 b.toNat : Value)) = ⟨ys.take q⟩ := by
      apply Array.ext'
      rw [Array.toList_map, hys]
      simp [bstr, List.map_take]
    simp only [Builtin.firstCells, this, Sem.run_pure]
  refine ⟨w', ?_, ?_⟩
  · have hq' : Nat.min m dl = q := hq
    simp [Builtin.copy_, run_underlying hT, Builtin.lenOf, hs, show (bstr bs).size = m from hl0, hq', hf, hr, goInt]
  · refine h.set hat (by simp [Ent.mut, hmut]) (by simpa [Ent.blocks] using hch) ⟨hsg.ok' ok hok', ?_, (h.ok _ hat.mem).2.2⟩ (fun b' hb => .inl hb) (fun ha => ⟨ha, rfl⟩) (fun ha b' hb => ?_)
    · rw [e']
      have : A ++ (cs' ++ B) = A ++ cs.take i ++ ys.take q ++ List.drop (ys.take q).length ((cs.drop i).take q ++ (cs.drop (i + q) ++ B)) := by
        rw [hyq, show List.drop q ((cs.drop i).take q ++ (cs.drop (i + q) ++ B)) = cs.drop (i + q) ++ B by
          conv => lhs; arg 1; rw [← hlen2]
          exact List.drop_left, ← hcs]
        simp only [List.append_assoc]
      rw [show ((K, cs') : Sgm).2 = cs' from rfl, this]; exact hcs2
    · simp only [Ent.blocks, List.mem_singleton] at hb
      subst hb
      have := (h.ok _ hat.mem).2.2
      cases md with
      | ro => exact absurd rfl hmut
      | ar => simp [Ent.isAr] at ha
      | nw => exact this

theorem WL.copyS {d : Nat} {x y : Operand} {t ts E : TypeId} {bs : List UInt8} {b off base i K m dl dc : Nat} {md : Md} {Tb : TypeId} {segs segs' : List Sgm} {cs cs' : List Value} {L' : List Ent} {q : Nat} (h : HP w0 w L) (hx : evO F x = .slice (some ⟨b, off, none⟩) dl dc) (hy : evO F y = .string (bstr bs)) (hT : P.underlying t = some (.slice E)) (hs : ∀ w, (sizeOf E).run P w = .ok 1 w)
    (hl : bs.length = m) (hat : At (.blk b md Tb segs) (.blk b md Tb segs') L L') (hmut : md ≠ .ro) (hsg : Sg (K, cs) (K, cs') base segs segs') (hoff : off = base + i) (hq : min m dl = q) (hi : i + q ≤ cs.length) (hcs : cs.take i ++ ((bs.map vu8).take q ++ cs.drop (i + q)) = cs') (hd : Nat.blt d n = true)
    (kk : ∀ w', HP w0 w' L' → WL P n ops Q rest (upd F d (vi q)) w') :
    WL P n ops Q (⟨some d, .call { callee := .builtin .copy, args := #[x, y], argTypes := #[t, ts] }, ty, pos, after, none⟩ :: rest) F w := by
  obtain ⟨w', hr, hh⟩ := copyS_core (P := P) (ty := ty) (ts := ts) (dc := dc) h hT hs hl hat hmut hsg hoff hq hi hcs
  refine WL.val rfl rfl hd ?_ (kk w' hh)
  rw [BigFrame.execOp_builtin, BigFrame.builtin_copy]
  simp only [List.map_toArray, List.map_cons, List.map_nil, hx, hy, Sem.run_bind, hr, Result.andThen_ok, Sem.run_pure]

theorem WL.copyS0 {x y : Operand} {t ts E : TypeId} {bs : List UInt8} {b off base i K m dl dc : Nat} {md : Md} {Tb : TypeId} {segs segs' : List Sgm} {cs cs' : List Value} {L' : List Ent} {q : Nat} (h : HP w0 w L) (hx : evO F x = .slice (some ⟨b, off, none⟩) dl dc) (hy : evO F y = .string (bstr bs)) (hT : P.underlying t = some (.slice E)) (hs : ∀ w, (sizeOf E).run P w = .ok 1 w)
    (hl : bs.length = m) (hat : At (.blk b md Tb segs) (.blk b md Tb segs') L L') (hmut : md ≠ .ro) (hsg : Sg (K, cs) (K, cs') base segs segs') (hoff : off = base + i) (hq : min m dl = q) (hi : i + q ≤ cs.length) (hcs : cs.take i ++ ((bs.map vu8).take q ++ cs.drop (i + q)) = cs')
    (kk : ∀ w', HP w0 w' L' → WL P n ops Q rest F w') :
    WL P n ops Q (⟨none, .call { callee := .builtin .copy, args := #[x, y], argTypes := #[t, ts] }, ty, pos, after, none⟩ :: rest) F w := by
  obtain ⟨w', hr, hh⟩ := copyS_core (P := P) (ty := ty) (ts := ts) (dc := dc) h hT hs hl hat hmut hsg hoff hq hi hcs
  refine WL.val0 (v := vi q) rfl rfl ?_ (kk w' hh)
  rw [BigFrame.execOp_builtin, BigFrame.builtin_copy]
  simp only [List.map_toArray, List.map_cons, List.map_nil, hx, hy, Sem.run_bind, hr, Result.andThen_ok, Sem.run_pure]


/-! ## a list of byte slices -/
inductive Sls (w : World) : List Value → List (List UInt8) → Prop
  | nil : Sls w [] []
  | cons {a : Option Addr} {n c : Nat} {l : List UInt8} {xs : List Value} {ls : List (List UInt8)} (hl : l.length = n) (hn : n ≤ c) (hv : View w a (l.map vu8)) (r : Sls w xs ls) : Sls w (.slice a n c :: xs) (l :: ls)
def sblk : Value → List Nat
  | .slice (some ad) (_ + 1) _ => [ad.block]
  | _ => []
def sblks : List Value → List Nat
  | [] => []
  | x :: xs => sblk x ++ sblks xs
theorem Sls.len {w : World} {xs : List Value} {ls : List (List UInt8)} (h : Sls w xs ls) : xs.length = ls.length := by
  induction h with
  | nil => rfl
  | cons _ _ _ _ ih => simp [ih]
theorem Sls.one {w : World} {xs : List Value} {ls : List (List UInt8)} (h : Sls w xs ls) : ∀ v ∈ xs, v.oneCell' = true := by
  induction h with
  | nil => intro v hv; cases hv
  | cons _ _ _ _ ih =>
    intro v hv
    rcases List.mem_cons.1 hv with rfl | hv
    · rfl
    · exact ih v hv
theorem sblk_lt {w : World} {a : Option Addr} {n c : Nat} {l : List UInt8} (hl : l.length = n) (hv : View w a (l.map vu8)) : ∀ b ∈ sblk (.slice a n c), b < w.heap.size := by
  intro b hb
  cases a with
  | none => simp [sblk] at hb
  | some ad => cases l with
    | nil => simp at hl; subst hl; simp [sblk] at hb
    | cons x r =>
      cases n with
      | zero => simp at hl
      | succ n =>
        simp [sblk] at hb; subst hb
        obtain ⟨ad', e, hc⟩ := hv 0 _ rfl
        cases e
        have := block_lt_of_cell hc
        simpa [Addr.add_block] using this
theorem Sls.lt {w : World} {xs : List Value} {ls : List (List UInt8)} (h : Sls w xs ls) : ∀ b ∈ sblks xs, b < w.heap.size := by
  induction h with
  | nil => intro b hb; cases hb
  | cons hl _ hv _ ih => intro b hb; exact (List.mem_append.1 hb).elim (sblk_lt hl hv b) (ih b)
theorem sblk_view {w w' : World} {a : Option Addr} {n c : Nat} {l : List UInt8} (hl : l.length = n) (hv : View w a (l.map vu8)) (hs : ∀ b ∈ sblk (.slice a n c), w'.heap[b]? = w.heap[b]?) : View w' a (l.map vu8) := by
  refine hv.same fun ad ha hx => hs _ ?_
  subst ha
  cases l with
  | nil => simp at hx
  | cons x r => cases n with
    | zero => simp at hl
    | succ n => simp [sblk]
theorem Sls.same {w w' : World} {xs : List Value} {ls : List (List UInt8)} (h : Sls w xs ls) (hs : ∀ b ∈ sblks xs, w'.heap[b]? = w.heap[b]?) : Sls w' xs ls := by
  induction h with
  | nil => exact .nil
  | cons hl hn hv _ ih => exact .cons hl hn (sblk_view hl hv fun b hb => hs b (List.mem_append.2 (.inl hb))) (ih fun b hb => hs b (List.mem_append.2 (.inr hb)))
theorem Sls.pin {B : Nat} {w : World} {xs : List Value} {ls : List (List UInt8)} (h : Sls w xs ls) : (Ent.pin (sblks xs) (fun w => Sls w xs ls)).ok B w := ⟨h, h.lt, fun _ hs => h.same hs⟩
theorem Sls.get {w : World} {xs : List Value} {ls : List (List UInt8)} (h : Sls w xs ls) : ∀ {i : Nat}, i < ls.length → ∃ a n c, xs[i]? = some (.slice a n c) ∧ (ls.getD i []).length = n ∧ n ≤ c ∧ View w a ((ls.getD i []).map vu8) ∧ ∀ b ∈ sblk (.slice a n c), b ∈ sblks xs := by
  induction h with
  | nil => intro i hi; simp at hi
  | @cons a n c l xs ls hl hn hv r ih =>
    intro i hi
    cases i with
    | zero => exact ⟨a, n, c, rfl, hl, hn, hv, fun b hb => List.mem_append.2 (.inl hb)⟩
    | succ i =>
      obtain ⟨a', n', c', h1, h2, h3, h4, h5⟩ := ih (i := i) (by simpa using hi)
      exact ⟨a', n', c', by simpa using h1, by simpa using h2, h3, by simpa using h4, fun b hb => List.mem_append.2 (.inr (h5 b hb))⟩
theorem Sls.append {w : World} {xs ys : List Value} {ls ms : List (List UInt8)} (h : Sls w xs ls) (k : Sls w ys ms) : Sls w (xs ++ ys) (ls ++ ms) := by
  induction h with
  | nil => exact k
  | cons hl hn hv _ ih => exact .cons hl hn hv ih
theorem sblks_append (xs ys : List Value) : sblks (xs ++ ys) = sblks xs ++ sblks ys := by
  induction xs with
  | nil => rfl
  | cons x xs ih => simp [sblks, ih]
end

/-! ## a call that writes several blocks of the caller's -/
section
variable {w w' w0 : World}
/-- what has become of each entry; the blocks that were written -/
inductive Rp (B : Nat) (w' : World) : List Ent → List Ent → List Nat → Prop
  | nil : Rp B w' [] [] []
  | same {e : Ent} {L L' : List Ent} {S : List Nat} (r : Rp B w' L L' S) : Rp B w' (e :: L) (e :: L') S
  | chg {e e' : Ent} {L L' : List Ent} {S : List Nat} (hm : e.mut = true) (hok : e'.ok B w') (hm' : e'.mut = true) (hb : e'.blocks = e.blocks) (har : e'.isAr = e.isAr) (hown : e.isAr = false → ∀ b ∈ e.blocks, B ≤ b) (r : Rp B w' L L' S) : Rp B w' (e :: L) (e' :: L') (e.blocks ++ S)

theorem Rp.mem {B : Nat} {L L' : List Ent} {S : List Nat} (h : Rp B w' L L' S) : ∀ f ∈ L', (∃ e ∈ L, f.blocks = e.blocks ∧ f.mut = e.mut ∧ f.isAr = e.isAr) ∧ (f ∈ L ∨ f.ok B w') := by
  induction h with
  | nil => intro f hf; cases hf
  | same r ih =>
    intro f hf
    rcases List.mem_cons.1 hf with rfl | hf
    · exact ⟨⟨_, List.mem_cons_self .., rfl, rfl, rfl⟩, .inl (List.mem_cons_self ..)⟩
    · obtain ⟨⟨e, he, h1⟩, h2⟩ := ih f hf
      exact ⟨⟨e, List.mem_cons_of_mem _ he, h1⟩, h2.imp (List.mem_cons_of_mem _) id⟩
  | chg hm hok hm' hb har hown r ih =>
    intro f hf
    rcases List.mem_cons.1 hf with rfl | hf
    · exact ⟨⟨_, List.mem_cons_self .., hb, hm'.trans hm.symm, har⟩, .inr hok⟩
    · obtain ⟨⟨e, he, h1⟩, h2⟩ := ih f hf
      exact ⟨⟨e, List.mem_cons_of_mem _ he, h1⟩, h2.imp (List.mem_cons_of_mem _) id⟩

theorem Rp.pair {B : Nat} {L L' : List Ent} {S : List Nat} (h : Rp B w' L L' S) (hs : L.Pairwise Sep) : L'.Pairwise Sep := by
  induction h with
  | nil => exact hs
  | same r ih =>
    obtain ⟨h1, h2⟩ := List.pairwise_cons.1 hs
    refine List.pairwise_cons.2 ⟨fun f hf => ?_, ih h2⟩
    obtain ⟨⟨e, he, hb, hm, _⟩, _⟩ := r.mem f hf
    have := h1 e he
    unfold Sep at this ⊢
    rwa [hb, hm]
  | chg hm hok hm' hb har hown r ih =>
    obtain ⟨h1, h2⟩ := List.pairwise_cons.1 hs
    refine List.pairwise_cons.2 ⟨fun f hf => ?_, ih h2⟩
    obtain ⟨⟨e, he, hb', hm2, _⟩, _⟩ := r.mem f hf
    have := h1 e he
    unfold Sep at this ⊢
    rw [hb', hm2, hb]
    exact fun hx => this (hx.imp (fun _ => hm) id)

/-- an entry that stayed is apart from what was written -/
theorem Rp.apart {B : Nat} {L L' : List Ent} {S : List Nat} (h : Rp B w' L L' S) (hs : L.Pairwise Sep) : ∀ f ∈ L', f.ok B w' ∨ (f ∈ L ∧ ∀ b ∈ f.blocks, b ∉ S) := by
  induction h with
  | nil => intro f hf; cases hf
  | @same e L L' S r ih =>
    obtain ⟨h1, h2⟩ := List.pairwise_cons.1 hs
    intro f hf
    rcases List.mem_cons.1 hf with rfl | hf
    · refine .inr ⟨List.mem_cons_self .., fun b hb hbS => ?_⟩
      have key : ∀ {L L' : List Ent} {S : List Nat}, Rp B w' L L' S → (∀ g ∈ L, Sep f g) → b ∈ S → False := by
        intro L L' S r
        induction r with
        | nil => intro _ hb; cases hb
        | same r ih => intro hsep hb; exact ih (fun g hg => hsep g (List.mem_cons_of_mem _ hg)) hb
        | chg hm _ _ _ _ _ r ih =>
          intro hsep hbS
          rcases List.mem_append.1 hbS with hbS | hbS
          · exact hsep _ (List.mem_cons_self ..) (.inr hm) b hb hbS
          · exact ih (fun g hg => hsep g (List.mem_cons_of_mem _ hg)) hbS
      exact key r h1 hbS
    · exact (ih h2 f hf).imp id fun ⟨a, c⟩ => ⟨List.mem_cons_of_mem _ a, c⟩
  | @chg e e' L L' S hm hok hm' hb har hown r ih =>
    obtain ⟨h1, h2⟩ := List.pairwise_cons.1 hs
    intro f hf
    rcases List.mem_cons.1 hf with rfl | hf
    · exact .inl hok
    · refine (ih h2 f hf).imp id fun ⟨a, c⟩ => ⟨List.mem_cons_of_mem _ a, fun b hbf hbS => ?_⟩
      rcases List.mem_append.1 hbS with hbS | hbS
      · exact h1 f a (.inl hm) b hbS hbf
      · exact c b hbf hbS

theorem Rp.blocks {B : Nat} {L L' : List Ent} {S : List Nat} (h : Rp B w' L L' S) : ∀ b ∈ S, B ≤ b ∨ ∃ f ∈ L', f.isAr = true ∧ b ∈ f.blocks := by
  induction h with
  | nil => intro b hb; cases hb
  | same r ih => intro b hb; exact (ih b hb).imp id fun ⟨f, hf, h⟩ => ⟨f, List.mem_cons_of_mem _ hf, h⟩
  | @chg e e' L L' S hm hok hm' hb' har hown r ih =>
    intro b hb
    rcases List.mem_append.1 hb with hb | hb
    · cases hia : e.isAr with
      | true => exact .inr ⟨e', List.mem_cons_self .., har.trans hia, hb' ▸ hb⟩
      | false => exact .inl (hown hia b hb)
    · exact (ih b hb).imp id fun ⟨f, hf, h⟩ => ⟨f, List.mem_cons_of_mem _ hf, h⟩

theorem Rp.ars {B : Nat} {L L' : List Ent} {S : List Nat} (h : Rp B w' L L' S) : ∀ e ∈ L, e.isAr = true → ∃ f ∈ L', f.isAr = true ∧ f.blocks = e.blocks := by
  induction h with
  | nil => intro e he; cases he
  | @same e L L' S r ih =>
    intro x hx ha
    rcases List.mem_cons.1 hx with rfl | hx
    · exact ⟨x, List.mem_cons_self .., ha, rfl⟩
    · obtain ⟨f, hf, h⟩ := ih x hx ha; exact ⟨f, List.mem_cons_of_mem _ hf, h⟩
  | @chg e e' L L' S hm hok hm' hb har hown r ih =>
    intro x hx ha
    rcases List.mem_cons.1 hx with rfl | hx
    · exact ⟨e', List.mem_cons_self .., har.trans ha, hb⟩
    · obtain ⟨f, hf, h⟩ := ih x hx ha; exact ⟨f, List.mem_cons_of_mem _ hf, h⟩

theorem HP.setAll {L L' : List Ent} {S : List Nat} (h : HP w0 w L) (hr : Rp w0.heap.size w' L L' S) (hc : Chg w w' S) : HP w0 w' L' where
  os := hc.os.trans h.os
  tape := hc.tape.trans h.tape
  output := hc.output.trans h.output
  size := Nat.le_trans h.size hc.size
  frame := by
    intro k hk hn
    have hkS : k ∉ S := fun hkS => (hr.blocks k hkS).elim (fun hle => by omega) fun ⟨f, hf, ha, hb⟩ => hn f hf ha hb
    rw [hc.block k (Nat.lt_of_lt_of_le hk h.size) hkS]
    refine h.frame k hk fun e he ha hke => ?_
    obtain ⟨f, hf, ha', hb⟩ := hr.ars e he ha
    exact hn f hf ha' (hb ▸ hke)
  ok := by
    intro f hf
    rcases hr.apart h.sep f hf with hok | ⟨hfL, hS⟩
    · exact hok
    · exact Ent.ok_same (h.ok f hfL) fun b hb => hc.block b (Ent.lt (h.ok f hfL) b hb) (hS b hb)
  sep := hr.pair h.sep
/-- one block of them -/
theorem Rp.blk {B b : Nat} {m : Md} {T : TypeId} {segs segs' : List Sgm} {L L' : List Ent} {S : List Nat} (hmd : mdOk B b m) (hm : m ≠ .ro) (hok : SsOk segs') (hcells : CellsAt w' b T (flat segs')) (r : Rp B w' L L' S) : Rp B w' (.blk b m T segs :: L) (.blk b m T segs' :: L') (b :: S) := by
  refine Rp.chg (by simp [Ent.mut, hm]) ⟨hok, hcells, hmd⟩ (by simp [Ent.mut, hm]) rfl rfl (fun ha b' hb' => ?_) r
  simp only [Ent.blocks, List.mem_singleton] at hb'; subst hb'
  cases m with
  | ro => exact absurd rfl hm
  | ar => simp [Ent.isAr] at ha
  | nw => exact hmd
end
end Go.Vc
