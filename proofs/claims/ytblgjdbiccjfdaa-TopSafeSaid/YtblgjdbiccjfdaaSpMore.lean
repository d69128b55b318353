/- More operations: shifts by what is reckoned, a store into a part of an element, an extern. -/
import Derived.Test.YtblgjdbiccjfdaaSpDraw
import Derived.Laws.Externs
namespace Go.Sp
open Go Go.RowKit
set_option linter.unusedVariables false
section
variable {P : Program} {a : Act} {o : Oper}
theorem run_shl {T T' : TypeId} {x y : Operand} {k k' : IntKind} {m n : Int} (ho : o.op = .binOp .shl T x y T') (hx : a.eval x = .int k m) (hy : a.eval y = .int k' n) (h : ¬ n < 0) (w : World) :
    (execOp a.eval o).run P w = .ok (.value (.int k (k.wrap (m * 2 ^ (min n.toNat k.bits))))) w := by
  simp [execOp, ho, hx, hy, eqGuard, binOp, Op.shift, h]
theorem run_shr {T T' : TypeId} {x y : Operand} {k k' : IntKind} {m n : Int} (ho : o.op = .binOp .shr T x y T') (hx : a.eval x = .int k m) (hy : a.eval y = .int k' n) (h : ¬ n < 0) (w : World) :
    (execOp a.eval o).run P w = .ok (.value (.int k (shr m (min n.toNat k.bits)))) w := by
  simp [execOp, ho, hx, hy, eqGuard, binOp, Op.shift, h, shr]
end
section
variable {t w w' : World} {f g : FM} {H H' : List Seg} {s s' : Seg} {α β : Type} {e : Ty α} {P : Program} {a : Act} {o : Oper} {K : Value → World → Prop}
theorem putCells_put (vs cs0 : List Value) (cs : Array Value) (off fo : Nat) (hl : fo + vs.length ≤ cs0.length) (hb : off + cs0.length ≤ cs.size) (h0 : ∀ j, j < cs0.length → cs[off + j]? = cs0[j]?) :
    putCells cs (off + fo) vs = putCells cs off (cs0.take fo ++ vs ++ cs0.drop (fo + vs.length)) := by
  have hL : (cs0.take fo ++ vs ++ cs0.drop (fo + vs.length)).length = cs0.length := by simp; omega
  rw [putCells_eq _ _ _ (by omega), putCells_eq _ _ _ (by rw [hL]; omega), hL]
  congr 1
  have e1 : cs.toList.take (off + fo) = cs.toList.take off ++ cs0.take fo := by
    apply List.ext_getElem?
    intro j
    rw [List.getElem?_take]
    by_cases hj : j < off
    · rw [if_pos (by omega), List.getElem?_append_left (by simp; omega), List.getElem?_take, if_pos hj]
    · rw [List.getElem?_append_right (by simp; omega)]
      rw [List.length_take, Nat.min_eq_left (by simp; omega), List.getElem?_take]
      by_cases h2 : j < off + fo
      · rw [if_pos h2, if_pos (by omega), Array.getElem?_toList, ← h0 _ (by omega)]
        congr 1; omega
      · rw [if_neg h2, if_neg (by omega)]
  have e2 : cs.toList.drop (off + fo + vs.length) = cs0.drop (fo + vs.length) ++ cs.toList.drop (off + cs0.length) := by
    apply List.ext_getElem?
    intro j
    rw [List.getElem?_drop]
    by_cases hj : j < cs0.length - (fo + vs.length)
    · rw [List.getElem?_append_left (by simp; omega), List.getElem?_drop, Array.getElem?_toList, ← h0 _ (by omega)]
      congr 1; omega
    · rw [List.getElem?_append_right (by simp; omega), List.getElem?_drop, List.length_drop]
      congr 1; omega
  rw [e1, e2]
  simp only [List.append_assoc]
theorem does_putP {T E n : Nat} {x y : Operand} {A : Option Addr} {b off c fo : Nat} {v : Value} {vs cs0 cs1 : List Value} {xs : List α} {u u0 : α} {i : Int} (ho : o.op = .store T x y) (hn : (P.info? T).map (·.size) = some n)
    (hO : Own e E f A c s xs) (hS : St t w f (s :: H)) (hA : A = some ⟨b, off, none⟩) (hx : a.eval x = .pointer (some ⟨b, off + i.toNat * e.sz + fo, none⟩)) (hy : a.eval y = v) (hv : v.cells = vs.toArray) (hvl : vs.length = n)
    (h1v : ∀ q, q ∈ vs → q.oneCell' = true) (h0r : e.rep f cs0 u0) (hcs : cs0.take fo ++ vs ++ cs0.drop (fo + vs.length) = cs1) (hr : e.rep f cs1 u) (hfo : fo + vs.length ≤ e.sz)
    (hc0 : ∀ j, j < e.sz → w.cell? ⟨b, off + i.toNat * e.sz + j, none⟩ = cs0[j]?)
    (h0 : 0 ≤ i) (h1 : i < (xs.length : Int)) (hK : ∀ w' s', St t w' f (s' :: H) → Own e E f A c s' (xs.set i.toNat u) → K undef w') : Does P a w o K := by
  rcases hO with ⟨rfl, _⟩ | ⟨b', arr, rfl, ⟨fr, hz, rfl⟩, h2, h3, h4, h5⟩
  · cases hA
  · injection hA with hA
    injection hA with hA1 hA2
    subst hA1 hA2
    have hil : i.toNat < xs.length := by omega
    have hm : i.toNat * e.sz + e.sz ≤ xs.length * e.sz := by rw [← Nat.succ_mul]; exact Nat.mul_le_mul_right _ hil
    have hm2 : xs.length * e.sz ≤ c * e.sz := Nat.mul_le_mul_right _ h2
    have hl0 := e.len h0r
    have hl1 := e.len hr
    have hcell : ∀ j, j < cs0.length → arr[0 + i.toNat * e.sz + j]? = cs0[j]? := by
      intro j hj
      rw [← hc0 j (by omega), cell_of_row w b' _ arr E fr hS.blk]
    have hput : putCells arr (0 + i.toNat * e.sz + fo) vs = putCells arr (0 + i.toNat * e.sz) cs1 := by
      rw [← hcs]; exact putCells_put vs cs0 arr _ fo (by omega) (by omega) hcell
    refine does_storeF (vs := vs) (cs := arr) (cs' := _) ho hn hx hy hv hvl h1v hz hS (by omega) hput ?_
    intro w' hS'
    refine hK w' _ hS' (.inr ⟨b', _, rfl, ⟨fr, by rw [putCells_size]; exact hz, rfl⟩, by simpa using h2, h3, by rw [putCells_size]; exact h4, ?_⟩)
    rw [putCells_eq _ _ _ (by omega), List.length_set]
    have h6 := h5.set i.toNat hil hr
    have e1 : ((arr.toList.take (0 + i.toNat * e.sz) ++ cs1 ++ arr.toList.drop (0 + i.toNat * e.sz + cs1.length)).toArray.toList.take (xs.length * e.sz)) =
        (arr.toList.take (xs.length * e.sz)).take (i.toNat * e.sz) ++ cs1 ++ (arr.toList.take (xs.length * e.sz)).drop (i.toNat * e.sz + e.sz) := by
      simp only [Nat.zero_add, hl1]
      have l1 : (arr.toList.take (i.toNat * e.sz) ++ cs1).length = i.toNat * e.sz + e.sz := by simp [hl1]; omega
      rw [List.take_append, l1, List.take_of_length_le (by omega)]
      rw [List.take_take, Nat.min_eq_left (by omega), List.drop_take]
    rw [e1]
    exact h6
end
section
variable {P : Program} {a : Act} {w : World} {ops : Array Oper} {Q : Exit → Act → World → Prop} {rest : List Oper}
def stillGet (P : Program) (ops : Array Oper) (n : Nat) (l : List Oper) (a : Act) : Act := (stillOps P ops n l a).getD a
theorem seqL (n : Nat) {l : List Oper} (h : (stillOps P ops n l a).isSome = true) (hk : wpList P ops Q (l.drop n) (stillGet P ops n l a) w) : wpList P ops Q l a w := by
  obtain ⟨a', e⟩ := Option.isSome_iff_exists.mp h
  refine seqS n e ?_
  unfold stillGet at hk
  rw [e] at hk
  exact hk
theorem put_same {a : Act} {i : Nat} {x v : Bool} (e : a.tmps[i]? = some (.bool x)) (hx : x = v) : a = a.put (some i) (.bool v) := by
  subst hx
  obtain ⟨hi, e⟩ := Array.getElem?_eq_some_iff.mp e
  cases a with
  | mk tm d =>
    simp only at e hi
    have h : tm = tm.setIfInBounds i (.bool x) := by
      apply Array.ext
      · simp
      · intro j h1 h2
        rw [Array.getElem_setIfInBounds]
        split
        · rename_i hj; subst hj; exact e
        · rfl
    simp only [Act.put]
    rw [← h]
theorem put_sameS {a : Act} {i m n c : Nat} {A : Option Addr} (e : a.tmps[i]? = some (.slice A m c)) (h : m = n) : a = a.put (some i) (.slice A n c) := by
  subst h
  obtain ⟨hi, e⟩ := Array.getElem?_eq_some_iff.mp e
  cases a with
  | mk tm d =>
    simp only at e hi
    have h : tm = tm.setIfInBounds i (.slice A m c) := by
      apply Array.ext
      · simp
      · intro j h1 h2
        rw [Array.getElem_setIfInBounds]
        split
        · rename_i hj; subst hj; exact e
        · rfl
    simp only [Act.put]
    rw [← h]
theorem seqRwS (i : Nat) {m n c : Nat} {A : Option Addr} {l : List Oper} (e : a.tmps[i]? = some (.slice A m c)) (h : m = n) (hk : wpList P ops Q l (a.put (some i) (.slice A n c)) w) : wpList P ops Q l a w := by rw [put_sameS e h]; exact hk
theorem gateRwS (i : Nat) {m n c : Nat} {A : Option Addr} {md : Region.Mode} {S : Array Bool → World → Prop} {r : Nat} {l : Array Bool} (e : a.tmps[i]? = some (.slice A m c)) (h : m = n) (hk : AnyL P md ops Q S r l (a.put (some i) (.slice A n c)) w) : AnyL P md ops Q S r l a w := by rw [put_sameS e h]; exact hk
theorem seqRwI (i : Nat) {x v : Bool} {l : List Oper} (e : a.tmps[i]? = some (.bool x)) (hx : x = v) (h : wpList P ops Q l (a.put (some i) (.bool v)) w) : wpList P ops Q l a w := by rw [put_same e hx]; exact h
theorem fnRwI {F : Act → World → Prop} (i : Nat) {x v : Bool} (e : a.tmps[i]? = some (.bool x)) (hx : x = v) (h : F (a.put (some i) (.bool v)) w) : F a w := by rw [put_same e hx]; exact h
theorem wpRwI (i : Nat) {x v : Bool} {c : Code} (e : a.tmps[i]? = some (.bool x)) (hx : x = v) (h : c.wp P Q (a.put (some i) (.bool v)) w) : c.wp P Q a w := by rw [put_same e hx]; exact h
theorem gateRwI (i : Nat) {md : Region.Mode} {S : Array Bool → World → Prop} {n : Nat} {l : Array Bool} {x v : Bool} (e : a.tmps[i]? = some (.bool x)) (hx : x = v) (h : AnyL P md ops Q S n l (a.put (some i) (.bool v)) w) : AnyL P md ops Q S n l a w := by rw [put_same e hx]; exact h
theorem seqL1 {o0 : Oper} (h : (stillOps P ops 1 (o0 :: rest) a).isSome = true) (hk : wpList P ops Q rest (stillGet P ops 1 (o0 :: rest) a) w) : wpList P ops Q (o0 :: rest) a w := seqL 1 h hk
theorem seqL2 {o0 o1 : Oper} (h : (stillOps P ops 2 (o0 :: o1 :: rest) a).isSome = true) (hk : wpList P ops Q rest (stillGet P ops 2 (o0 :: o1 :: rest) a) w) : wpList P ops Q (o0 :: o1 :: rest) a w := seqL 2 h hk
theorem seqL3 {o0 o1 o2 : Oper} (h : (stillOps P ops 3 (o0 :: o1 :: o2 :: rest) a).isSome = true) (hk : wpList P ops Q rest (stillGet P ops 3 (o0 :: o1 :: o2 :: rest) a) w) : wpList P ops Q (o0 :: o1 :: o2 :: rest) a w := seqL 3 h hk
theorem seqL4 {o0 o1 o2 o3 : Oper} (h : (stillOps P ops 4 (o0 :: o1 :: o2 :: o3 :: rest) a).isSome = true) (hk : wpList P ops Q rest (stillGet P ops 4 (o0 :: o1 :: o2 :: o3 :: rest) a) w) : wpList P ops Q (o0 :: o1 :: o2 :: o3 :: rest) a w := seqL 4 h hk
theorem seqL5 {o0 o1 o2 o3 o4 : Oper} (h : (stillOps P ops 5 (o0 :: o1 :: o2 :: o3 :: o4 :: rest) a).isSome = true) (hk : wpList P ops Q rest (stillGet P ops 5 (o0 :: o1 :: o2 :: o3 :: o4 :: rest) a) w) : wpList P ops Q (o0 :: o1 :: o2 :: o3 :: o4 :: rest) a w := seqL 5 h hk
theorem seqL6 {o0 o1 o2 o3 o4 o5 : Oper} (h : (stillOps P ops 6 (o0 :: o1 :: o2 :: o3 :: o4 :: o5 :: rest) a).isSome = true) (hk : wpList P ops Q rest (stillGet P ops 6 (o0 :: o1 :: o2 :: o3 :: o4 :: o5 :: rest) a) w) : wpList P ops Q (o0 :: o1 :: o2 :: o3 :: o4 :: o5 :: rest) a w := seqL 6 h hk
theorem seqL7 {o0 o1 o2 o3 o4 o5 o6 : Oper} (h : (stillOps P ops 7 (o0 :: o1 :: o2 :: o3 :: o4 :: o5 :: o6 :: rest) a).isSome = true) (hk : wpList P ops Q rest (stillGet P ops 7 (o0 :: o1 :: o2 :: o3 :: o4 :: o5 :: o6 :: rest) a) w) : wpList P ops Q (o0 :: o1 :: o2 :: o3 :: o4 :: o5 :: o6 :: rest) a w := seqL 7 h hk
theorem seqL8 {o0 o1 o2 o3 o4 o5 o6 o7 : Oper} (h : (stillOps P ops 8 (o0 :: o1 :: o2 :: o3 :: o4 :: o5 :: o6 :: o7 :: rest) a).isSome = true) (hk : wpList P ops Q rest (stillGet P ops 8 (o0 :: o1 :: o2 :: o3 :: o4 :: o5 :: o6 :: o7 :: rest) a) w) : wpList P ops Q (o0 :: o1 :: o2 :: o3 :: o4 :: o5 :: o6 :: o7 :: rest) a w := seqL 8 h hk
theorem seqL9 {o0 o1 o2 o3 o4 o5 o6 o7 o8 : Oper} (h : (stillOps P ops 9 (o0 :: o1 :: o2 :: o3 :: o4 :: o5 :: o6 :: o7 :: o8 :: rest) a).isSome = true) (hk : wpList P ops Q rest (stillGet P ops 9 (o0 :: o1 :: o2 :: o3 :: o4 :: o5 :: o6 :: o7 :: o8 :: rest) a) w) : wpList P ops Q (o0 :: o1 :: o2 :: o3 :: o4 :: o5 :: o6 :: o7 :: o8 :: rest) a w := seqL 9 h hk
theorem seqL10 {o0 o1 o2 o3 o4 o5 o6 o7 o8 o9 : Oper} (h : (stillOps P ops 10 (o0 :: o1 :: o2 :: o3 :: o4 :: o5 :: o6 :: o7 :: o8 :: o9 :: rest) a).isSome = true) (hk : wpList P ops Q rest (stillGet P ops 10 (o0 :: o1 :: o2 :: o3 :: o4 :: o5 :: o6 :: o7 :: o8 :: o9 :: rest) a) w) : wpList P ops Q (o0 :: o1 :: o2 :: o3 :: o4 :: o5 :: o6 :: o7 :: o8 :: o9 :: rest) a w := seqL 10 h hk
theorem seqL11 {o0 o1 o2 o3 o4 o5 o6 o7 o8 o9 o10 : Oper} (h : (stillOps P ops 11 (o0 :: o1 :: o2 :: o3 :: o4 :: o5 :: o6 :: o7 :: o8 :: o9 :: o10 :: rest) a).isSome = true) (hk : wpList P ops Q rest (stillGet P ops 11 (o0 :: o1 :: o2 :: o3 :: o4 :: o5 :: o6 :: o7 :: o8 :: o9 :: o10 :: rest) a) w) : wpList P ops Q (o0 :: o1 :: o2 :: o3 :: o4 :: o5 :: o6 :: o7 :: o8 :: o9 :: o10 :: rest) a w := seqL 11 h hk
theorem seqL12 {o0 o1 o2 o3 o4 o5 o6 o7 o8 o9 o10 o11 : Oper} (h : (stillOps P ops 12 (o0 :: o1 :: o2 :: o3 :: o4 :: o5 :: o6 :: o7 :: o8 :: o9 :: o10 :: o11 :: rest) a).isSome = true) (hk : wpList P ops Q rest (stillGet P ops 12 (o0 :: o1 :: o2 :: o3 :: o4 :: o5 :: o6 :: o7 :: o8 :: o9 :: o10 :: o11 :: rest) a) w) : wpList P ops Q (o0 :: o1 :: o2 :: o3 :: o4 :: o5 :: o6 :: o7 :: o8 :: o9 :: o10 :: o11 :: rest) a w := seqL 12 h hk
theorem seqL13 {o0 o1 o2 o3 o4 o5 o6 o7 o8 o9 o10 o11 o12 : Oper} (h : (stillOps P ops 13 (o0 :: o1 :: o2 :: o3 :: o4 :: o5 :: o6 :: o7 :: o8 :: o9 :: o10 :: o11 :: o12 :: rest) a).isSome = true) (hk : wpList P ops Q rest (stillGet P ops 13 (o0 :: o1 :: o2 :: o3 :: o4 :: o5 :: o6 :: o7 :: o8 :: o9 :: o10 :: o11 :: o12 :: rest) a) w) : wpList P ops Q (o0 :: o1 :: o2 :: o3 :: o4 :: o5 :: o6 :: o7 :: o8 :: o9 :: o10 :: o11 :: o12 :: rest) a w := seqL 13 h hk
theorem seqL14 {o0 o1 o2 o3 o4 o5 o6 o7 o8 o9 o10 o11 o12 o13 : Oper} (h : (stillOps P ops 14 (o0 :: o1 :: o2 :: o3 :: o4 :: o5 :: o6 :: o7 :: o8 :: o9 :: o10 :: o11 :: o12 :: o13 :: rest) a).isSome = true) (hk : wpList P ops Q rest (stillGet P ops 14 (o0 :: o1 :: o2 :: o3 :: o4 :: o5 :: o6 :: o7 :: o8 :: o9 :: o10 :: o11 :: o12 :: o13 :: rest) a) w) : wpList P ops Q (o0 :: o1 :: o2 :: o3 :: o4 :: o5 :: o6 :: o7 :: o8 :: o9 :: o10 :: o11 :: o12 :: o13 :: rest) a w := seqL 14 h hk
theorem seqL15 {o0 o1 o2 o3 o4 o5 o6 o7 o8 o9 o10 o11 o12 o13 o14 : Oper} (h : (stillOps P ops 15 (o0 :: o1 :: o2 :: o3 :: o4 :: o5 :: o6 :: o7 :: o8 :: o9 :: o10 :: o11 :: o12 :: o13 :: o14 :: rest) a).isSome = true) (hk : wpList P ops Q rest (stillGet P ops 15 (o0 :: o1 :: o2 :: o3 :: o4 :: o5 :: o6 :: o7 :: o8 :: o9 :: o10 :: o11 :: o12 :: o13 :: o14 :: rest) a) w) : wpList P ops Q (o0 :: o1 :: o2 :: o3 :: o4 :: o5 :: o6 :: o7 :: o8 :: o9 :: o10 :: o11 :: o12 :: o13 :: o14 :: rest) a w := seqL 15 h hk
theorem seqL16 {o0 o1 o2 o3 o4 o5 o6 o7 o8 o9 o10 o11 o12 o13 o14 o15 : Oper} (h : (stillOps P ops 16 (o0 :: o1 :: o2 :: o3 :: o4 :: o5 :: o6 :: o7 :: o8 :: o9 :: o10 :: o11 :: o12 :: o13 :: o14 :: o15 :: rest) a).isSome = true) (hk : wpList P ops Q rest (stillGet P ops 16 (o0 :: o1 :: o2 :: o3 :: o4 :: o5 :: o6 :: o7 :: o8 :: o9 :: o10 :: o11 :: o12 :: o13 :: o14 :: o15 :: rest) a) w) : wpList P ops Q (o0 :: o1 :: o2 :: o3 :: o4 :: o5 :: o6 :: o7 :: o8 :: o9 :: o10 :: o11 :: o12 :: o13 :: o14 :: o15 :: rest) a w := seqL 16 h hk
theorem seqL17 {o0 o1 o2 o3 o4 o5 o6 o7 o8 o9 o10 o11 o12 o13 o14 o15 o16 : Oper} (h : (stillOps P ops 17 (o0 :: o1 :: o2 :: o3 :: o4 :: o5 :: o6 :: o7 :: o8 :: o9 :: o10 :: o11 :: o12 :: o13 :: o14 :: o15 :: o16 :: rest) a).isSome = true) (hk : wpList P ops Q rest (stillGet P ops 17 (o0 :: o1 :: o2 :: o3 :: o4 :: o5 :: o6 :: o7 :: o8 :: o9 :: o10 :: o11 :: o12 :: o13 :: o14 :: o15 :: o16 :: rest) a) w) : wpList P ops Q (o0 :: o1 :: o2 :: o3 :: o4 :: o5 :: o6 :: o7 :: o8 :: o9 :: o10 :: o11 :: o12 :: o13 :: o14 :: o15 :: o16 :: rest) a w := seqL 17 h hk
theorem seqL18 {o0 o1 o2 o3 o4 o5 o6 o7 o8 o9 o10 o11 o12 o13 o14 o15 o16 o17 : Oper} (h : (stillOps P ops 18 (o0 :: o1 :: o2 :: o3 :: o4 :: o5 :: o6 :: o7 :: o8 :: o9 :: o10 :: o11 :: o12 :: o13 :: o14 :: o15 :: o16 :: o17 :: rest) a).isSome = true) (hk : wpList P ops Q rest (stillGet P ops 18 (o0 :: o1 :: o2 :: o3 :: o4 :: o5 :: o6 :: o7 :: o8 :: o9 :: o10 :: o11 :: o12 :: o13 :: o14 :: o15 :: o16 :: o17 :: rest) a) w) : wpList P ops Q (o0 :: o1 :: o2 :: o3 :: o4 :: o5 :: o6 :: o7 :: o8 :: o9 :: o10 :: o11 :: o12 :: o13 :: o14 :: o15 :: o16 :: o17 :: rest) a w := seqL 18 h hk
theorem seqL19 {o0 o1 o2 o3 o4 o5 o6 o7 o8 o9 o10 o11 o12 o13 o14 o15 o16 o17 o18 : Oper} (h : (stillOps P ops 19 (o0 :: o1 :: o2 :: o3 :: o4 :: o5 :: o6 :: o7 :: o8 :: o9 :: o10 :: o11 :: o12 :: o13 :: o14 :: o15 :: o16 :: o17 :: o18 :: rest) a).isSome = true) (hk : wpList P ops Q rest (stillGet P ops 19 (o0 :: o1 :: o2 :: o3 :: o4 :: o5 :: o6 :: o7 :: o8 :: o9 :: o10 :: o11 :: o12 :: o13 :: o14 :: o15 :: o16 :: o17 :: o18 :: rest) a) w) : wpList P ops Q (o0 :: o1 :: o2 :: o3 :: o4 :: o5 :: o6 :: o7 :: o8 :: o9 :: o10 :: o11 :: o12 :: o13 :: o14 :: o15 :: o16 :: o17 :: o18 :: rest) a w := seqL 19 h hk
theorem seqL20 {o0 o1 o2 o3 o4 o5 o6 o7 o8 o9 o10 o11 o12 o13 o14 o15 o16 o17 o18 o19 : Oper} (h : (stillOps P ops 20 (o0 :: o1 :: o2 :: o3 :: o4 :: o5 :: o6 :: o7 :: o8 :: o9 :: o10 :: o11 :: o12 :: o13 :: o14 :: o15 :: o16 :: o17 :: o18 :: o19 :: rest) a).isSome = true) (hk : wpList P ops Q rest (stillGet P ops 20 (o0 :: o1 :: o2 :: o3 :: o4 :: o5 :: o6 :: o7 :: o8 :: o9 :: o10 :: o11 :: o12 :: o13 :: o14 :: o15 :: o16 :: o17 :: o18 :: o19 :: rest) a) w) : wpList P ops Q (o0 :: o1 :: o2 :: o3 :: o4 :: o5 :: o6 :: o7 :: o8 :: o9 :: o10 :: o11 :: o12 :: o13 :: o14 :: o15 :: o16 :: o17 :: o18 :: o19 :: rest) a w := seqL 20 h hk
theorem seqL21 {o0 o1 o2 o3 o4 o5 o6 o7 o8 o9 o10 o11 o12 o13 o14 o15 o16 o17 o18 o19 o20 : Oper} (h : (stillOps P ops 21 (o0 :: o1 :: o2 :: o3 :: o4 :: o5 :: o6 :: o7 :: o8 :: o9 :: o10 :: o11 :: o12 :: o13 :: o14 :: o15 :: o16 :: o17 :: o18 :: o19 :: o20 :: rest) a).isSome = true) (hk : wpList P ops Q rest (stillGet P ops 21 (o0 :: o1 :: o2 :: o3 :: o4 :: o5 :: o6 :: o7 :: o8 :: o9 :: o10 :: o11 :: o12 :: o13 :: o14 :: o15 :: o16 :: o17 :: o18 :: o19 :: o20 :: rest) a) w) : wpList P ops Q (o0 :: o1 :: o2 :: o3 :: o4 :: o5 :: o6 :: o7 :: o8 :: o9 :: o10 :: o11 :: o12 :: o13 :: o14 :: o15 :: o16 :: o17 :: o18 :: o19 :: o20 :: rest) a w := seqL 21 h hk
theorem seqL23 {o0 o1 o2 o3 o4 o5 o6 o7 o8 o9 o10 o11 o12 o13 o14 o15 o16 o17 o18 o19 o20 o21 o22 : Oper} (h : (stillOps P ops 23 (o0 :: o1 :: o2 :: o3 :: o4 :: o5 :: o6 :: o7 :: o8 :: o9 :: o10 :: o11 :: o12 :: o13 :: o14 :: o15 :: o16 :: o17 :: o18 :: o19 :: o20 :: o21 :: o22 :: rest) a).isSome = true) (hk : wpList P ops Q rest (stillGet P ops 23 (o0 :: o1 :: o2 :: o3 :: o4 :: o5 :: o6 :: o7 :: o8 :: o9 :: o10 :: o11 :: o12 :: o13 :: o14 :: o15 :: o16 :: o17 :: o18 :: o19 :: o20 :: o21 :: o22 :: rest) a) w) : wpList P ops Q (o0 :: o1 :: o2 :: o3 :: o4 :: o5 :: o6 :: o7 :: o8 :: o9 :: o10 :: o11 :: o12 :: o13 :: o14 :: o15 :: o16 :: o17 :: o18 :: o19 :: o20 :: o21 :: o22 :: rest) a w := seqL 23 h hk
theorem seqL24 {o0 o1 o2 o3 o4 o5 o6 o7 o8 o9 o10 o11 o12 o13 o14 o15 o16 o17 o18 o19 o20 o21 o22 o23 : Oper} (h : (stillOps P ops 24 (o0 :: o1 :: o2 :: o3 :: o4 :: o5 :: o6 :: o7 :: o8 :: o9 :: o10 :: o11 :: o12 :: o13 :: o14 :: o15 :: o16 :: o17 :: o18 :: o19 :: o20 :: o21 :: o22 :: o23 :: rest) a).isSome = true) (hk : wpList P ops Q rest (stillGet P ops 24 (o0 :: o1 :: o2 :: o3 :: o4 :: o5 :: o6 :: o7 :: o8 :: o9 :: o10 :: o11 :: o12 :: o13 :: o14 :: o15 :: o16 :: o17 :: o18 :: o19 :: o20 :: o21 :: o22 :: o23 :: rest) a) w) : wpList P ops Q (o0 :: o1 :: o2 :: o3 :: o4 :: o5 :: o6 :: o7 :: o8 :: o9 :: o10 :: o11 :: o12 :: o13 :: o14 :: o15 :: o16 :: o17 :: o18 :: o19 :: o20 :: o21 :: o22 :: o23 :: rest) a w := seqL 24 h hk
theorem seqL26 {o0 o1 o2 o3 o4 o5 o6 o7 o8 o9 o10 o11 o12 o13 o14 o15 o16 o17 o18 o19 o20 o21 o22 o23 o24 o25 : Oper} (h : (stillOps P ops 26 (o0 :: o1 :: o2 :: o3 :: o4 :: o5 :: o6 :: o7 :: o8 :: o9 :: o10 :: o11 :: o12 :: o13 :: o14 :: o15 :: o16 :: o17 :: o18 :: o19 :: o20 :: o21 :: o22 :: o23 :: o24 :: o25 :: rest) a).isSome = true) (hk : wpList P ops Q rest (stillGet P ops 26 (o0 :: o1 :: o2 :: o3 :: o4 :: o5 :: o6 :: o7 :: o8 :: o9 :: o10 :: o11 :: o12 :: o13 :: o14 :: o15 :: o16 :: o17 :: o18 :: o19 :: o20 :: o21 :: o22 :: o23 :: o24 :: o25 :: rest) a) w) : wpList P ops Q (o0 :: o1 :: o2 :: o3 :: o4 :: o5 :: o6 :: o7 :: o8 :: o9 :: o10 :: o11 :: o12 :: o13 :: o14 :: o15 :: o16 :: o17 :: o18 :: o19 :: o20 :: o21 :: o22 :: o23 :: o24 :: o25 :: rest) a w := seqL 26 h hk
theorem seqL29 {o0 o1 o2 o3 o4 o5 o6 o7 o8 o9 o10 o11 o12 o13 o14 o15 o16 o17 o18 o19 o20 o21 o22 o23 o24 o25 o26 o27 o28 : Oper} (h : (stillOps P ops 29 (o0 :: o1 :: o2 :: o3 :: o4 :: o5 :: o6 :: o7 :: o8 :: o9 :: o10 :: o11 :: o12 :: o13 :: o14 :: o15 :: o16 :: o17 :: o18 :: o19 :: o20 :: o21 :: o22 :: o23 :: o24 :: o25 :: o26 :: o27 :: o28 :: rest) a).isSome = true) (hk : wpList P ops Q rest (stillGet P ops 29 (o0 :: o1 :: o2 :: o3 :: o4 :: o5 :: o6 :: o7 :: o8 :: o9 :: o10 :: o11 :: o12 :: o13 :: o14 :: o15 :: o16 :: o17 :: o18 :: o19 :: o20 :: o21 :: o22 :: o23 :: o24 :: o25 :: o26 :: o27 :: o28 :: rest) a) w) : wpList P ops Q (o0 :: o1 :: o2 :: o3 :: o4 :: o5 :: o6 :: o7 :: o8 :: o9 :: o10 :: o11 :: o12 :: o13 :: o14 :: o15 :: o16 :: o17 :: o18 :: o19 :: o20 :: o21 :: o22 :: o23 :: o24 :: o25 :: o26 :: o27 :: o28 :: rest) a w := seqL 29 h hk
theorem seqL30 {o0 o1 o2 o3 o4 o5 o6 o7 o8 o9 o10 o11 o12 o13 o14 o15 o16 o17 o18 o19 o20 o21 o22 o23 o24 o25 o26 o27 o28 o29 : Oper} (h : (stillOps P ops 30 (o0 :: o1 :: o2 :: o3 :: o4 :: o5 :: o6 :: o7 :: o8 :: o9 :: o10 :: o11 :: o12 :: o13 :: o14 :: o15 :: o16 :: o17 :: o18 :: o19 :: o20 :: o21 :: o22 :: o23 :: o24 :: o25 :: o26 :: o27 :: o28 :: o29 :: rest) a).isSome = true) (hk : wpList P ops Q rest (stillGet P ops 30 (o0 :: o1 :: o2 :: o3 :: o4 :: o5 :: o6 :: o7 :: o8 :: o9 :: o10 :: o11 :: o12 :: o13 :: o14 :: o15 :: o16 :: o17 :: o18 :: o19 :: o20 :: o21 :: o22 :: o23 :: o24 :: o25 :: o26 :: o27 :: o28 :: o29 :: rest) a) w) : wpList P ops Q (o0 :: o1 :: o2 :: o3 :: o4 :: o5 :: o6 :: o7 :: o8 :: o9 :: o10 :: o11 :: o12 :: o13 :: o14 :: o15 :: o16 :: o17 :: o18 :: o19 :: o20 :: o21 :: o22 :: o23 :: o24 :: o25 :: o26 :: o27 :: o28 :: o29 :: rest) a w := seqL 30 h hk
end
end Go.Sp
