/- More operations: shifts by what is reckoned, a store into a part of an element, an extern. -/
import Derived.Test.YtjnehahcpeiheaaGreatDoorSpDraw
import Derived.Laws.Externs
namespace Go.Sp
open Go Go.RowKit
set_option linter.unusedVariables false
section
variable {P : Program} {a : Act} {o : Oper}
theorem run_shl {T T' : TypeId} {x y : Operand} {k k' : IntKind} {m n : Int} (ho : o.op = .binOp .shl T x y T') (hx : a.eval x = .int k m) (hy : a.eval y = .int k' n) (h : ¬ n < 0) (w : World) :
    (execOp a.eval o).run P w = .ok (.value (.int k (k.wrap (m * 2 ^ (min n.toNat k.bits))))) w := by
  simp [execOp, ho, hx, hy, eqGuard, binOp, Op.shift, h]
theorem run_add64op {f : FuncId} {fn : Func} {x y c : Int} (ho : execOp a.eval o = callFunc f #[.int .u64 x, .int .u64 y, .int .u64 c]) (hf : P.funcs[f]? = some fn) (h1 : (fn.name == "runtime.NumGoroutine") = false)
    (h2 : fn.body.isNone = true) (h3 : Extern.findNext fn = none) (h4 : Extern.find fn = some add64Entry) (hx : 0 ≤ x) (hy : 0 ≤ y) (hc0 : 0 ≤ c) (hc : c ≤ 1) (w : World) :
    (execOp a.eval o).run P w = .ok (.value (.tuple #[.int .u64 ((x + y + c) % 18446744073709551616), .int .u64 ((x + y + c) / 18446744073709551616)])) w := by
  rw [ho, run_callFunc_extern hf h1 h2 h3 h4, run_add64 x y c hx hy hc0 hc]
  rfl
end
section
variable {t w w' : World} {f g : FM} {H H' : List Seg} {s s' : Seg} {α β : Type} {e : Ty α} {P : Program} {a : Act} {o : Oper} {K : Value → World → Prop}
end
section
variable {P : Program} {a : Act} {w : World} {ops : Array Oper} {Q : Exit → Act → World → Prop} {rest : List Oper}
def stillGet (P : Program) (ops : Array Oper) (n : Nat) (l : List Oper) (a : Act) : Act := (stillOps P ops n l a).getD a
theorem seqL (n : Nat) {l : List Oper} (h : (stillOps P ops n l a).isSome = true) (hk : wpList P ops Q (l.drop n) (stillGet P ops n l a) w) : wpList P ops Q l a w := by
  obtain ⟨a', e⟩ := Option.isSome_iff_exists.mp h
  refine seqS n e ?_
  unfold stillGet at hk
  rw [e] at hk
  exact hk
theorem put_same {a : Act} {i : Nat} {x v : Bool} (e : a.tmps[i]? = some (.bool x)) (hx : x = v) : a = a.put (some i) (.bool v) := by
  subst hx
  obtain ⟨hi, e⟩ := Array.getElem?_eq_some_iff.mp e
  cases a with
  | mk tm d =>
    simp only at e hi
    have h : tm = tm.setIfInBounds i (.bool x) := by
      apply Array.ext
      · simp
      · intro j h1 h2
        rw [Array.getElem_setIfInBounds]
        split
        · rename_i hj; subst hj; exact e
        · rfl
    simp only [Act.put]
    rw [← h]
theorem put_sameS {a : Act} {i m n c : Nat} {A : Option Addr} (e : a.tmps[i]? = some (.slice A m c)) (h : m = n) : a = a.put (some i) (.slice A n c) := by
  subst h
  obtain ⟨hi, e⟩ := Array.getElem?_eq_some_iff.mp e
  cases a with
  | mk tm d =>
    simp only at e hi
    have h : tm = tm.setIfInBounds i (.slice A m c) := by
      apply Array.ext
      · simp
      · intro j h1 h2
        rw [Array.getElem_setIfInBounds]
        split
        · rename_i hj; subst hj; exact e
        · rfl
    simp only [Act.put]
    rw [← h]
theorem seqRwS (i : Nat) {m n c : Nat} {A : Option Addr} {l : List Oper} (e : a.tmps[i]? = some (.slice A m c)) (h : m = n) (hk : wpList P ops Q l (a.put (some i) (.slice A n c)) w) : wpList P ops Q l a w := by rw [put_sameS e h]; exact hk
theorem seqRwI (i : Nat) {x v : Bool} {l : List Oper} (e : a.tmps[i]? = some (.bool x)) (hx : x = v) (h : wpList P ops Q l (a.put (some i) (.bool v)) w) : wpList P ops Q l a w := by rw [put_same e hx]; exact h
theorem fnRwI {F : Act → World → Prop} (i : Nat) {x v : Bool} (e : a.tmps[i]? = some (.bool x)) (hx : x = v) (h : F (a.put (some i) (.bool v)) w) : F a w := by rw [put_same e hx]; exact h
theorem wpRwI (i : Nat) {x v : Bool} {c : Code} (e : a.tmps[i]? = some (.bool x)) (hx : x = v) (h : c.wp P Q (a.put (some i) (.bool v)) w) : c.wp P Q a w := by rw [put_same e hx]; exact h
theorem gateRwI (i : Nat) {md : Region.Mode} {S : Array Bool → World → Prop} {n : Nat} {l : Array Bool} {x v : Bool} (e : a.tmps[i]? = some (.bool x)) (hx : x = v) (h : AnyL P md ops Q S n l (a.put (some i) (.bool v)) w) : AnyL P md ops Q S n l a w := by rw [put_same e hx]; exact h
theorem seqL1 {o0 : Oper} (h : (stillOps P ops 1 (o0 :: rest) a).isSome = true) (hk : wpList P ops Q rest (stillGet P ops 1 (o0 :: rest) a) w) : wpList P ops Q (o0 :: rest) a w := seqL 1 h hk
theorem seqL2 {o0 o1 : Oper} (h : (stillOps P ops 2 (o0 :: o1 :: rest) a).isSome = true) (hk : wpList P ops Q rest (stillGet P ops 2 (o0 :: o1 :: rest) a) w) : wpList P ops Q (o0 :: o1 :: rest) a w := seqL 2 h hk
theorem seqL3 {o0 o1 o2 : Oper} (h : (stillOps P ops 3 (o0 :: o1 :: o2 :: rest) a).isSome = true) (hk : wpList P ops Q rest (stillGet P ops 3 (o0 :: o1 :: o2 :: rest) a) w) : wpList P ops Q (o0 :: o1 :: o2 :: rest) a w := seqL 3 h hk
theorem seqL4 {o0 o1 o2 o3 : Oper} (h : (stillOps P ops 4 (o0 :: o1 :: o2 :: o3 :: rest) a).isSome = true) (hk : wpList P ops Q rest (stillGet P ops 4 (o0 :: o1 :: o2 :: o3 :: rest) a) w) : wpList P ops Q (o0 :: o1 :: o2 :: o3 :: rest) a w := seqL 4 h hk
theorem seqL5 {o0 o1 o2 o3 o4 : Oper} (h : (stillOps P ops 5 (o0 :: o1 :: o2 :: o3 :: o4 :: rest) a).isSome = true) (hk : wpList P ops Q rest (stillGet P ops 5 (o0 :: o1 :: o2 :: o3 :: o4 :: rest) a) w) : wpList P ops Q (o0 :: o1 :: o2 :: o3 :: o4 :: rest) a w := seqL 5 h hk
theorem seqL6 {o0 o1 o2 o3 o4 o5 : Oper} (h : (stillOps P ops 6 (o0 :: o1 :: o2 :: o3 :: o4 :: o5 :: rest) a).isSome = true) (hk : wpList P ops Q rest (stillGet P ops 6 (o0 :: o1 :: o2 :: o3 :: o4 :: o5 :: rest) a) w) : wpList P ops Q (o0 :: o1 :: o2 :: o3 :: o4 :: o5 :: rest) a w := seqL 6 h hk
theorem seqL7 {o0 o1 o2 o3 o4 o5 o6 : Oper} (h : (stillOps P ops 7 (o0 :: o1 :: o2 :: o3 :: o4 :: o5 :: o6 :: rest) a).isSome = true) (hk : wpList P ops Q rest (stillGet P ops 7 (o0 :: o1 :: o2 :: o3 :: o4 :: o5 :: o6 :: rest) a) w) : wpList P ops Q (o0 :: o1 :: o2 :: o3 :: o4 :: o5 :: o6 :: rest) a w := seqL 7 h hk
theorem seqL8 {o0 o1 o2 o3 o4 o5 o6 o7 : Oper} (h : (stillOps P ops 8 (o0 :: o1 :: o2 :: o3 :: o4 :: o5 :: o6 :: o7 :: rest) a).isSome = true) (hk : wpList P ops Q rest (stillGet P ops 8 (o0 :: o1 :: o2 :: o3 :: o4 :: o5 :: o6 :: o7 :: rest) a) w) : wpList P ops Q (o0 :: o1 :: o2 :: o3 :: o4 :: o5 :: o6 :: o7 :: rest) a w := seqL 8 h hk
theorem seqL9 {o0 o1 o2 o3 o4 o5 o6 o7 o8 : Oper} (h : (stillOps P ops 9 (o0 :: o1 :: o2 :: o3 :: o4 :: o5 :: o6 :: o7 :: o8 :: rest) a).isSome = true) (hk : wpList P ops Q rest (stillGet P ops 9 (o0 :: o1 :: o2 :: o3 :: o4 :: o5 :: o6 :: o7 :: o8 :: rest) a) w) : wpList P ops Q (o0 :: o1 :: o2 :: o3 :: o4 :: o5 :: o6 :: o7 :: o8 :: rest) a w := seqL 9 h hk
theorem seqL11 {o0 o1 o2 o3 o4 o5 o6 o7 o8 o9 o10 : Oper} (h : (stillOps P ops 11 (o0 :: o1 :: o2 :: o3 :: o4 :: o5 :: o6 :: o7 :: o8 :: o9 :: o10 :: rest) a).isSome = true) (hk : wpList P ops Q rest (stillGet P ops 11 (o0 :: o1 :: o2 :: o3 :: o4 :: o5 :: o6 :: o7 :: o8 :: o9 :: o10 :: rest) a) w) : wpList P ops Q (o0 :: o1 :: o2 :: o3 :: o4 :: o5 :: o6 :: o7 :: o8 :: o9 :: o10 :: rest) a w := seqL 11 h hk
theorem seqL12 {o0 o1 o2 o3 o4 o5 o6 o7 o8 o9 o10 o11 : Oper} (h : (stillOps P ops 12 (o0 :: o1 :: o2 :: o3 :: o4 :: o5 :: o6 :: o7 :: o8 :: o9 :: o10 :: o11 :: rest) a).isSome = true) (hk : wpList P ops Q rest (stillGet P ops 12 (o0 :: o1 :: o2 :: o3 :: o4 :: o5 :: o6 :: o7 :: o8 :: o9 :: o10 :: o11 :: rest) a) w) : wpList P ops Q (o0 :: o1 :: o2 :: o3 :: o4 :: o5 :: o6 :: o7 :: o8 :: o9 :: o10 :: o11 :: rest) a w := seqL 12 h hk
theorem seqL13 {o0 o1 o2 o3 o4 o5 o6 o7 o8 o9 o10 o11 o12 : Oper} (h : (stillOps P ops 13 (o0 :: o1 :: o2 :: o3 :: o4 :: o5 :: o6 :: o7 :: o8 :: o9 :: o10 :: o11 :: o12 :: rest) a).isSome = true) (hk : wpList P ops Q rest (stillGet P ops 13 (o0 :: o1 :: o2 :: o3 :: o4 :: o5 :: o6 :: o7 :: o8 :: o9 :: o10 :: o11 :: o12 :: rest) a) w) : wpList P ops Q (o0 :: o1 :: o2 :: o3 :: o4 :: o5 :: o6 :: o7 :: o8 :: o9 :: o10 :: o11 :: o12 :: rest) a w := seqL 13 h hk
theorem seqL14 {o0 o1 o2 o3 o4 o5 o6 o7 o8 o9 o10 o11 o12 o13 : Oper} (h : (stillOps P ops 14 (o0 :: o1 :: o2 :: o3 :: o4 :: o5 :: o6 :: o7 :: o8 :: o9 :: o10 :: o11 :: o12 :: o13 :: rest) a).isSome = true) (hk : wpList P ops Q rest (stillGet P ops 14 (o0 :: o1 :: o2 :: o3 :: o4 :: o5 :: o6 :: o7 :: o8 :: o9 :: o10 :: o11 :: o12 :: o13 :: rest) a) w) : wpList P ops Q (o0 :: o1 :: o2 :: o3 :: o4 :: o5 :: o6 :: o7 :: o8 :: o9 :: o10 :: o11 :: o12 :: o13 :: rest) a w := seqL 14 h hk
theorem seqL16 {o0 o1 o2 o3 o4 o5 o6 o7 o8 o9 o10 o11 o12 o13 o14 o15 : Oper} (h : (stillOps P ops 16 (o0 :: o1 :: o2 :: o3 :: o4 :: o5 :: o6 :: o7 :: o8 :: o9 :: o10 :: o11 :: o12 :: o13 :: o14 :: o15 :: rest) a).isSome = true) (hk : wpList P ops Q rest (stillGet P ops 16 (o0 :: o1 :: o2 :: o3 :: o4 :: o5 :: o6 :: o7 :: o8 :: o9 :: o10 :: o11 :: o12 :: o13 :: o14 :: o15 :: rest) a) w) : wpList P ops Q (o0 :: o1 :: o2 :: o3 :: o4 :: o5 :: o6 :: o7 :: o8 :: o9 :: o10 :: o11 :: o12 :: o13 :: o14 :: o15 :: rest) a w := seqL 16 h hk
theorem seqL17 {o0 o1 o2 o3 o4 o5 o6 o7 o8 o9 o10 o11 o12 o13 o14 o15 o16 : Oper} (h : (stillOps P ops 17 (o0 :: o1 :: o2 :: o3 :: o4 :: o5 :: o6 :: o7 :: o8 :: o9 :: o10 :: o11 :: o12 :: o13 :: o14 :: o15 :: o16 :: rest) a).isSome = true) (hk : wpList P ops Q rest (stillGet P ops 17 (o0 :: o1 :: o2 :: o3 :: o4 :: o5 :: o6 :: o7 :: o8 :: o9 :: o10 :: o11 :: o12 :: o13 :: o14 :: o15 :: o16 :: rest) a) w) : wpList P ops Q (o0 :: o1 :: o2 :: o3 :: o4 :: o5 :: o6 :: o7 :: o8 :: o9 :: o10 :: o11 :: o12 :: o13 :: o14 :: o15 :: o16 :: rest) a w := seqL 17 h hk
theorem seqL18 {o0 o1 o2 o3 o4 o5 o6 o7 o8 o9 o10 o11 o12 o13 o14 o15 o16 o17 : Oper} (h : (stillOps P ops 18 (o0 :: o1 :: o2 :: o3 :: o4 :: o5 :: o6 :: o7 :: o8 :: o9 :: o10 :: o11 :: o12 :: o13 :: o14 :: o15 :: o16 :: o17 :: rest) a).isSome = true) (hk : wpList P ops Q rest (stillGet P ops 18 (o0 :: o1 :: o2 :: o3 :: o4 :: o5 :: o6 :: o7 :: o8 :: o9 :: o10 :: o11 :: o12 :: o13 :: o14 :: o15 :: o16 :: o17 :: rest) a) w) : wpList P ops Q (o0 :: o1 :: o2 :: o3 :: o4 :: o5 :: o6 :: o7 :: o8 :: o9 :: o10 :: o11 :: o12 :: o13 :: o14 :: o15 :: o16 :: o17 :: rest) a w := seqL 18 h hk
theorem seqL20 {o0 o1 o2 o3 o4 o5 o6 o7 o8 o9 o10 o11 o12 o13 o14 o15 o16 o17 o18 o19 : Oper} (h : (stillOps P ops 20 (o0 :: o1 :: o2 :: o3 :: o4 :: o5 :: o6 :: o7 :: o8 :: o9 :: o10 :: o11 :: o12 :: o13 :: o14 :: o15 :: o16 :: o17 :: o18 :: o19 :: rest) a).isSome = true) (hk : wpList P ops Q rest (stillGet P ops 20 (o0 :: o1 :: o2 :: o3 :: o4 :: o5 :: o6 :: o7 :: o8 :: o9 :: o10 :: o11 :: o12 :: o13 :: o14 :: o15 :: o16 :: o17 :: o18 :: o19 :: rest) a) w) : wpList P ops Q (o0 :: o1 :: o2 :: o3 :: o4 :: o5 :: o6 :: o7 :: o8 :: o9 :: o10 :: o11 :: o12 :: o13 :: o14 :: o15 :: o16 :: o17 :: o18 :: o19 :: rest) a w := seqL 20 h hk
theorem seqL24 {o0 o1 o2 o3 o4 o5 o6 o7 o8 o9 o10 o11 o12 o13 o14 o15 o16 o17 o18 o19 o20 o21 o22 o23 : Oper} (h : (stillOps P ops 24 (o0 :: o1 :: o2 :: o3 :: o4 :: o5 :: o6 :: o7 :: o8 :: o9 :: o10 :: o11 :: o12 :: o13 :: o14 :: o15 :: o16 :: o17 :: o18 :: o19 :: o20 :: o21 :: o22 :: o23 :: rest) a).isSome = true) (hk : wpList P ops Q rest (stillGet P ops 24 (o0 :: o1 :: o2 :: o3 :: o4 :: o5 :: o6 :: o7 :: o8 :: o9 :: o10 :: o11 :: o12 :: o13 :: o14 :: o15 :: o16 :: o17 :: o18 :: o19 :: o20 :: o21 :: o22 :: o23 :: rest) a) w) : wpList P ops Q (o0 :: o1 :: o2 :: o3 :: o4 :: o5 :: o6 :: o7 :: o8 :: o9 :: o10 :: o11 :: o12 :: o13 :: o14 :: o15 :: o16 :: o17 :: o18 :: o19 :: o20 :: o21 :: o22 :: o23 :: rest) a w := seqL 24 h hk
end
end Go.Sp
