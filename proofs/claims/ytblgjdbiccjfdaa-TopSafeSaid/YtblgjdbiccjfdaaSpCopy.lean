/- Views (a row of one's own from a place on), copy and clear. -/
import Derived.Test.YtblgjdbiccjfdaaSpThree
namespace Go.Sp
open Go Go.RowKit
set_option linter.unusedVariables false
def clr {α : Type} (xs : List α) (n : Nat) (z : α) : List α := xs.take n ++ List.replicate (xs.length - n) z
section
variable {t w w' : World} {f g : FM} {H H' : List Seg} {s s' : Seg} {α β : Type} {e : Ty α} {P : Program} {a : Act} {o : Oper} {K : Value → World → Prop}
theorem run_indexE {T E sz : Nat} {x ix : Operand} {b off n c : Nat} {k : IntKind} {i : Int} {A : Option Addr} (hA : A = some ⟨b, off, none⟩) (ho : o.op = .indexAddr T x ix) (hT : P.underlying T = some (.slice E)) (hE : (P.info? E).map (·.size) = some sz)
    (hx : a.eval x = .slice A n c) (hi : a.eval ix = .int k i) (h0 : 0 ≤ i) (h1 : i < (n : Int)) (w : World) : (execOp a.eval o).run P w = .ok (.value (.pointer (some ⟨b, off + i.toNat * sz, none⟩))) w :=
  run_index ho hT hE (by rw [hx, hA]) hi h0 h1 w
end
@[reducible] def iV (x : Int) : Value := .int .i64 x
abbrev pV (b o : Nat) : Value := .pointer (some ⟨b, o, none⟩)
abbrev tV : Value := .bool true
abbrev fV : Value := .bool false
@[reducible] def uV : Value := undef
abbrev jL (l : List Value) (i : Nat) : Value := l.getD i undef
theorem fL {f : FM} : FM.le f f := FM.le.refl f
theorem ones {vs : List Value} (h : vs.all Value.oneCell' = true) : ∀ u, u ∈ vs → u.oneCell' = true := fun u hu => List.all_eq_true.mp h u hu
theorem does_storeA {P : Program} {t w : World} {f : FM} {H : List Seg} {a : Act} {o : Oper} {K : Value → World → Prop} {T n : Nat} {x y : Operand} {b : Nat} {E : TypeId} {vs : List Value} {cs : Array Value} (ho : o.op = .store T x y) (hn : (P.info? T).map (·.size) = some n)
    (hx : a.eval x = .pointer (some ⟨b, 0, none⟩)) (hy : a.eval y = .agg vs.toArray) (hl : vs.length = n) (h1 : ∀ u, u ∈ vs → u.oneCell' = true)
    (hS : St t w f ([(b, .cells cs E (0, 0))] :: H)) (hb : cs.size = n) (hK : ∀ w', St t w' f ([(b, .cells vs.toArray E (0, 0))] :: H) → K undef w') : Does P a w o K :=
  does_store ho hn hx hy rfl hl h1 hS (by omega) (by rw [putCells_eq _ _ _ (by omega), List.take_zero, List.nil_append, List.drop_eq_nil_of_le (by rw [Array.length_toList]; omega), List.append_nil]) hK
theorem kr {p : Prop} (h : p := by kernel_rfl) : p := h
theorem kv (v : Value) {x : Value} (h : x = v := by kernel_rfl) : x = v := h
theorem rl {P : Program} {Q : Exit → Act → World → Prop} {a : Act} {w : World} {id : Nat} {l : List Oper} (h : wpList P l.toArray Q l a w) : (Code.region id l.toArray false).wp P Q a w := wp_region_lit h
theorem nl {P : Program} {Q : Exit → Act → World → Prop} {a : Act} {w : World} {ops : Array Oper} (h : Q .normal a w) : wpList P ops Q [] a w := h
end Go.Sp
