/- Three or four operations that are ready in any order. -/
import Derived.Test.YtiofgpdfnhihhaaGreatDoorSpTwo
namespace Go.Sp
open Go Go.RowKit
set_option linter.unusedVariables false
section
variable {P : Program} {a : Act} {w : World} {md : Region.Mode} {ops : Array Oper} {Q : Exit → Act → World → Prop}
def Way (P : Program) (md : Region.Mode) (ops : Array Oper) (Q : Exit → Act → World → Prop) (S : Array Bool → World → Prop) (fuel : Nat) (listed : Array Bool) (a : Act) (w : World) (i : Nat) : Prop :=
  ∃ o, ops[i]? = some o ∧ o.guard = none ∧ Does P a w o (fun v w' => S (listed.setIfInBounds i true) w' ∧ AnyL P md ops Q S fuel (listed.setIfInBounds i true) (a.put o.dst v) w')
theorem Way.mk' {S : Array Bool → World → Prop} {fuel : Nat} {listed : Array Bool} {i : Nat} {o : Oper} (ho : ops[i]? = some o) (hg : o.guard = none)
    (h : Does P a w o (fun v w' => S (listed.setIfInBounds i true) w' ∧ AnyL P md ops Q S fuel (listed.setIfInBounds i true) (a.put o.dst v) w')) : Way P md ops Q S fuel listed a w i := ⟨o, ho, hg, h⟩
end
section
variable {α : Type} {e : Ty α} {P : Program} {a : Act} {o : Oper} {f : FM}
end
end Go.Sp
