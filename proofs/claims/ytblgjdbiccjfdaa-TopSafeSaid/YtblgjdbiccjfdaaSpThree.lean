/- Three or four operations that are ready in any order. -/
import Derived.Test.YtblgjdbiccjfdaaSpTwo
namespace Go.Sp
open Go Go.RowKit
set_option linter.unusedVariables false
section
variable {P : Program} {a : Act} {w : World} {md : Region.Mode} {ops : Array Oper} {Q : Exit → Act → World → Prop}
def Way (P : Program) (md : Region.Mode) (ops : Array Oper) (Q : Exit → Act → World → Prop) (S : Array Bool → World → Prop) (fuel : Nat) (listed : Array Bool) (a : Act) (w : World) (i : Nat) : Prop :=
  ∃ o, ops[i]? = some o ∧ o.guard = none ∧ Does P a w o (fun v w' => S (listed.setIfInBounds i true) w' ∧ AnyL P md ops Q S fuel (listed.setIfInBounds i true) (a.put o.dst v) w')
theorem Way.mk' {S : Array Bool → World → Prop} {fuel : Nat} {listed : Array Bool} {i : Nat} {o : Oper} (ho : ops[i]? = some o) (hg : o.guard = none)
    (h : Does P a w o (fun v w' => S (listed.setIfInBounds i true) w' ∧ AnyL P md ops Q S fuel (listed.setIfInBounds i true) (a.put o.dst v) w')) : Way P md ops Q S fuel listed a w i := ⟨o, ho, hg, h⟩
theorem takeWays {S : Array Bool → World → Prop} {fuel : Nat} {listed : Array Bool} (i : Nat) (is : List Nat) (hr : Region.ready md ops listed = i :: is) (h : ∀ j, j ∈ i :: is → Way P md ops Q S fuel listed a w j) : AnyL P md ops Q S (fuel + 1) listed a w := by
  refine ⟨fun h0 => (by rw [h0] at hr; cases hr), fun m hm => ?_⟩
  rw [hr] at hm
  obtain ⟨o, ho, hg, hD⟩ := h m hm
  exact Does.wpOp (K' := fun a' w' => S (listed.setIfInBounds m true) w' ∧ AnyL P md ops Q S fuel (listed.setIfInBounds m true) a' w') ho (wanted_none hg _) hD
theorem takeAny3 (i j l : Nat) {S : Array Bool → World → Prop} {fuel : Nat} {listed : Array Bool} (hr : Region.ready md ops listed = [i, j, l]) (h1 : Way P md ops Q S fuel listed a w i) (h2 : Way P md ops Q S fuel listed a w j) (h3 : Way P md ops Q S fuel listed a w l) : AnyL P md ops Q S (fuel + 1) listed a w :=
  takeWays i [j, l] hr fun m hm => by
    simp only [List.mem_cons, List.not_mem_nil, or_false] at hm
    rcases hm with rfl | rfl | rfl
    · exact h1
    · exact h2
    · exact h3
end
section
variable {α : Type} {e : Ty α} {P : Program} {a : Act} {o : Oper} {f : FM}
end
end Go.Sp
