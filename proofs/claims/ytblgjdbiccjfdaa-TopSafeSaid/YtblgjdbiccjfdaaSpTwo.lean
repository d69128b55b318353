/- Two operations that are ready in either order. -/
import Derived.Test.YtblgjdbiccjfdaaSpEq
namespace Go.Sp
open Go Go.RowKit
set_option linter.unusedVariables false
section
variable {P : Program} {a : Act} {w : World} {md : Region.Mode} {ops : Array Oper} {Q : Exit → Act → World → Prop}
theorem Does.mono {o : Oper} {K K2 : Value → World → Prop} (h : Does P a w o K) (hm : ∀ v w, K v w → K2 v w) : Does P a w o K2 := fun K' Q hk => h K' Q fun v w hv => hk v w (hm v w hv)
theorem wanted_none {o : Oper} (h : o.guard = none) (x : Nat → Option Bool) : Region.wanted o x = true := by
  unfold Region.wanted; rw [h]
theorem withR {S : Array Bool → World → Prop} {n : Nat} {listed : Array Bool} (l2 : Array Bool) (h : ∀ R : Act → World → Prop, (∀ a' w', AnyL P md ops Q S 0 l2 a' w' → R a' w') → (∀ a' w', R a' w' → AnyL P md ops Q S 0 l2 a' w') → AnyL P md ops Q S n listed a w) :
    AnyL P md ops Q S n listed a w := h (AnyL P md ops Q S 0 l2) (fun _ _ q => q) (fun _ _ q => q)
theorem takeEither (i j : Nat) {oi oj : Oper} {S : Array Bool → World → Prop} {fuel : Nat} {listed : Array Bool} (hr : Region.ready md ops listed = [i, j]) (hoi : ops[i]? = some oi) (hoj : ops[j]? = some oj) (hgi : oi.guard = none) (hgj : oj.guard = none)
    (h1 : Does P a w oi (fun v w' => S (listed.setIfInBounds i true) w' ∧ AnyL P md ops Q S fuel (listed.setIfInBounds i true) (a.put oi.dst v) w'))
    (h2 : Does P a w oj (fun v w' => S (listed.setIfInBounds j true) w' ∧ AnyL P md ops Q S fuel (listed.setIfInBounds j true) (a.put oj.dst v) w')) : AnyL P md ops Q S (fuel + 1) listed a w := by
  refine ⟨fun h0 => (by rw [h0] at hr; cases hr), fun m hm => ?_⟩
  rw [hr] at hm
  simp only [List.mem_cons, List.not_mem_nil, or_false] at hm
  rcases hm with rfl | rfl
  · exact Does.wpOp (K' := fun a' w' => S (listed.setIfInBounds m true) w' ∧ AnyL P md ops Q S fuel (listed.setIfInBounds m true) a' w') hoi (wanted_none hgi _) h1
  · exact Does.wpOp (K' := fun a' w' => S (listed.setIfInBounds m true) w' ∧ AnyL P md ops Q S fuel (listed.setIfInBounds m true) a' w') hoj (wanted_none hgj _) h2
end
end Go.Sp
