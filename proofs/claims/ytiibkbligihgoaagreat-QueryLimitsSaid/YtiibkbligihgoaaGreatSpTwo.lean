/- Two operations that are ready in either order. -/
import Derived.Test.YtiibkbligihgoaaGreatSpEq
namespace Go.Sp
open Go Go.RowKit
set_option linter.unusedVariables false
section
variable {P : Program} {a : Act} {w : World} {md : Region.Mode} {ops : Array Oper} {Q : Exit → Act → World → Prop}
theorem Does.mono {o : Oper} {K K2 : Value → World → Prop} (h : Does P a w o K) (hm : ∀ v w, K v w → K2 v w) : Does P a w o K2 := fun K' Q hk => h K' Q fun v w hv => hk v w (hm v w hv)
theorem wanted_none {o : Oper} (h : o.guard = none) (x : Nat → Option Bool) : Region.wanted o x = true := by
  unfold Region.wanted; rw [h]
theorem takeTwo (i j : Nat) {oi oj : Oper} {S : Array Bool → World → Prop} {fuel : Nat} {listed l2 : Array Bool} (hr : Region.ready md ops listed = [i, j]) (hoi : ops[i]? = some oi) (hoj : ops[j]? = some oj) (hgi : oi.guard = none) (hgj : oj.guard = none)
    (hri : Region.ready md ops (listed.setIfInBounds i true) = [j]) (hrj : Region.ready md ops (listed.setIfInBounds j true) = [i]) (e1 : (listed.setIfInBounds i true).setIfInBounds j true = l2) (e2 : (listed.setIfInBounds j true).setIfInBounds i true = l2)
    (h : ∀ R : Act → World → Prop, (∀ a' w', AnyL P md ops Q S fuel l2 a' w' → R a' w') →
      Does P a w oi (fun v w' => S (listed.setIfInBounds i true) w' ∧ Does P (a.put oi.dst v) w' oj (fun v2 w2 => S l2 w2 ∧ R ((a.put oi.dst v).put oj.dst v2) w2)) ∧
      Does P a w oj (fun v w' => S (listed.setIfInBounds j true) w' ∧ Does P (a.put oj.dst v) w' oi (fun v2 w2 => S l2 w2 ∧ R ((a.put oj.dst v).put oi.dst v2) w2))) :
    AnyL P md ops Q S (fuel + 2) listed a w := by
  obtain ⟨h1, h2⟩ := h (AnyL P md ops Q S fuel l2) (fun _ _ q => q)
  refine ⟨fun h0 => (by rw [h0] at hr; cases hr), fun m hm => ?_⟩
  rw [hr] at hm
  simp only [List.mem_cons, List.not_mem_nil, or_false] at hm
  rcases hm with rfl | rfl
  · refine Does.wpOp (K' := fun a' w' => S (listed.setIfInBounds m true) w' ∧ AnyL P md ops Q S (fuel + 1) (listed.setIfInBounds m true) a' w') hoi (wanted_none hgi _) (h1.mono ?_)
    rintro v w' ⟨hS, hD⟩
    refine ⟨hS, takeGE j hri hoj (wanted_none hgj _) (hD.mono ?_)⟩
    rintro v2 w2 ⟨hS2, hR⟩
    rw [e1]; exact ⟨hS2, hR⟩
  · refine Does.wpOp (K' := fun a' w' => S (listed.setIfInBounds m true) w' ∧ AnyL P md ops Q S (fuel + 1) (listed.setIfInBounds m true) a' w') hoj (wanted_none hgj _) (h2.mono ?_)
    rintro v w' ⟨hS, hD⟩
    refine ⟨hS, takeGE i hrj hoi (wanted_none hgi _) (hD.mono ?_)⟩
    rintro v2 w2 ⟨hS2, hR⟩
    rw [e2]; exact ⟨hS2, hR⟩
theorem withR {S : Array Bool → World → Prop} {n : Nat} {listed : Array Bool} (l2 : Array Bool) (h : ∀ R : Act → World → Prop, (∀ a' w', AnyL P md ops Q S 0 l2 a' w' → R a' w') → (∀ a' w', R a' w' → AnyL P md ops Q S 0 l2 a' w') → AnyL P md ops Q S n listed a w) :
    AnyL P md ops Q S n listed a w := h (AnyL P md ops Q S 0 l2) (fun _ _ q => q) (fun _ _ q => q)
theorem takeEither (i j : Nat) {oi oj : Oper} {S : Array Bool → World → Prop} {fuel : Nat} {listed : Array Bool} (hr : Region.ready md ops listed = [i, j]) (hoi : ops[i]? = some oi) (hoj : ops[j]? = some oj) (hgi : oi.guard = none) (hgj : oj.guard = none)
    (h1 : Does P a w oi (fun v w' => S (listed.setIfInBounds i true) w' ∧ AnyL P md ops Q S fuel (listed.setIfInBounds i true) (a.put oi.dst v) w'))
    (h2 : Does P a w oj (fun v w' => S (listed.setIfInBounds j true) w' ∧ AnyL P md ops Q S fuel (listed.setIfInBounds j true) (a.put oj.dst v) w')) : AnyL P md ops Q S (fuel + 1) listed a w := by
  refine ⟨fun h0 => (by rw [h0] at hr; cases hr), fun m hm => ?_⟩
  rw [hr] at hm
  simp only [List.mem_cons, List.not_mem_nil, or_false] at hm
  rcases hm with rfl | rfl
  · exact Does.wpOp (K' := fun a' w' => S (listed.setIfInBounds m true) w' ∧ AnyL P md ops Q S fuel (listed.setIfInBounds m true) a' w') hoi (wanted_none hgi _) h1
  · exact Does.wpOp (K' := fun a' w' => S (listed.setIfInBounds m true) w' ∧ AnyL P md ops Q S fuel (listed.setIfInBounds m true) a' w') hoj (wanted_none hgj _) h2
end
end Go.Sp
