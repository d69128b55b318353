/- Orders that part: a name for what is to be shown at a set of operations that is carried out. -/
import Derived.Test.YtjnehahcpeiheaaGreatDoorSpThree
namespace Go.Sp
open Go Go.RowKit
variable {P : Program} {a : Act} {w : World} {md : Region.Mode} {ops : Array Oper} {Q : Exit → Act → World → Prop}
theorem withRn {S : Array Bool → World → Prop} {n : Nat} {listed : Array Bool} {m : Nat} (l2 : Array Bool) (h : ∀ R : Act → World → Prop, (∀ a' w', AnyL P md ops Q S m l2 a' w' → R a' w') → (∀ a' w', R a' w' → AnyL P md ops Q S m l2 a' w') → AnyL P md ops Q S n listed a w) :
    AnyL P md ops Q S n listed a w := h (AnyL P md ops Q S m l2) (fun _ _ q => q) (fun _ _ q => q)
end Go.Sp
