/- Elements of which none is ever told: a row of them is empty. -/
import Derived.Test.YtiibkbligihgoaaGreatSpMore
namespace Go.Sp
open Go
def tNone : Ty Unit := ⟨1, fun _ _ _ => False, by decide, fun h => h.elim, fun _ h => h, fun h => h.elim⟩
end Go.Sp
