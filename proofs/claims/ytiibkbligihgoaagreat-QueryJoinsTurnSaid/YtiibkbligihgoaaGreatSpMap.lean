/- Maps with whole numbers as keys, of the walk's own: a block of its own, told by the list of its entries in the order in which they came. -/
import Derived.Test.YtiibkbligihgoaaGreatSpCopy
import Derived.MapKept
namespace Go.Sp
open Go Go.MapKept
set_option linter.unusedVariables false
set_option linter.unusedSimpArgs false
variable {α : Type} {κ : IntKind} {vf : α → Value} {P : Program} {t w : World} {f : FM} {H : List Seg} {a : Act} {o : Oper} {K' : Value → World → Prop}
def mfind : List (Int × α) → Int → Option α
  | [], _ => none
  | p :: m, k => if p.1 = k then some p.2 else mfind m k
def mget (z : α) (m : List (Int × α)) (k : Int) : α := (mfind m k).getD z
def mput : List (Int × α) → Int → α → List (Int × α)
  | [], k, v => [(k, v)]
  | p :: m, k, v => if p.1 = k then (k, v) :: m else p :: mput m k v
theorem sameNow_int (x y : Int) : Instr.sameNow (.int κ) (.int κ x) (.int κ y) = some (x == y) := by simp [Instr.sameNow]
end Go.Sp
