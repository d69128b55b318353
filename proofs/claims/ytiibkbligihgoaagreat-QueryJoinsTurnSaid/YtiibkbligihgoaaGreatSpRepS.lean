/- A row of whole numbers, as the kit tells it. -/
import Derived.Test.YtiibkbligihgoaaGreatSpCopy
import Derived.Sort.OwnSortedInts
import Derived.Lib.SlicesCompact
namespace Go.Sp
open Go Go.RowKit Go.Sort Go.Proofs
theorem reps_sorted {f : FM} {cs : List Value} {xs : List Int} : Reps (tInt .i64) f cs xs ↔ cs = xs.map (Value.int .i64) := by
  induction xs generalizing cs with
  | nil => simp [Reps]
  | cons x xs ih =>
    constructor
    · rintro ⟨c, cs', rfl, hc, h⟩
      have : c = [.int .i64 x] := hc
      rw [this, ih.mp h]; rfl
    · intro h
      exact ⟨[.int .i64 x], xs.map (Value.int .i64), by rw [h]; rfl, rfl, ih.mpr rfl⟩
end Go.Sp
