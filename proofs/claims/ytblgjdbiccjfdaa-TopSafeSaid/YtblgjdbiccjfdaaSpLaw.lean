/- What a law's row hands over: a slice of whole numbers as one that stays. -/
import Derived.Test.YtblgjdbiccjfdaaSpMore
namespace Go.Sp
open Go Go.RowKit
set_option linter.unusedVariables false
theorem reps_ints (k : IntKind) (f : FM) : ∀ xs : List Int, Reps (tInt k) f (xs.map (Value.int k)) xs
  | [] => rfl
  | x :: xs => ⟨[Value.int k x], xs.map (Value.int k), rfl, rfl, reps_ints k f xs⟩
theorem SlR.ofRow {W : World} {k : IntKind} {a : Option Addr} {len cap : Nat} {zs : List Int}
    (h : (a = none ∧ len = 0 ∧ cap = 0 ∧ zs = []) ∨ ∃ x, a = some x ∧ len ≤ cap ∧ cap ≤ maxLen ∧ zs.length = cap ∧ (∀ i, i < zs.length → W.cell? (x.add i) = some (.int k (zs.getD i 0))) ∧ ∀ n ∈ zs, (Lit.int k n).wf = true) :
    SlR (tInt k) (FM.of W) a cap (zs.take len) ∧ (zs.take len).length = len := by
  rcases h with ⟨rfl, rfl, rfl, rfl⟩ | ⟨x, rfl, h1, h2, h3, h4, h5⟩
  · exact ⟨SlR.nil _ _, rfl⟩
  · have hl : (zs.take len).length = len := by simp; omega
    refine ⟨⟨by omega, ?_⟩, hl⟩
    by_cases c : len = 0
    · left; rw [c]; rfl
    · right
      have h0 := h4 0 (by omega)
      have e0 : x.add 0 = x := rfl
      rw [e0] at h0
      obtain ⟨b, off, sp⟩ := x
      have hs : sp = none := by
        unfold World.cell? at h0
        split at h0
        · cases sp with
          | none => rfl
          | some v => simp at h0
        · cases h0
      subst hs
      unfold World.cell? at h0
      split at h0
      · rename_i arr et fr hb
        refine ⟨b, off, arr, et, fr, _, rfl, hb, reps_ints k _ _, ?_⟩
        intro j hj
        rw [List.length_map, hl] at hj
        have hc := h4 j (by omega)
        rw [add_plain, cell_of_row W b _ arr et fr hb] at hc
        rw [hc, List.getElem?_map, List.getElem?_take, if_pos hj, List.getD_eq_getElem?_getD, List.getElem?_eq_getElem (by omega)]
        rfl
      · cases h0
end Go.Sp
