/- append(nil, make([]T, n)...): a new row of zeros, whose capacity is drawn. -/
import Derived.Test.YtcnhbfdkediodaaSpCopy
import Derived.Lib.AppendZeros
namespace Go.Sp
open Go Go.RowKit Go.Lib
set_option linter.unusedVariables false
section
variable {α : Type} {e : Ty α} {P : Program} {t w : World} {f : FM} {H : List Seg} {a : Act} {o : Oper} {K : Value → World → Prop}
theorem does_growN {T Tn E bytes : Nat} {x y : Operand} {z : Value} {k kn : IntKind} {n : Int} {u : α} (ho : o.op = .call { callee := .builtin .append, args := #[x, y], argTypes := #[T, Tn] })
    (hx : a.eval x = .slice none 0 0) (hy : a.eval y = .int k n) (hT : P.underlying T = some (.slice E)) (hTn : P.underlying Tn = some (.int kn)) (hI : Inf P E e.sz bytes z)
    (h0 : 0 < n) (h1 : n * bytes ≤ 140737488355328) (h2 : n ≤ 9223372036854775807) (hr : e.rep f z.cells.toList u) (hS : St t w f H)
    (hK : ∀ b c w' s, St t w' f (s :: H) → Own e E f (some ⟨b, 0, none⟩) c s (List.replicate n.toNat u) → K (.slice (some ⟨b, 0, none⟩) (List.replicate n.toNat u).length c) w') : Does P a w o K := by
  obtain ⟨i, hi, hs, hb, hz⟩ := hI.info
  have hc := hI.cells
  have hpos := e.pos
  have hnn : ((n.toNat : Nat) : Int) = n := Int.toNat_of_nonneg (by omega)
  have h48 : n.toNat * i.bytes ≤ 140737488355328 := by
    rw [hb]
    have : ((n.toNat * bytes : Nat) : Int) ≤ 140737488355328 := by rw [Int.natCast_mul, hnn]; exact h1
    omega
  have hrun := run_append_nil_zeros (P := P) w T Tn o.type E i z k kn hT hTn hi hz n.toNat (by omega) (by rw [hs]; exact hpos) (by omega) (by omega)
  rw [hnn] at hrun
  have hge := grownCap_ge w n.toNat 0 E
  have hcm : grownCap w n.toNat 0 E ≤ maxLen := grownCap_le_maxLen w _ 0 E (by unfold maxLen; omega)
  refine does_run (v := .slice (some ⟨w.heap.size, 0, none⟩) (List.replicate n.toNat u).length (grownCap w n.toNat 0 E)) (w' := w.drew.alloc (.cells (Builtin.zeroCells z.cells n.toNat ++ Builtin.zeroCells z.cells (grownCap w n.toNat 0 E - n.toNat)) E)) ?_
    (hK _ _ _ _ (hS.drew.alloc _) (.inr ⟨_, _, rfl, ⟨_, noFz0, rfl⟩, by rw [List.length_replicate]; exact hge, hcm, ?_, ?_⟩))
  · simp [execOp, ho, resolve, invoke, builtin, hx, hy]
    rw [hrun]
    simp
  · rw [Array.size_append, size_zeroCells, size_zeroCells, hc, ← Nat.add_mul, show n.toNat + (grownCap w n.toNat 0 E - n.toNat) = grownCap w n.toNat 0 E by omega]
    exact Nat.le_refl _
  · rw [List.length_replicate, Array.toList_append, List.take_left' (by rw [Array.length_toList, size_zeroCells, hc])]
    have hl : (Builtin.zeroCells z.cells n.toNat).toList = (List.replicate n.toNat z.cells.toList).flatten := made_cells z.cells n.toNat (by omega)
    rw [hl]
    exact Reps.replicate hr _
end
end Go.Sp
