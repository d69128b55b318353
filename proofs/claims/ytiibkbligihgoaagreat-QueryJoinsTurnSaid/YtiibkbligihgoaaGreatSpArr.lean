/- Elements of an array variable of the walk's own, at a place that is reckoned. -/
import Derived.Test.YtiibkbligihgoaaGreatSpCopy
namespace Go.Sp
open Go
set_option linter.unusedVariables false
set_option linter.unusedSimpArgs false
theorem run_indexA {P : Program} {a : Act} {o : Oper} {T E sz n : Nat} {x ix : Operand} {b off : Nat} {k : IntKind} {i : Int} (ho : o.op = .indexAddr T x ix) (hT : P.underlying T = some (.array n E)) (hE : (P.info? E).map (·.size) = some sz)
    (hx : a.eval x = .pointer (some ⟨b, off, none⟩)) (hi : a.eval ix = .int k i) (h0 : 0 ≤ i) (h1 : i < (n : Int)) (w : World) : (execOp a.eval o).run P w = .ok (.value (.pointer (some ⟨b, off + i.toNat * sz, none⟩))) w := by
  simp [execOp, ho, hx, hi, Instr.indexAt, run_underlying hT, asIntOf, run_sizeOf_of hE, h0, h1, add_plain, Instr.sureAddr]
theorem arr_cell {w : World} {b off n : Nat} {k : IntKind} (xs : List Int) (h : ∀ j, j < n → w.cell? ⟨b, off + j, none⟩ = (xs.map (Value.int k))[j]?) (hn : xs.length = n) {i : Int} (h0 : 0 ≤ i) (h1 : i < (n : Int)) : w.cell? ⟨b, off + i.toNat * 1, none⟩ = some (.int k (rd xs i)) := by
  obtain ⟨hl, e⟩ := rd_lt (xs := xs) h0 (by omega)
  rw [Nat.mul_one, h _ (by omega), List.getElem?_map, List.getElem?_eq_getElem hl, e]
  rfl
end Go.Sp
