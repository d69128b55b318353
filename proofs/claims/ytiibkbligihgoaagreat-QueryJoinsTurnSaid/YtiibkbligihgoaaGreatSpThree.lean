/- Three or four operations that are ready in any order. -/
import Derived.Test.YtiibkbligihgoaaGreatSpTwo
namespace Go.Sp
open Go Go.RowKit
set_option linter.unusedVariables false
section
variable {P : Program} {a : Act} {w : World} {md : Region.Mode} {ops : Array Oper} {Q : Exit → Act → World → Prop}
def Way (P : Program) (md : Region.Mode) (ops : Array Oper) (Q : Exit → Act → World → Prop) (S : Array Bool → World → Prop) (fuel : Nat) (listed : Array Bool) (a : Act) (w : World) (i : Nat) : Prop :=
  ∃ o, ops[i]? = some o ∧ o.guard = none ∧ Does P a w o (fun v w' => S (listed.setIfInBounds i true) w' ∧ AnyL P md ops Q S fuel (listed.setIfInBounds i true) (a.put o.dst v) w')
theorem Way.mk' {S : Array Bool → World → Prop} {fuel : Nat} {listed : Array Bool} {i : Nat} {o : Oper} (ho : ops[i]? = some o) (hg : o.guard = none)
    (h : Does P a w o (fun v w' => S (listed.setIfInBounds i true) w' ∧ AnyL P md ops Q S fuel (listed.setIfInBounds i true) (a.put o.dst v) w')) : Way P md ops Q S fuel listed a w i := ⟨o, ho, hg, h⟩
end
section
variable {α : Type} {e : Ty α} {P : Program} {a : Act} {o : Oper} {f : FM}
theorem run_arr_agg [Inhabited α] {T n E : Nat} {d : TypeDesc} {x y : Operand} {cs : Array Value} {k : IntKind} {j : Int} {xs : List α} (g : α → List Value) (hg : ∀ cs x, e.rep f cs x → cs = g x) (ho : o.op = .index T x y) (hT : P.underlying T = some (.array n E)) (hE : (P.info? E).map (·.size) = some e.sz) (hd : P.underlying E = some d) (hd1 : isOne d = false)
    (hx : a.eval x = .agg cs) (hy : a.eval y = .int k j) (hcs : Reps e f cs.toList xs) (h0 : 0 ≤ j) (h1 : j < n) (hn : xs.length = n) (w : World) : (execOp a.eval o).run P w = .ok (.value (.agg (g (rd xs j)).toArray)) w := by
  have hlt : j.toNat < xs.length := by omega
  have hr := hg _ _ (hcs.at j.toNat hlt)
  have erd : rd xs j = xs[j.toNat] := (rd_lt h0 (by omega)).2
  rw [← erd] at hr
  have hl := hcs.length
  have hm : j.toNat * e.sz + e.sz ≤ xs.length * e.sz := by rw [← Nat.succ_mul]; exact Nat.mul_le_mul_right _ hlt
  have hone : (isAgg E).run P w = .ok true w := by rw [run_isAgg_of hd]; simp [hd1]
  have hsz : cs.size = xs.length * e.sz := by rw [← hl]; simp
  have hex : cs.extract (j.toNat * e.sz) (j.toNat * e.sz + e.sz) = (g (rd xs j)).toArray := by
    apply Array.ext'
    rw [← hr]
    simp [List.drop_take]
  simp [execOp, ho, hx, hy, Instr.index, asIntOf, run_underlying hT, h0, h1, run_sizeOf_of hE, part, hone, hex, hsz, hm]
end
end Go.Sp
