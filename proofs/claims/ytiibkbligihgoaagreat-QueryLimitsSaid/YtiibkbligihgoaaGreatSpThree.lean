/- Three or four operations that are ready in any order. -/
import Derived.Test.YtiibkbligihgoaaGreatSpTwo
namespace Go.Sp
open Go Go.RowKit
set_option linter.unusedVariables false
section
variable {P : Program} {a : Act} {w : World} {md : Region.Mode} {ops : Array Oper} {Q : Exit → Act → World → Prop}
/-- Operation i, of those that are ready. -/
def Way (P : Program) (md : Region.Mode) (ops : Array Oper) (Q : Exit → Act → World → Prop) (S : Array Bool → World → Prop) (fuel : Nat) (listed : Array Bool) (a : Act) (w : World) (i : Nat) : Prop :=
  ∃ o, ops[i]? = some o ∧ o.guard = none ∧ Does P a w o (fun v w' => S (listed.setIfInBounds i true) w' ∧ AnyL P md ops Q S fuel (listed.setIfInBounds i true) (a.put o.dst v) w')
theorem Way.mk' {S : Array Bool → World → Prop} {fuel : Nat} {listed : Array Bool} {i : Nat} {o : Oper} (ho : ops[i]? = some o) (hg : o.guard = none)
    (h : Does P a w o (fun v w' => S (listed.setIfInBounds i true) w' ∧ AnyL P md ops Q S fuel (listed.setIfInBounds i true) (a.put o.dst v) w')) : Way P md ops Q S fuel listed a w i := ⟨o, ho, hg, h⟩
theorem takeWays {S : Array Bool → World → Prop} {fuel : Nat} {listed : Array Bool} (i : Nat) (is : List Nat) (hr : Region.ready md ops listed = i :: is) (h : ∀ j, j ∈ i :: is → Way P md ops Q S fuel listed a w j) : AnyL P md ops Q S (fuel + 1) listed a w := by
  refine ⟨fun h0 => (by rw [h0] at hr; cases hr), fun m hm => ?_⟩
  rw [hr] at hm
  obtain ⟨o, ho, hg, hD⟩ := h m hm
  exact Does.wpOp (K' := fun a' w' => S (listed.setIfInBounds m true) w' ∧ AnyL P md ops Q S fuel (listed.setIfInBounds m true) a' w') ho (wanted_none hg _) hD
theorem takeAny3 (i j l : Nat) {S : Array Bool → World → Prop} {fuel : Nat} {listed : Array Bool} (hr : Region.ready md ops listed = [i, j, l]) (h1 : Way P md ops Q S fuel listed a w i) (h2 : Way P md ops Q S fuel listed a w j) (h3 : Way P md ops Q S fuel listed a w l) : AnyL P md ops Q S (fuel + 1) listed a w :=
  takeWays i [j, l] hr fun m hm => by
    simp only [List.mem_cons, List.not_mem_nil, or_false] at hm
    rcases hm with rfl | rfl | rfl
    · exact h1
    · exact h2
    · exact h3
theorem takeAny4 (i j l n : Nat) {S : Array Bool → World → Prop} {fuel : Nat} {listed : Array Bool} (hr : Region.ready md ops listed = [i, j, l, n]) (h1 : Way P md ops Q S fuel listed a w i) (h2 : Way P md ops Q S fuel listed a w j) (h3 : Way P md ops Q S fuel listed a w l) (h4 : Way P md ops Q S fuel listed a w n) : AnyL P md ops Q S (fuel + 1) listed a w :=
  takeWays i [j, l, n] hr fun m hm => by
    simp only [List.mem_cons, List.not_mem_nil, or_false] at hm
    rcases hm with rfl | rfl | rfl | rfl
    · exact h1
    · exact h2
    · exact h3
    · exact h4
end
/-- An array of whole numbers, as an element. -/
def tArrI (n : Nat) (hn : 0 < n) (k : IntKind) : Ty (List Int) where
  sz := n
  rep := fun _ cs x => cs = (List.range n).map fun i => .int k (x.getD i default)
  pos := hn
  len := by rintro _ _ _ rfl; simp
  mono := fun _ h => h
  one := by
    rintro _ _ _ rfl v hv
    obtain ⟨i, _, rfl⟩ := List.mem_map.mp hv
    rfl
section
variable {α : Type} {e : Ty α} {P : Program} {a : Act} {o : Oper} {f : FM}
/-- An array's element that has several cells. -/
theorem run_arr_agg [Inhabited α] {T n E : Nat} {d : TypeDesc} {x y : Operand} {cs : Array Value} {k : IntKind} {j : Int} {xs : List α} (g : α → List Value) (hg : ∀ cs x, e.rep f cs x → cs = g x) (ho : o.op = .index T x y) (hT : P.underlying T = some (.array n E)) (hE : (P.info? E).map (·.size) = some e.sz) (hd : P.underlying E = some d) (hd1 : isOne d = false)
    (hx : a.eval x = .agg cs) (hy : a.eval y = .int k j) (hcs : Reps e f cs.toList xs) (h0 : 0 ≤ j) (h1 : j < n) (hn : xs.length = n) (w : World) : (execOp a.eval o).run P w = .ok (.value (.agg (g (rd xs j)).toArray)) w := by
  have hlt : j.toNat < xs.length := by omega
  have hr := hg _ _ (hcs.at j.toNat hlt)
  have erd : rd xs j = xs[j.toNat] := (rd_lt h0 (by omega)).2
  rw [← erd] at hr
  have hl := hcs.length
  have hm : j.toNat * e.sz + e.sz ≤ xs.length * e.sz := by rw [← Nat.succ_mul]; exact Nat.mul_le_mul_right _ hlt
  have hone : (isAgg E).run P w = .ok true w := by rw [run_isAgg_of hd]; simp [hd1]
  have hsz : cs.size = xs.length * e.sz := by rw [← hl]; simp
  have hex : cs.extract (j.toNat * e.sz) (j.toNat * e.sz + e.sz) = (g (rd xs j)).toArray := by
    apply Array.ext'
    rw [← hr]
    simp [List.drop_take]
  simp [execOp, ho, hx, hy, Instr.index, asIntOf, run_underlying hT, h0, h1, run_sizeOf_of hE, part, hone, hex, hsz, hm]
end
end Go.Sp
