/- slices.SortFunc at structs of three whole numbers, by a closure that takes cmp.Or of two differences: the seat's own closure under the kit's contract. -/
import Derived.Test.YtiibkbligihgoaaGreatSpSort3
import Derived.Test.YtiibkbligihgoaaGreatSrt
import Derived.WalkKit
import Derived.Shelf.SlSortCmp.NoneTotal
namespace Go.Sp
open Go Go.Proofs Go.RowKit Go.Sort Go.Shelf Go.Lib
set_option linter.unusedVariables false
set_option maxHeartbeats 4000000 in
theorem orI (p q : Int) (b : Nat) (W : World) (h1 : W.cell? ⟨b, 0, none⟩ = some (.int .i64 p)) (h2 : W.cell? ⟨b, 1, none⟩ = some (.int .i64 q)) :
    Calls Tryz.prog 62 #[.slice (some ⟨b, 0, none⟩) 2 2] W fun e w' => e = .returned (.int .i64 (if p ≠ 0 then p else q)) ∧ w' = W := by
  go_enter Tryz.func62, Tryz.ntmps62
  go_wp2
  refine wp_loop_rounds 3 ?_
  rw [rounds_succ]
  by_cases c1 : p = 0
  · go_wp2
    rw [rounds_succ]
    by_cases c2 : q = 0
    · go_wp2
      rw [rounds_succ]
      go_wp2
      go_ret
      simp [c1, c2]
    · go_wp2
      go_ret
      simp [c1]
  · go_wp2
    go_ret
    simp [c1]
theorem cell_third (W : World) (o1 o2 : Obj) (c : Array Value) (t : TypeId) (j : Nat) (v : Value) (h : c[j]? = some v) : (((W.alloc o1).alloc o2).alloc (.cells c t)).cell? ⟨W.heap.size + 1 + 1, j, none⟩ = some v := by
  rw [World.cell?_alloc_at _ _ _ _ (by simp)]; exact h
theorem w64i {x y : Int} (hx : -2147483648 ≤ x ∧ x ≤ 2147483648) (hy : -2147483648 ≤ y ∧ y ≤ 2147483648) : wrap64 (x - y) = x - y := by
  unfold wrap64; omega
set_option maxHeartbeats 4000000 in
theorem closureI (x1 x2 x3 y1 y2 y3 : Int) (W : World) (hx1 : -2147483648 ≤ x1 ∧ x1 ≤ 2147483648) (hx2 : -2147483648 ≤ x2 ∧ x2 ≤ 2147483648) (hy1 : -2147483648 ≤ y1 ∧ y1 ≤ 2147483648) (hy2 : -2147483648 ≤ y2 ∧ y2 ≤ 2147483648) :
    Calls Tryz.prog 61 #[.agg #[.int .i64 x1, .int .i64 x2, .int .i64 x3], .agg #[.int .i64 y1, .int .i64 y2, .int .i64 y3]] W fun e w' =>
    e = .returned (.int .i64 (if x1 - y1 ≠ 0 then x1 - y1 else x2 - y2)) ∧ ∃ q os', w' = grow (W.drewN q) os' := by
  have hc := fun b W h1 h2 => orI (x1 - y1) (x2 - y2) b W h1 h2
  have e1 := w64i hx1 hy1
  have e2 := w64i hx2 hy2
  obtain ⟨v, hv⟩ : ∃ v, v = (if x1 - y1 ≠ 0 then x1 - y1 else x2 - y2) := ⟨_, rfl⟩
  rw [← hv] at hc
  rw [← hv]
  clear hv hx1 hx2 hy1 hy2
  go_enter Tryz.func61, Tryz.ntmps61
  go_wp2_with (go_at_call 62; refine (hc _ _ ?_ ?_).mono ?_; rotate_left 2; rintro e w1 ⟨rfl, rfl⟩)
  · go_ret
    exact ⟨rfl, 0, _, by rw [alloc_eq_grow, alloc_eq_grow, alloc_eq_grow, grow_grow, grow_grow]; rfl⟩
  · exact cell_third _ _ _ _ _ _ _ rfl
  · exact cell_third _ _ _ _ _ _ _ rfl
section
variable {α : Type} (pa pb pc : α → Int)
theorem closure3 (x y : T3 pa pb) (W : World) : Calls Tryz.prog 61 #[.agg (c3 pa pb pc x).toArray, .agg (c3 pa pb pc y).toArray] W fun e w' => e = .returned (.int .i64 (cf3 pa pb x y)) ∧ ∃ q os', w' = grow (W.drewN q) os' :=
  closureI _ _ _ _ _ _ W x.2.1 x.2.2 y.2.1 y.2.2
theorem cmpLays3 [Inhabited (T3 pa pb)] (blk off size : Nat) (w : World) : CmpLays Tryz.prog 61 #[] (c3 pa pb pc) 3 (cf3 pa pb) blk off size w := fun _ _ _ _ x y => closure3 pa pb pc x y _
theorem sort3_calls [Inhabited (T3 pa pb)] (blk cap : Nat) (zs : List (T3 pa pb)) (w : World) (hH : HoldsK (c3 pa pb pc) 3 w blk 0 zs.toArray) (hblk : blk < w.heap.size) (hsz : zs.length < 4611686018427387904) :
    Calls Tryz.prog 60 #[.slice (some ⟨blk, 0, none⟩) zs.length cap, .func (.func 61) #[] #[]] w fun e w' => e = .returned (.tuple #[]) ∧ ∃ d' n os, PermIn 0 zs.length zs.toArray d' ∧ SortedIn (ltOf (cf3 pa pb)) 0 zs.length d' ∧ w' = sortWorldK (c3 pa pb pc) 3 w blk 0 n d' os := by
  have eg : ∀ args w, (callFunc 61 args).run Tryz.prog w = .ok (.enter 61 args) w := enters_of Tryz.func61 (by kernel_rfl) rfl
  have h := AnyQ.slices_SortFunc Tryz.sortA 3 (fun w => Tryz.isAgg77 w) (fun w => Tryz.sizeOf77 w) (c3 pa pb pc) (fun _ => rfl) (fun x v hv => by simp [c3] at hv; rcases hv with rfl | rfl | rfl <;> rfl) (cf3 pa pb) (swo3 pa pb) 61 #[] blk 0 cap zs.toArray w eg (cmpLays3 pa pb pc blk 0 zs.toArray.size w) hH hblk (by simpa using hsz)
  simp only [List.size_toArray] at h
  exact h
theorem sort3_none (p : Option Addr) (cap : Nat) (w : World) : Calls Tryz.prog 60 #[.slice p 0 cap, .func (.func 61) #[] #[]] w fun e w' => e = .returned (.tuple #[]) ∧ w' = w :=
  AnyF.slices_SortFunc_none Tryz.sortA p cap _ w
end
end Go.Sp
