/- The order of pairs, as optics.add's closure gives it. -/
import Derived.Test.YtcnhbfdkediodaaSpKeyLit
import Derived.Test.YtcnhbfdkediodaaProg
import Derived.WalkKit
import Derived.Orders
import Derived.Shelf.SlSortCmp.KitK
namespace Go.Sp
open Go Go.Proofs Go.RowKit Go.Maps Go.Sort Go.Shelf Go.Lib
set_option linter.unusedVariables false
def cI (x y : Int) : Int := if x < y then -1 else (if x > y then 1 else 0)
def cfA (x y : Int × Int) : Int := if cI x.1 y.1 ≠ 0 then cI x.1 y.1 else cI x.2 y.2
theorem isNaNA (x : Int) (W : World) : Calls Try.prog 54 #[.int .i64 x] W fun e w' => e = .returned (.bool false) ∧ w' = W := by
  go_enter Try.func54, Try.ntmps54
  go_wp2
  go_ret
  exact ⟨by simp, rfl⟩
set_option maxHeartbeats 1000000 in
theorem cmpIntA (x y : Int) (W : World) : Calls Try.prog 48 #[.int .i64 x, .int .i64 y] W fun e w' => e = .returned (.int .i64 (cI x y)) ∧ w' = W := by
  have hn := fun z W' => isNaNA z W'
  unfold cI
  go_enter Try.func48, Try.ntmps48
  by_cases c1 : x < y
  · go_wp2_with (go_at_call 54; refine (hn _ _).mono ?_; rintro e w' ⟨rfl, rfl⟩)
    go_ret
    simp [c1]
  · by_cases c2 : x > y
    · go_wp2_with (go_at_call 54; refine (hn _ _).mono ?_; rintro e w' ⟨rfl, rfl⟩)
      go_ret
      simp [c1, c2]
    · go_wp2_with (go_at_call 54; refine (hn _ _).mono ?_; rintro e w' ⟨rfl, rfl⟩)
      go_ret
      simp [c1, c2]
set_option maxHeartbeats 4000000 in
theorem cmpSlA (x1 x2 y1 y2 : Int) (b1 b2 : Nat) (W : World) (h1 : W.cell? ⟨b1, 0, none⟩ = some (.int .i64 x1)) (h2 : W.cell? ⟨b1, 1, none⟩ = some (.int .i64 x2)) (h3 : W.cell? ⟨b2, 0, none⟩ = some (.int .i64 y1)) (h4 : W.cell? ⟨b2, 1, none⟩ = some (.int .i64 y2)) :
    Calls Try.prog 36 #[.slice (some ⟨b1, 0, none⟩) 2 2, .slice (some ⟨b2, 0, none⟩) 2 2] W fun e w' => e = .returned (.int .i64 (cfA (x1, x2) (y1, y2))) ∧ w' = W := by
  have hc := fun a b => cmpIntA a b W
  unfold cfA
  go_enter Try.func36, Try.ntmps36
  go_wp2
  refine wp_loop_rounds 3 ?_
  rw [rounds_succ]
  by_cases c1 : cI x1 y1 = 0
  · by_cases c2 : cI x2 y2 = 0
    · go_wp2_with (go_at_call 48; refine (hc _ _).mono ?_; rintro e w' ⟨rfl, rfl⟩)
      rw [rounds_succ]
      go_wp2_with (go_at_call 48; refine (hc _ _).mono ?_; rintro e w' ⟨rfl, rfl⟩)
      rw [rounds_succ]
      go_wp2
      go_ret
      simp [c1, c2]
    · go_wp2_with (go_at_call 48; refine (hc _ _).mono ?_; rintro e w' ⟨rfl, rfl⟩)
      rw [rounds_succ]
      go_wp2_with (go_at_call 48; refine (hc _ _).mono ?_; rintro e w' ⟨rfl, rfl⟩)
      go_ret
      simp [c1]
  · go_wp2_with (go_at_call 48; refine (hc _ _).mono ?_; rintro e w' ⟨rfl, rfl⟩)
    go_ret
    simp [c1]
set_option maxHeartbeats 4000000 in
/-- The closure: two blocks are laid. -/
theorem closureA (x y : Int × Int) (W : World) : Calls Try.prog 35 #[kA x, kA y] W fun e w' => e = .returned (.int .i64 (cfA x y)) ∧ ∃ q os', w' = grow (W.drewN q) os' := by
  obtain ⟨x1, x2⟩ := x
  obtain ⟨y1, y2⟩ := y
  have hc := fun b1 b2 W h1 h2 h3 h4 => cmpSlA x1 x2 y1 y2 b1 b2 W h1 h2 h3 h4
  go_enter Try.func35, Try.ntmps35
  go_wp2
  obtain ⟨W2, hW2⟩ : ∃ W2, (W.alloc (.cells #[.int .i64 x1, .int .i64 x2] 73)).alloc (.cells #[.int .i64 y1, .int .i64 y2] 73) = W2 := ⟨_, rfl⟩
  have f1 : ∀ n, (W2.drewN n).cell? ⟨W.heap.size, 0, none⟩ = some (.int .i64 x1) := fun n => by rw [← hW2]; simp
  have f2 : ∀ n, (W2.drewN n).cell? ⟨W.heap.size, 1, none⟩ = some (.int .i64 x2) := fun n => by rw [← hW2]; simp
  have f3 : ∀ n, (W2.drewN n).cell? ⟨W.heap.size + 1, 0, none⟩ = some (.int .i64 y1) := fun n => by rw [← hW2]; simp
  have f4 : ∀ n, (W2.drewN n).cell? ⟨W.heap.size + 1, 1, none⟩ = some (.int .i64 y2) := fun n => by rw [← hW2]; simp
  rw [hW2]
  go_quiet (first | (go_at_call 36; exact Calls.quiet_of_same (hc _ _ _ (f1 _) (f2 _) (f3 _) (f4 _))))
  go_wp2
  go_ret
  exact ⟨rfl, nq, _, by rw [← hW2, alloc_eq_grow, alloc_eq_grow, grow_grow]; rfl⟩
theorem cmpLaysA (blk off size : Nat) (w : World) : CmpLays Try.prog 35 #[] (fun x : Int × Int => [.int .i64 x.1, .int .i64 x.2]) 2 cfA blk off size w := fun _ _ _ _ x y => closureA x y _
theorem ltA (x y : Int × Int) : ltOf cfA x y = decide (x.1 < y.1 ∨ (x.1 = y.1 ∧ x.2 < y.2)) := by
  unfold ltOf cfA cI
  by_cases h1 : x.1 < y.1
  · simp [h1]
  · by_cases h2 : x.1 > y.1
    · have : ¬ x.1 = y.1 := by omega
      simp [h1, h2, this]
    · have : x.1 = y.1 := by omega
      by_cases h3 : x.2 < y.2
      · simp [this, h3]
      · by_cases h4 : x.2 > y.2 <;> simp [this, h3, h4]
theorem swoA : SWO (ltOf cfA) where
  irrefl x := by rw [ltA]; simp
  trans x y z h1 h2 := by rw [ltA] at *; simp at *; omega
  ntrans x y z h1 h2 := by rw [ltA] at *; simp at *; omega
theorem totA (x y : Int × Int) (h1 : ltOf cfA x y = false) (h2 : ltOf cfA y x = false) : x = y := by
  rw [ltA] at h1 h2
  simp at h1 h2
  exact Prod.ext (by omega) (by omega)
end Go.Sp
