-- Written by wip/tools/myprint.py, a program of this session.
import Derived.Test.YtjibamedpdpofaaQQuantaMeansFitx0
import Derived.Test.YtjibamedpdpofaaQQuantaMeansFitx9
namespace Go.Proofs.Ytjibamedpdpofaa.QQuantaMeansFit
open Go.RowKit Go.Proofs.YtjibamedpdpofaaW.PrintWords Go.Proofs.YtjibamedpdpofaaW.PrintLast Go.Proofs.YtjibamedpdpofaaW.PrintMore
attribute [local go_sem] max2_int min2_int max_two min_two max_three min_three max_four min_four   -- for this text's walks alone
set_option linter.unusedVariables false
set_option linter.unusedSimpArgs false

/-! ### quanta_most: function 33 -/
def quanta_most.f (k : Nat) (a0 : Int) : Option (Int) := (quanta_root.f k (wrap64 (9 + (wrap64 (4 * a0))))).bind fun t116 => (some (wrap64 ((mn (wrap64 ((wrap64 ((wrap64 (Int.tdiv (wrap64 (3 + t116)) 2)) * (wrap64 (Int.tdiv (wrap64 (3 + t116)) 2)))) + (wrap64 (2 * (wrap64 (Int.tdiv (wrap64 (3 + t116)) 2)))))) (wrap64 (a0 + (wrap64 (3 * (wrap64 (Int.tdiv (wrap64 (3 + t116)) 2))))))) + 1)))
theorem quanta_most.mono : ∀ a0 k, LeO (quanta_most.f k a0) (quanta_most.f (k + 1) a0) := by
  intro a0 k
  unfold quanta_most.f
  repeat' first
      | (with_reducible exact quanta_root.mono _ _)
      | (with_reducible exact LeO.refl _)
      | (with_reducible exact LeO.none _)
      | (with_reducible refine LeO.ite ?_ ?_)
      | (with_reducible refine LeO.bind ?_ (fun _ => ?_))
      | exact quanta_root.mono _ _
      | exact LeO.none _
      | refine LeO.ite ?_ ?_
      | refine LeO.bind ?_ (fun _ => ?_)
set_option maxHeartbeats 8000000 in
set_option maxRecDepth 100000 in
theorem quanta_most.calls (k : Nat) (a0 : Int) (r : Int) (w : World) (h : quanta_most.f k a0 = some r) :
    Calls Try.prog 33 #[.int .i64 a0] w fun e w' => e = .returned (.int .i64 r) ∧ Below w.heap.size w w' := by
  have HB := Aside0.mk (Below.refl w.heap.size w)
  have H : ((quanta_root.f k (wrap64 (9 + (wrap64 (4 * a0))))).bind fun t116 => (some (wrap64 ((mn (wrap64 ((wrap64 ((wrap64 (Int.tdiv (wrap64 (3 + t116)) 2)) * (wrap64 (Int.tdiv (wrap64 (3 + t116)) 2)))) + (wrap64 (2 * (wrap64 (Int.tdiv (wrap64 (3 + t116)) 2)))))) (wrap64 (a0 + (wrap64 (3 * (wrap64 (Int.tdiv (wrap64 (3 + t116)) 2))))))) + 1)))) = some r := h
  clear h
  replace H := Option.bind_eq_some_iff.mp H
  obtain ⟨t116, A20, H⟩ := H
  replace H : (some (wrap64 ((mn (wrap64 ((wrap64 ((wrap64 (Int.tdiv (wrap64 (3 + t116)) 2)) * (wrap64 (Int.tdiv (wrap64 (3 + t116)) 2)))) + (wrap64 (2 * (wrap64 (Int.tdiv (wrap64 (3 + t116)) 2)))))) (wrap64 (a0 + (wrap64 (3 * (wrap64 (Int.tdiv (wrap64 (3 + t116)) 2))))))) + 1))) = some r := H
  have A2 := Aside0.mk A20
  clear A20
  obtain ⟨ji3, hji3⟩ : ∃ j_ : Int, (mn (wrap64 ((wrap64 ((wrap64 (Int.tdiv (wrap64 (3 + t116)) 2)) * (wrap64 (Int.tdiv (wrap64 (3 + t116)) 2)))) + (wrap64 (2 * (wrap64 (Int.tdiv (wrap64 (3 + t116)) 2)))))) (wrap64 (a0 + (wrap64 (3 * (wrap64 (Int.tdiv (wrap64 (3 + t116)) 2))))))) = j_ := ⟨_, rfl⟩
  replace H : (some (wrap64 ((ji3) + 1))) = some r := by first | (rw [hji3] at H; exact H) | (simp only [hji3] at H ⊢; exact H)
  (try rw [hji3] at A2)
  have hji3_ : (if (wrap64 (a0 + (wrap64 (3 * (wrap64 (Int.tdiv (wrap64 (3 + t116)) 2)))))) < (wrap64 ((wrap64 ((wrap64 (Int.tdiv (wrap64 (3 + t116)) 2)) * (wrap64 (Int.tdiv (wrap64 (3 + t116)) 2)))) + (wrap64 (2 * (wrap64 (Int.tdiv (wrap64 (3 + t116)) 2)))))) then (wrap64 (a0 + (wrap64 (3 * (wrap64 (Int.tdiv (wrap64 (3 + t116)) 2)))))) else (wrap64 ((wrap64 ((wrap64 (Int.tdiv (wrap64 (3 + t116)) 2)) * (wrap64 (Int.tdiv (wrap64 (3 + t116)) 2)))) + (wrap64 (2 * (wrap64 (Int.tdiv (wrap64 (3 + t116)) 2))))))) = ji3 := hji3
  obtain rfl := Option.some.inj H
  go_enter Try.func33, Try.ntmps33
  go_wp2_with (first | ((with_reducible refine gate_callee (f := 38) rfl ?_); refine goesL_ (some 7) rfl rfl Try.func38 (by kernel_rfl) rfl #[.int .i64 (wrap64 (9 + (wrap64 (4 * a0))))] rfl (by (try simp only [List.map_toArray, List.map_cons, List.map_nil]); first | done | rfl | (simp only [List.length_drop, List.length_take]; rfl)) ?_; (with_reducible refine (quanta_root.calls k (wrap64 (9 + (wrap64 (4 * a0)))) t116 _ A2.out).mono ?_); rintro e w' ⟨rfl, ⟨nd, rfl⟩⟩; refine ⟨_, rfl, ?_⟩))
  go_ret
  exact ⟨by first | rfl | (simp [errW_none, errW_some] <;> rfl) | (simp only [← hji3]; first | rfl | (simp [errW_none, errW_some] <;> rfl)) | (simp [*, errW_none, errW_some] <;> rfl), by repeat (first | (with_reducible first | exact HB.out | apply below_alloc | apply pw_below_drewN | apply below_drew1) | exact HB.out)⟩

end Go.Proofs.Ytjibamedpdpofaa.QQuantaMeansFit
