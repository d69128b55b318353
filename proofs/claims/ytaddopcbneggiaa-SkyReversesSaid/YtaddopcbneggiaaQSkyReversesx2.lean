-- Written by wip/tools/myprint.py, a program of this session.
import Derived.Test.YtaddopcbneggiaaQSkyReversesx0
namespace Go.Proofs.Ytaddopcbneggiaa.QSkyReverses
open Go.RowKit Go.Proofs.YtaddopcbneggiaaW.PrintWords Go.Proofs.YtaddopcbneggiaaW.PrintLast Go.Proofs.YtaddopcbneggiaaW.PrintMore
attribute [local go_sem] max2_int min2_int max_two min_two max_three min_three max_four min_four   -- for this text's walks alone
set_option linter.unusedVariables false
set_option linter.unusedSimpArgs false

/-! ### sky_within: function 26 -/
def sky_within.f (a0_0 a0_1 a0_2 a1 : Int) : Option Bool := some (!(decide (a0_0 < wrap64 (-a1)) || decide (a0_0 > a1) || (decide (a0_1 < wrap64 (-a1)) || decide (a0_1 > a1)) || (decide (a0_2 < wrap64 (-a1)) || decide (a0_2 > a1))))
set_option maxHeartbeats 4000000 in
set_option maxRecDepth 100000 in
theorem sky_within.calls (a0_0 a0_1 a0_2 a1 : Int) (r : Bool) (w : World) (h : sky_within.f a0_0 a0_1 a0_2 a1 = some r) :
    Calls Try.prog 26 #[.agg #[.int .i64 a0_0, .int .i64 a0_1, .int .i64 a0_2], .int .i64 a1] w fun e w' => e = .returned (.bool r) ∧ Below w.heap.size w w' := by
  have hu := Try.underlying23
  have i0 : ∀ W : World, (Instr.index 50 (.agg #[.int .i64 a0_0, .int .i64 a0_1, .int .i64 a0_2]) (.int .i64 0)).run Try.prog W = .ok (.int .i64 a0_0) W := fun _ => by kernel_rfl
  have i1 : ∀ W : World, (Instr.index 50 (.agg #[.int .i64 a0_0, .int .i64 a0_1, .int .i64 a0_2]) (.int .i64 1)).run Try.prog W = .ok (.int .i64 a0_1) W := fun _ => by kernel_rfl
  have i2 : ∀ W : World, (Instr.index 50 (.agg #[.int .i64 a0_0, .int .i64 a0_1, .int .i64 a0_2]) (.int .i64 2)).run Try.prog W = .ok (.int .i64 a0_2) W := fun _ => by kernel_rfl
  obtain rfl := Option.some.inj h
  clear h
  go_enter Try.func26, Try.ntmps26
  go_wp2
  go_rounds 4
  all_goals
    try go_wp2
    go_returns
    refine ⟨congrArg (fun b => Ending.returned (.bool b)) ?_, by go_grown⟩
    clear i0 i1 i2 hu
    simp
    try omega

end Go.Proofs.Ytaddopcbneggiaa.QSkyReverses
