-- Written by wip/tools/myprint.py, a program of this session.
import Derived.Test.YtaddopcbneggiaaQSkyReversesx0
namespace Go.Proofs.Ytaddopcbneggiaa.QSkyReverses
open Go.RowKit Go.Proofs.YtaddopcbneggiaaW.PrintWords Go.Proofs.YtaddopcbneggiaaW.PrintLast Go.Proofs.YtaddopcbneggiaaW.PrintMore
attribute [local go_sem] max2_int min2_int max_two min_two max_three min_three max_four min_four   -- for this text's walks alone
set_option linter.unusedVariables false
set_option linter.unusedSimpArgs false

/-! ### num_Wide_Neg: function 56 -/
def num_Wide_Neg.f (a0_0 a0_1 : Int) : Option (Int × Int) := if 0 ≤ a0_1 ∧ a0_1 ≤ 18446744073709551615 then some (wrap64 ((18446744073709551615 - IntKind.u64.wrap a0_0 + 0 + (18446744073709551615 - a0_1 + 1 + 0) / 18446744073709551616) % 18446744073709551616), (18446744073709551615 - a0_1 + 1 + 0) % 18446744073709551616) else none
theorem num_Wide_Neg.not_u64 (x : Int) (h0 : 0 ≤ x) (h1 : x ≤ 18446744073709551615) : Go.bits .xor .u64 IntKind.u64.max x = 18446744073709551615 - x := by
  obtain ⟨n, rfl⟩ := Int.eq_ofNat_of_zero_le h0
  have hn : n < 2 ^ 64 := by omega
  have e1 : (BitVec.ofInt 64 IntKind.u64.max) = BitVec.allOnes 64 := by decide
  have e2 : (BitVec.ofInt 64 (n : Int)).toNat = n := by simp; omega
  have e3 : (BitVec.allOnes 64 ^^^ BitVec.ofInt 64 (n : Int)) = ~~~ (BitVec.ofInt 64 (n : Int)) := BitVec.allOnes_xor
  have e4 : (~~~ (BitVec.ofInt 64 (n : Int))).toNat = 2 ^ 64 - 1 - n := by rw [BitVec.toNat_not, e2]
  show IntKind.u64.wrap ((BitVec.ofInt 64 IntKind.u64.max ^^^ BitVec.ofInt 64 (n : Int)).toNat : Int) = _
  rw [e1, e3, e4, IntKind.wrap_u64]
  omega
set_option maxHeartbeats 4000000 in
set_option maxRecDepth 100000 in
theorem num_Wide_Neg.calls (a0_0 a0_1 : Int) (r1 r2 : Int) (w : World) (h : num_Wide_Neg.f a0_0 a0_1 = some (r1, r2)) :
    Calls Try.prog 56 #[.agg #[.int .i64 a0_0, .int .u64 a0_1]] w fun e w' => e = .returned (.agg #[.int .i64 r1, .int .u64 r2]) ∧ Below w.heap.size w w' := by
  have hu := Try.underlying95
  unfold num_Wide_Neg.f at h
  by_cases hr : 0 ≤ a0_1 ∧ a0_1 ≤ 18446744073709551615
  · rw [if_pos hr] at h
    have hadd : ∀ (x y c : Int) (W : World), 0 ≤ x → 0 ≤ y → 0 ≤ c → c ≤ 1 → (callFunc 63 #[.int .u64 x, .int .u64 y, .int .u64 c]).run Try.prog W =
        .ok (.value (.tuple #[.int .u64 ((x + y + c) % 18446744073709551616), .int .u64 ((x + y + c) / 18446744073709551616)])) W := by
      intro x y c W hx hy hc0 hc1
      rw [run_callFunc_extern Try.func63 (by kernel_rfl) (by kernel_rfl) (by kernel_rfl) (e := add64Entry) (by kernel_rfl), run_add64 x y c hx hy hc0 hc1]
      rfl
    have n1 := num_Wide_Neg.not_u64 a0_1 hr.1 hr.2
    have hw0 : 0 ≤ IntKind.u64.wrap a0_0 ∧ IntKind.u64.wrap a0_0 ≤ 18446744073709551615 := by rw [IntKind.wrap_u64]; omega
    have n2 := num_Wide_Neg.not_u64 (IntKind.u64.wrap a0_0) hw0.1 hw0.2
    have a1 := hadd (Go.bits .xor .u64 IntKind.u64.max a0_1) 1 0
    have a2 := hadd (Go.bits .xor .u64 IntKind.u64.max (IntKind.u64.wrap a0_0)) 0 ((Go.bits .xor .u64 IntKind.u64.max a0_1 + 1 + 0) / 18446744073709551616)
    rw [n1] at a1 a2
    rw [n2] at a2
    simp only [Option.some.injEq, Prod.mk.injEq] at h
    obtain ⟨h1, h2⟩ := h
    generalize hs1 : (18446744073709551615 - a0_1 + 1 + 0) % 18446744073709551616 = s1 at *
    generalize hc1 : (18446744073709551615 - a0_1 + 1 + 0) / 18446744073709551616 = c1 at *
    generalize hs2 : (18446744073709551615 - IntKind.u64.wrap a0_0 + 0 + c1) % 18446744073709551616 = s2 at *
    generalize hc2 : (18446744073709551615 - IntKind.u64.wrap a0_0 + 0 + c1) / 18446744073709551616 = c2 at *
    have b1 : ∀ W : World, (callFunc 63 #[.int .u64 (Go.bits .xor .u64 IntKind.u64.max a0_1), .int .u64 1, .int .u64 0]).run Try.prog W = .ok (.value (.tuple #[.int .u64 s1, .int .u64 c1])) W := by
      intro W; rw [n1]; exact a1 W (by omega) (by omega) (by omega) (by omega)
    have b2 : ∀ W : World, (callFunc 63 #[.int .u64 (Go.bits .xor .u64 IntKind.u64.max (IntKind.u64.wrap a0_0)), .int .u64 0, .int .u64 c1]).run Try.prog W = .ok (.value (.tuple #[.int .u64 s2, .int .u64 c2])) W := by
      intro W; rw [n2]; exact a2 W (by omega) (by omega) (by omega) (by omega)
    clear hadd n1 n2 a1 a2 hw0 hs1 hc1 hs2 hc2 hr
    subst h1 h2
    go_enter Try.func56, Try.ntmps56
    go_wp2
    go_returns
    exact ⟨rfl, by go_grown⟩
  · rw [if_neg hr] at h
    cases h

end Go.Proofs.Ytaddopcbneggiaa.QSkyReverses
