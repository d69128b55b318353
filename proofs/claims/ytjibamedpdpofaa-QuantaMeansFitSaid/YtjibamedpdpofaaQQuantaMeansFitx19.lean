-- Written by wip/tools/myprint.py, a program of this session.
import Derived.Test.YtjibamedpdpofaaQQuantaMeansFitx0
import Derived.Test.YtjibamedpdpofaaQQuantaMeansFitx9
import Derived.Test.YtjibamedpdpofaaQQuantaMeansFitx13
import Derived.Test.YtjibamedpdpofaaQQuantaMeansFitx14
import Derived.Test.YtjibamedpdpofaaQQuantaMeansFitx17
import Derived.Test.YtjibamedpdpofaaQQuantaMeansFitx18
namespace Go.Proofs.Ytjibamedpdpofaa.QQuantaMeansFit
open Go.RowKit Go.Proofs.YtjibamedpdpofaaW.PrintWords Go.Proofs.YtjibamedpdpofaaW.PrintLast Go.Proofs.YtjibamedpdpofaaW.PrintMore
attribute [local go_sem] max2_int min2_int max_two min_two max_three min_three max_four min_four   -- for this text's walks alone
set_option linter.unusedVariables false
set_option linter.unusedSimpArgs false

/-! ### quanta_Draw: function 16 -/
mutual
def quanta_Draw.j0 : Nat → Int → Int → Int → Int → Option (Int × Int)
  | 0, _, _, _, _ => none
  | k + 1, x0, x1, x8, x9 => quanta_Draw.l0 k x0 x1 x8 x9 1
def quanta_Draw.l0 : Nat → Int → Int → Int → Int → Int → Option (Int × Int)
  | 0, _, _, _, _, _ => none
  | k + 1, x0, x1, x8, x9, x10 => if x10 ≤ 3 then ((quanta_Mix.f x0 (wrap64 ((wrap64 (4 * x1)) + x10))).bind fun t145 => ((quanta_Below.f t145 (wrap64 ((wrap64 (2 * x9)) + 1))).bind fun t146 => (quanta_Draw.l0 k x0 x1 (wrap64 (x8 + (wrap64 (t146 - x9)))) x9 (wrap64 (x10 + 1))))) else (some (mx 0 x8, 0))
end
def quanta_Draw.f (k : Nat) (a0 : Int) (a1 : Int) (a2 : Int) : Option (Int × Int) := (quanta_valid.f a2).bind fun t140 => (if t140 = true then ((quanta_whole.f a2).bind fun t141 => ((quanta_root.f k t141).bind fun t142 => ((quanta_Mix.f a0 (wrap64 (4 * a1))).bind fun t143 => ((quanta_Below.f t143 16777216).bind fun t144 => (if t144 < (Int.tmod a2 16777216) then (quanta_Draw.j0 k a0 a1 (wrap64 (t141 + 1)) t142) else (quanta_Draw.j0 k a0 a1 t141 t142)))))) else (some (0, 4)))
theorem quanta_Draw.mono_l : ∀ k, (∀ y0 y1 y2 y3, LeO (quanta_Draw.j0 k y0 y1 y2 y3) (quanta_Draw.j0 (k + 1) y0 y1 y2 y3)) ∧ (∀ y0 y1 y2 y3 y4, LeO (quanta_Draw.l0 k y0 y1 y2 y3 y4) (quanta_Draw.l0 (k + 1) y0 y1 y2 y3 y4))
  | 0 => ⟨fun _ _ _ _ r h => by simp [quanta_Draw.j0] at h, fun _ _ _ _ _ r h => by simp [quanta_Draw.l0] at h⟩
  | k + 1 => by
    obtain ⟨ih0, ih1⟩ := quanta_Draw.mono_l k
    refine ⟨?_, ?_⟩
    · intro y0 y1 y2 y3
      unfold quanta_Draw.j0
      repeat' first
      | (with_reducible exact ih0 _ _ _ _)
      | (with_reducible exact ih1 _ _ _ _ _)
      | (with_reducible exact quanta_root.mono _ _)
      | (with_reducible exact LeO.refl _)
      | (with_reducible exact LeO.none _)
      | (with_reducible refine LeO.ite ?_ ?_)
      | (with_reducible refine LeO.bind ?_ (fun _ => ?_))
      | exact ih0 _ _ _ _
      | exact ih1 _ _ _ _ _
      | exact quanta_root.mono _ _
      | exact LeO.none _
      | refine LeO.ite ?_ ?_
      | refine LeO.bind ?_ (fun _ => ?_)
    · intro y0 y1 y2 y3 y4
      unfold quanta_Draw.l0
      repeat' first
      | (with_reducible exact ih0 _ _ _ _)
      | (with_reducible exact ih1 _ _ _ _ _)
      | (with_reducible exact quanta_root.mono _ _)
      | (with_reducible exact LeO.refl _)
      | (with_reducible exact LeO.none _)
      | (with_reducible refine LeO.ite ?_ ?_)
      | (with_reducible refine LeO.bind ?_ (fun _ => ?_))
      | exact ih0 _ _ _ _
      | exact ih1 _ _ _ _ _
      | exact quanta_root.mono _ _
      | exact LeO.none _
      | refine LeO.ite ?_ ?_
      | refine LeO.bind ?_ (fun _ => ?_)
theorem quanta_Draw.mono : ∀ a0 a1 a2 k, LeO (quanta_Draw.f k a0 a1 a2) (quanta_Draw.f (k + 1) a0 a1 a2) := by
  intro a0 a1 a2 k
  obtain ⟨ih0, ih1⟩ := quanta_Draw.mono_l k
  unfold quanta_Draw.f
  repeat' first
      | (with_reducible exact ih0 _ _ _ _)
      | (with_reducible exact ih1 _ _ _ _ _)
      | (with_reducible exact quanta_root.mono _ _)
      | (with_reducible exact LeO.refl _)
      | (with_reducible exact LeO.none _)
      | (with_reducible refine LeO.ite ?_ ?_)
      | (with_reducible refine LeO.bind ?_ (fun _ => ?_))
      | exact ih0 _ _ _ _
      | exact ih1 _ _ _ _ _
      | exact quanta_root.mono _ _
      | exact LeO.none _
      | refine LeO.ite ?_ ?_
      | refine LeO.bind ?_ (fun _ => ?_)
set_option maxHeartbeats 8000000 in
set_option maxRecDepth 100000 in
theorem quanta_Draw.calls (k : Nat) (a0 : Int) (a1 : Int) (a2 : Int) (r1 : Int) (r2 : Int) (w : World) (h : quanta_Draw.f k a0 a1 a2 = some (r1, r2)) :
    Calls Try.prog 16 #[.int .u64 a0, .int .i64 a1, .int .i64 a2] w fun e w' => e = .returned (.tuple #[.int .i64 r1, .int .i64 r2]) ∧ Below w.heap.size w w' := by
  have HB := Aside0.mk (Below.refl w.heap.size w)
  have H : ((quanta_valid.f a2).bind fun t140 => (if t140 = true then ((quanta_whole.f a2).bind fun t141 => ((quanta_root.f k t141).bind fun t142 => ((quanta_Mix.f a0 (wrap64 (4 * a1))).bind fun t143 => ((quanta_Below.f t143 16777216).bind fun t144 => (if t144 < (Int.tmod a2 16777216) then (quanta_Draw.j0 k a0 a1 (wrap64 (t141 + 1)) t142) else (quanta_Draw.j0 k a0 a1 t141 t142)))))) else (some (0, 4)))) = some (r1, r2) := h
  clear h
  replace H := Option.bind_eq_some_iff.mp H
  obtain ⟨t140, A40, H⟩ := H
  replace H : (if t140 = true then ((quanta_whole.f a2).bind fun t141 => ((quanta_root.f k t141).bind fun t142 => ((quanta_Mix.f a0 (wrap64 (4 * a1))).bind fun t143 => ((quanta_Below.f t143 16777216).bind fun t144 => (if t144 < (Int.tmod a2 16777216) then (quanta_Draw.j0 k a0 a1 (wrap64 (t141 + 1)) t142) else (quanta_Draw.j0 k a0 a1 t141 t142)))))) else (some (0, 4))) = some (r1, r2) := H
  have A4 := Aside0.mk A40
  clear A40
  by_cases c5 : t140 = true
  · subst c5
    have H1 : ((quanta_whole.f a2).bind fun t141 => ((quanta_root.f k t141).bind fun t142 => ((quanta_Mix.f a0 (wrap64 (4 * a1))).bind fun t143 => ((quanta_Below.f t143 16777216).bind fun t144 => (if t144 < (Int.tmod a2 16777216) then (quanta_Draw.j0 k a0 a1 (wrap64 (t141 + 1)) t142) else (quanta_Draw.j0 k a0 a1 t141 t142)))))) = some (r1, r2) := by rw [if_pos rfl] at H; exact H
    clear H
    have H := H1
    clear H1
    replace H := Option.bind_eq_some_iff.mp H
    obtain ⟨t141, A60, H⟩ := H
    replace H : ((quanta_root.f k t141).bind fun t142 => ((quanta_Mix.f a0 (wrap64 (4 * a1))).bind fun t143 => ((quanta_Below.f t143 16777216).bind fun t144 => (if t144 < (Int.tmod a2 16777216) then (quanta_Draw.j0 k a0 a1 (wrap64 (t141 + 1)) t142) else (quanta_Draw.j0 k a0 a1 t141 t142))))) = some (r1, r2) := H
    have A6 := Aside0.mk A60
    clear A60
    replace H := Option.bind_eq_some_iff.mp H
    obtain ⟨t142, A70, H⟩ := H
    replace H : ((quanta_Mix.f a0 (wrap64 (4 * a1))).bind fun t143 => ((quanta_Below.f t143 16777216).bind fun t144 => (if t144 < (Int.tmod a2 16777216) then (quanta_Draw.j0 k a0 a1 (wrap64 (t141 + 1)) t142) else (quanta_Draw.j0 k a0 a1 t141 t142)))) = some (r1, r2) := H
    have A7 := Aside0.mk A70
    clear A70
    replace H := Option.bind_eq_some_iff.mp H
    obtain ⟨t143, A80, H⟩ := H
    replace H : ((quanta_Below.f t143 16777216).bind fun t144 => (if t144 < (Int.tmod a2 16777216) then (quanta_Draw.j0 k a0 a1 (wrap64 (t141 + 1)) t142) else (quanta_Draw.j0 k a0 a1 t141 t142))) = some (r1, r2) := H
    have A8 := Aside0.mk A80
    clear A80
    replace H := Option.bind_eq_some_iff.mp H
    obtain ⟨t144, A90, H⟩ := H
    replace H : (if t144 < (Int.tmod a2 16777216) then (quanta_Draw.j0 k a0 a1 (wrap64 (t141 + 1)) t142) else (quanta_Draw.j0 k a0 a1 t141 t142)) = some (r1, r2) := H
    have A9 := Aside0.mk A90
    clear A90
    have HC10 := Aside0.mk H
    clear H
    go_enter Try.func16, Try.ntmps16
    go_upto_if 25 with (first | ((with_reducible refine gate_callee (f := 35) rfl ?_); refine goesL_ (some 12) rfl rfl Try.func35 (by kernel_rfl) rfl #[.int .i64 a2] rfl (by (try simp only [List.map_toArray, List.map_cons, List.map_nil]); first | done | rfl | (simp only [List.length_drop, List.length_take]; rfl)) ?_; (with_reducible refine (quanta_valid.calls a2 true _ A4.out).mono ?_); rintro e w' ⟨rfl, ⟨nd, rfl⟩⟩; refine ⟨_, rfl, ?_⟩) | ((with_reducible refine gate_callee (f := 36) rfl ?_); refine goesL_ (some 15) rfl rfl Try.func36 (by kernel_rfl) rfl #[.int .i64 a2] rfl (by (try simp only [List.map_toArray, List.map_cons, List.map_nil]); first | done | rfl | (simp only [List.length_drop, List.length_take]; rfl)) ?_; (with_reducible refine (quanta_whole.calls a2 t141 _ A6.out).mono ?_); rintro e w' ⟨rfl, ⟨nd, rfl⟩⟩; refine ⟨_, rfl, ?_⟩) | ((with_reducible refine gate_callee (f := 38) rfl ?_); refine goesL_ (some 17) rfl rfl Try.func38 (by kernel_rfl) rfl #[.int .i64 t141] rfl (by (try simp only [List.map_toArray, List.map_cons, List.map_nil]); first | done | rfl | (simp only [List.length_drop, List.length_take]; rfl)) ?_; (with_reducible refine (quanta_root.calls k t141 t142 _ A7.out).mono ?_); rintro e w' ⟨rfl, ⟨nd, rfl⟩⟩; refine ⟨_, rfl, ?_⟩) | ((with_reducible refine gate_callee (f := 40) rfl ?_); refine goesL_ (some 21) rfl rfl Try.func40 (by kernel_rfl) rfl #[.int .u64 a0, .int .i64 (wrap64 (4 * a1))] rfl (by (try simp only [List.map_toArray, List.map_cons, List.map_nil]); first | done | rfl | (simp only [List.length_drop, List.length_take]; rfl)) ?_; (with_reducible refine (quanta_Mix.calls a0 (wrap64 (4 * a1)) t143 _ A8.out).mono ?_); rintro e w' ⟨rfl, ⟨nd, rfl⟩⟩; refine ⟨_, rfl, ?_⟩) | ((with_reducible refine gate_callee (f := 39) rfl ?_); refine goesL_ (some 22) rfl rfl Try.func39 (by kernel_rfl) rfl #[.int .u64 t143, .int .i64 16777216] rfl (by (try simp only [List.map_toArray, List.map_cons, List.map_nil]); first | done | rfl | (simp only [List.length_drop, List.length_take]; rfl)) ?_; (with_reducible refine (quanta_Below.calls t143 16777216 t144 _ A9.out).mono ?_); rintro e w' ⟨rfl, ⟨nd, rfl⟩⟩; refine ⟨_, rfl, ?_⟩))
    (try simp only [Act.put, List.setIfInBounds_toArray, List.set_cons_zero, List.set_cons_succ])
    go_cut [8] (fun v8 wc => ∃ (kq : Nat) (x8_9 : Int), v8 = .int .i64 x8_9 ∧ Aside0 (quanta_Draw.j0 kq a0 a1 x8_9 t142 = some (r1, r2)) ∧ Aside0 (kq ≤ k) ∧ Aside0 (Below w.heap.size w wc))
    case first =>
      have H := HC10.out
      clear HC10
      by_cases c11 : t144 < (Int.tmod a2 16777216)
      · rw [if_pos c11] at H
        have c11b0 : decide (t144 < (Int.tmod a2 16777216)) = true := decide_eq_true c11
        clear c11
        (first | rw [c11b0] | (simp only [i64_w, i32_w]; rw [c11b0]) | skip)
        have H' := Aside0.mk H
        clear H
        go_wp2
        go_meet
        case rel => exact ⟨_, (wrap64 (t141 + 1)), (by first | rfl | (simp; done) | (simp [*]; done)), H', ⟨by first | omega | exact Nat.le_refl _⟩, ⟨by repeat (first | (with_reducible first | exact HB.out | apply below_alloc | apply pw_below_drewN | apply below_drew1) | exact HB.out)⟩⟩
      · rw [if_neg c11] at H
        have c11b0 : decide (t144 < (Int.tmod a2 16777216)) = false := decide_eq_false c11
        clear c11
        (first | rw [c11b0] | (simp only [i64_w, i32_w]; rw [c11b0]) | skip)
        have H' := Aside0.mk H
        clear H
        go_wp2
        go_meet
        case rel => exact ⟨_, (t141), (by first | rfl | (simp; done) | (simp [*]; done)), H', ⟨by first | omega | exact Nat.le_refl _⟩, ⟨by repeat (first | (with_reducible first | exact HB.out | apply below_alloc | apply pw_below_drewN | apply below_drew1) | exact HB.out)⟩⟩
    case rest =>
      clear HC10
      try clear c1
      try clear p2
      try clear c3
      try clear c4
      try clear c5
      try clear p6
      try clear c11
      try clear c11b0
      obtain ⟨kq, x8_9, rfl, HA, HJ9, HB⟩ := hcut
      cases kq with
      | zero => exact absurd HA.out (by simp [quanta_Draw.j0])
      | succ kj9 =>
        have H := HA.out
        clear HA
        simp only [quanta_Draw.j0] at H
        have H' := Aside0.mk H
        clear H
        go_wp2
        go_loopg [8, 10] kj9 (fun kq v8 v10 w' => ∃ (x8_2 : Int) (x10_2 : Int), v8 = .int .i64 x8_2 ∧ v10 = .int .i64 x10_2 ∧ Aside0 (quanta_Draw.l0 kq a0 a1 x8_2 t142 x10_2 = some (r1, r2)) ∧ Aside0 (kq ≤ kj9) ∧ Aside0 (Below w.heap.size w w'))
        case atStart => exact ⟨(x8_9), (1), (by first | rfl | (simp; done) | (simp [*]; done)), (by first | rfl | (simp; done) | (simp [*]; done)), H', ⟨Nat.le_refl _⟩, ⟨by repeat (first | (with_reducible first | exact HB.out | apply below_alloc | apply pw_below_drewN | apply below_drew1) | exact HB.out)⟩⟩
        case round =>
          clear H'
          try clear c1
          try clear p2
          try clear c3
          try clear c4
          try clear c5
          try clear p6
          try clear c11
          try clear c11b0
          try clear p2
          try clear p6
          obtain ⟨x8_2, x10_2, rfl, rfl, HA, HK2, HB⟩ := hrel
          cases gk with
          | zero => exact absurd HA.out (by simp [quanta_Draw.l0])
          | succ k2 =>
            have H := HA.out
            clear HA
            simp only [quanta_Draw.l0] at H
            by_cases c12 : x10_2 ≤ 3
            · rw [if_pos c12] at H
              have c12b0 : decide (x10_2 ≤ 3) = true := decide_eq_true c12
              clear c12
              replace H := Option.bind_eq_some_iff.mp H
              obtain ⟨t145, A130, H⟩ := H
              replace H : ((quanta_Below.f t145 (wrap64 ((wrap64 (2 * t142)) + 1))).bind fun t146 => (quanta_Draw.l0 k2 a0 a1 (wrap64 (x8_2 + (wrap64 (t146 - t142)))) t142 (wrap64 (x10_2 + 1)))) = some (r1, r2) := H
              have A13 := Aside0.mk A130
              clear A130
              replace H := Option.bind_eq_some_iff.mp H
              obtain ⟨t146, A140, H⟩ := H
              replace H : (quanta_Draw.l0 k2 a0 a1 (wrap64 (x8_2 + (wrap64 (t146 - t142)))) t142 (wrap64 (x10_2 + 1))) = some (r1, r2) := H
              have A14 := Aside0.mk A140
              clear A140
              have H' := Aside0.mk H
              clear H
              go_wp2_with (first | ((with_reducible refine gate_callee (f := 40) rfl ?_); refine goesL_ (some 38) rfl rfl Try.func40 (by kernel_rfl) rfl #[.int .u64 a0, .int .i64 (wrap64 ((wrap64 (4 * a1)) + x10_2))] rfl (by (try simp only [List.map_toArray, List.map_cons, List.map_nil]); first | done | rfl | (simp only [List.length_drop, List.length_take]; rfl)) ?_; (with_reducible refine (quanta_Mix.calls a0 (wrap64 ((wrap64 (4 * a1)) + x10_2)) t145 _ A13.out).mono ?_); rintro e w' ⟨rfl, ⟨nd, rfl⟩⟩; refine ⟨_, rfl, ?_⟩) | ((with_reducible refine gate_callee (f := 39) rfl ?_); refine goesL_ (some 42) rfl rfl Try.func39 (by kernel_rfl) rfl #[.int .u64 t145, .int .i64 (wrap64 ((wrap64 (2 * t142)) + 1))] rfl (by (try simp only [List.map_toArray, List.map_cons, List.map_nil]); first | done | rfl | (simp only [List.length_drop, List.length_take]; rfl)) ?_; (with_reducible refine (quanta_Below.calls t145 (wrap64 ((wrap64 (2 * t142)) + 1)) t146 _ A14.out).mono ?_); rintro e w' ⟨rfl, ⟨nd, rfl⟩⟩; refine ⟨_, rfl, ?_⟩))
              go_roundg k2
              case measure => have := HJ9.out; have := HK2.out; omega
              case rel => exact ⟨(wrap64 (x8_2 + (wrap64 (t146 - t142)))), (wrap64 (x10_2 + 1)), (by first | rfl | (simp; done) | (simp [*]; done)), (by first | rfl | (simp; done) | (simp [*]; done)), H', ⟨by have := HJ9.out; have := HK2.out; omega⟩, ⟨by repeat (first | (with_reducible first | exact HB.out | apply below_alloc | apply pw_below_drewN | apply below_drew1) | exact HB.out)⟩⟩
            · rw [if_neg c12] at H
              have c12b0 : decide (x10_2 ≤ 3) = false := decide_eq_false c12
              clear c12
              obtain ⟨ji15, hji15⟩ : ∃ j_ : Int, (mx 0 x8_2) = j_ := ⟨_, rfl⟩
              replace H : (some (ji15, 0)) = some (r1, r2) := by first | (rw [hji15] at H; exact H) | (simp only [hji15] at H ⊢; exact H)
              have hji15_ : (if 0 < x8_2 then x8_2 else 0) = ji15 := hji15
              simp only [Option.some.injEq, Prod.mk.injEq] at H
              obtain ⟨rfl, rfl⟩ := H
              go_wp2
              go_ret2
              exact ⟨by first | rfl | (simp [errW_none, errW_some] <;> rfl) | (simp only [← hji15]; first | rfl | (simp [errW_none, errW_some] <;> rfl)) | (simp [*, errW_none, errW_some] <;> rfl), by repeat (first | (with_reducible first | exact HB.out | apply below_alloc | apply pw_below_drewN | apply below_drew1) | exact HB.out)⟩
  · replace c5 := Bool.eq_false_iff.mpr c5
    subst c5
    have H1 : (some (0, 4)) = some (r1, r2) := by rw [if_neg (show ¬ (false = true) by decide)] at H; exact H
    clear H
    have H := H1
    clear H1
    simp only [Option.some.injEq, Prod.mk.injEq] at H
    obtain ⟨rfl, rfl⟩ := H
    go_enter Try.func16, Try.ntmps16
    go_wp2_with (first | ((with_reducible refine gate_callee (f := 35) rfl ?_); refine goesL_ (some 12) rfl rfl Try.func35 (by kernel_rfl) rfl #[.int .i64 a2] rfl (by (try simp only [List.map_toArray, List.map_cons, List.map_nil]); first | done | rfl | (simp only [List.length_drop, List.length_take]; rfl)) ?_; (with_reducible refine (quanta_valid.calls a2 false _ A4.out).mono ?_); rintro e w' ⟨rfl, ⟨nd, rfl⟩⟩; refine ⟨_, rfl, ?_⟩))
    go_ret2
    exact ⟨by first | rfl | (simp [errW_none, errW_some] <;> rfl) | (simp [*, errW_none, errW_some] <;> rfl), by repeat (first | (with_reducible first | exact HB.out | apply below_alloc | apply pw_below_drewN | apply below_drew1) | exact HB.out)⟩

end Go.Proofs.Ytjibamedpdpofaa.QQuantaMeansFit
