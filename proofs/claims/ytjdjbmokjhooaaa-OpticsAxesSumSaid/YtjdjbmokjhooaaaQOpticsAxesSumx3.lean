-- Written by wip/tools/myprint.py, a program of this session.
import Derived.Test.YtjdjbmokjhooaaaQOpticsAxesSumx0
import Derived.Test.YtjdjbmokjhooaaaQOpticsAxesSumx1
import Derived.Test.YtjdjbmokjhooaaaQOpticsAxesSumx2
namespace Go.Proofs.Ytjdjbmokjhooaaa.QOpticsAxesSum
open Go.RowKit Go.Proofs.YtjdjbmokjhooaaaW.PrintWords Go.Proofs.YtjdjbmokjhooaaaW.PrintLast Go.Proofs.YtjdjbmokjhooaaaW.PrintMore
attribute [local go_sem] max2_int min2_int max_two min_two max_three min_three max_four min_four   -- for this text's walks alone
set_option linter.unusedVariables false
set_option linter.unusedSimpArgs false

attribute [local go_sem high] eqA45
/-! ### spykeep3_spreads: function 9 -/
def spykeep3_spreads.f (k : Nat)  : Option (Bool) := (optics_Point.f k 128 128 1 1).bind fun bt131 => (if bt131.2 = 0 then (if (bt131.1.length : Int) = 9 then (if 4 < (bt131.1.length : Int) then (some (((rd_T45 bt131.1 4).f0) == 0 && (((rd_T45 bt131.1 4).f1) == 0 && (((rd_T45 bt131.1 4).f2) == 9437184)))) else (none)) else (some false)) else (some false))
theorem spykeep3_spreads.mono : ∀ k, LeO (spykeep3_spreads.f k ) (spykeep3_spreads.f (k + 1) ) := by
  intro  k
  unfold spykeep3_spreads.f
  repeat' first
      | (with_reducible exact optics_Point.mono _ _ _ _ _)
      | (with_reducible exact LeO.refl _)
      | (with_reducible exact LeO.none _)
      | (with_reducible refine LeO.ite ?_ ?_)
      | (with_reducible refine LeO.bind ?_ (fun _ => ?_))
      | exact optics_Point.mono _ _ _ _ _
      | exact LeO.none _
      | refine LeO.ite ?_ ?_
      | refine LeO.bind ?_ (fun _ => ?_)
set_option maxHeartbeats 8000000 in
set_option maxRecDepth 100000 in
theorem spykeep3_spreads.calls (k : Nat)  (r : Bool) (w : World) (h : spykeep3_spreads.f k  = some r) :
    Calls Try.prog 9 #[] w fun e w' => e = .returned (.bool r) ∧ Below w.heap.size w w' := by
  have hu35 := Try.underlying35
  have hu45 := Try.underlying45
  have HB := Aside0.mk (Below.refl w.heap.size w)
  have H : ((optics_Point.f k 128 128 1 1).bind fun bt131 => (if bt131.2 = 0 then (if (bt131.1.length : Int) = 9 then (if 4 < (bt131.1.length : Int) then (some (((rd_T45 bt131.1 4).f0) == 0 && (((rd_T45 bt131.1 4).f1) == 0 && (((rd_T45 bt131.1 4).f2) == 9437184)))) else (none)) else (some false)) else (some false))) = some r := h
  clear h
  replace H := Option.bind_eq_some_iff.mp H
  obtain ⟨⟨t131, t134⟩, A10, H⟩ := H
  replace H : (if t134 = 0 then (if (t131.length : Int) = 9 then (if 4 < (t131.length : Int) then (some (((rd_T45 t131 4).f0) == 0 && (((rd_T45 t131 4).f1) == 0 && (((rd_T45 t131 4).f2) == 9437184)))) else (none)) else (some false)) else (some false)) = some r := H
  have A1 := Aside0.mk A10
  clear A10
  by_cases c2 : t134 = 0
  · rw [if_pos c2] at H
    have c2b0 : (t134 == 0) = true := beq_iff_eq.mpr c2
    have c2b1 : (t134 != 0) = false := bne_eq_false_iff_eq.mpr c2
    clear c2
    by_cases c3 : (t131.length : Int) = 9
    · rw [if_pos c3] at H
      have c3b0 : ((t131.length : Int) == 9) = true := beq_iff_eq.mpr c3
      have c3b1 : ((t131.length : Int) != 9) = false := bne_eq_false_iff_eq.mpr c3
      clear c3
      by_cases c4 : 4 < (t131.length : Int)
      · rw [if_pos c4] at H
        have c4b0 : decide (4 < (t131.length : Int)) = true := decide_eq_true c4
        have c4b1 : decide (4 < t131.length) = true := decide_eq_true (by omega)
        clear c4
        obtain rfl := Option.some.inj H
        go_enter Try.func9, Try.ntmps9
        go_wp2_with (first | ((with_reducible refine gate_callee (f := 11) rfl ?_); refine goesL_ (some 5) rfl rfl Try.func11 (by kernel_rfl) rfl #[.agg #[.int .i64 128, .int .i64 128], .int .i64 1, .int .i64 1] rfl (by (try simp only [List.map_toArray, List.map_cons, List.map_nil]); first | done | rfl | (simp only [List.length_drop, List.length_take]; rfl)) ?_; (with_reducible refine (optics_Point.calls k 128 128 1 1 t131 t134 _ A1.out).mono ?_); rintro e w5 ⟨v132, rfl, ho0, hb⟩; refine ⟨_, rfl, ?_⟩; have n0_ := Aside0.mk (Kd.R_lower ho0 (below_size (by repeat (first | (with_reducible first | exact HB.out | apply below_alloc | apply pw_below_drewN | apply below_drew1) | exact HB.out)))); have n1_ := Aside0.mk (below_step (by repeat (first | (with_reducible first | exact HB.out | apply below_alloc | apply pw_below_drewN | apply below_drew1) | exact HB.out)) hb); clear HB; have HO133 := n0_; have HB := n1_; clear n0_ n1_; (try clear hb); (try clear hb2); (try clear hk); (try clear hi); (try clear ho0); obtain ⟨Ao6, co6, eo6⟩ := Kd.R_slice HO133.out; subst eo6; have p135 : 0 ≤ (4 : Int) := (by omega); have q135 : 4 < (t131.length : Int) := of_decide_eq_true (by first | (with_reducible assumption) | assumption); obtain ⟨ad135, e135, hx135_0, hx135_1, hx135_2⟩ := at_T45 (Kd.R_reads' HO133.out).2.2 4 p135 q135; cases e135; (try simp only [show (4 : Int).toNat = 4 from rfl, Nat.reduceMul, Nat.reduceEqDiff, Go.Addr.add, ↓reduceIte] at hx135_0); (try simp only [show (4 : Int).toNat = 4 from rfl, Nat.reduceMul, Nat.reduceEqDiff, Go.Addr.add, ↓reduceIte] at hx135_1); (try simp only [show (4 : Int).toNat = 4 from rfl, Nat.reduceMul, Nat.reduceEqDiff, Go.Addr.add, ↓reduceIte] at hx135_2); have qi135 : (4 < t131.length) = True := eq_true (by omega); (try rw [show ((4 : Int)).toNat = 4 from rfl] at hx135_0); (try rw [show 4 * 3 = 12 from rfl] at hx135_0); (try rw [show ((4 : Int)).toNat = 4 from rfl] at hx135_1); (try rw [show 4 * 3 = 12 from rfl] at hx135_1); (try rw [show ((4 : Int)).toNat = 4 from rfl] at hx135_2); (try rw [show 4 * 3 = 12 from rfl] at hx135_2); replace p135 := eq_true p135; replace q135 := eq_true q135))
        go_ret
        exact ⟨by first | rfl | (simp [errW_none, errW_some] <;> rfl) | (simp [*, errW_none, errW_some] <;> rfl), by repeat (first | (with_reducible first | exact HB.out | apply below_alloc | apply pw_below_drewN | apply below_drew1) | exact HB.out)⟩
      · rw [if_neg c4] at H
        exact absurd H (by simp)
    · rw [if_neg c3] at H
      have c3b0 : ((t131.length : Int) == 9) = false := beq_eq_false_iff_ne.mpr c3
      have c3b1 : ((t131.length : Int) != 9) = true := bne_iff_ne.mpr c3
      obtain rfl := Option.some.inj H
      go_enter Try.func9, Try.ntmps9
      go_wp2_with (first | ((with_reducible refine gate_callee (f := 11) rfl ?_); refine goesL_ (some 5) rfl rfl Try.func11 (by kernel_rfl) rfl #[.agg #[.int .i64 128, .int .i64 128], .int .i64 1, .int .i64 1] rfl (by (try simp only [List.map_toArray, List.map_cons, List.map_nil]); first | done | rfl | (simp only [List.length_drop, List.length_take]; rfl)) ?_; (with_reducible refine (optics_Point.calls k 128 128 1 1 t131 t134 _ A1.out).mono ?_); rintro e w7 ⟨v132, rfl, ho0, hb⟩; refine ⟨_, rfl, ?_⟩; have n0_ := Aside0.mk (Kd.R_lower ho0 (below_size (by repeat (first | (with_reducible first | exact HB.out | apply below_alloc | apply pw_below_drewN | apply below_drew1) | exact HB.out)))); have n1_ := Aside0.mk (below_step (by repeat (first | (with_reducible first | exact HB.out | apply below_alloc | apply pw_below_drewN | apply below_drew1) | exact HB.out)) hb); clear HB; have HO133 := n0_; have HB := n1_; clear n0_ n1_; (try clear hb); (try clear hb2); (try clear hk); (try clear hi); (try clear ho0); obtain ⟨Ao8, co8, eo8⟩ := Kd.R_slice HO133.out; subst eo8))
      go_ret
      exact ⟨by first | rfl | (simp [errW_none, errW_some] <;> rfl) | (simp [*, errW_none, errW_some] <;> rfl), by repeat (first | (with_reducible first | exact HB.out | apply below_alloc | apply pw_below_drewN | apply below_drew1) | exact HB.out)⟩
  · rw [if_neg c2] at H
    have c2b0 : (t134 == 0) = false := beq_eq_false_iff_ne.mpr c2
    have c2b1 : (t134 != 0) = true := bne_iff_ne.mpr c2
    obtain rfl := Option.some.inj H
    go_enter Try.func9, Try.ntmps9
    go_wp2_with (first | ((with_reducible refine gate_callee (f := 11) rfl ?_); refine goesL_ (some 5) rfl rfl Try.func11 (by kernel_rfl) rfl #[.agg #[.int .i64 128, .int .i64 128], .int .i64 1, .int .i64 1] rfl (by (try simp only [List.map_toArray, List.map_cons, List.map_nil]); first | done | rfl | (simp only [List.length_drop, List.length_take]; rfl)) ?_; (with_reducible refine (optics_Point.calls k 128 128 1 1 t131 t134 _ A1.out).mono ?_); rintro e w9 ⟨v132, rfl, ho0, hb⟩; refine ⟨_, rfl, ?_⟩; have n0_ := Aside0.mk (Kd.R_lower ho0 (below_size (by repeat (first | (with_reducible first | exact HB.out | apply below_alloc | apply pw_below_drewN | apply below_drew1) | exact HB.out)))); have n1_ := Aside0.mk (below_step (by repeat (first | (with_reducible first | exact HB.out | apply below_alloc | apply pw_below_drewN | apply below_drew1) | exact HB.out)) hb); clear HB; have HO133 := n0_; have HB := n1_; clear n0_ n1_; (try clear hb); (try clear hb2); (try clear hk); (try clear hi); (try clear ho0)))
    go_ret
    exact ⟨by first | rfl | (simp [errW_none, errW_some] <;> rfl) | (simp [*, errW_none, errW_some] <;> rfl), by repeat (first | (with_reducible first | exact HB.out | apply below_alloc | apply pw_below_drewN | apply below_drew1) | exact HB.out)⟩

/-! ### spykeep3_OpticsAxesSum: function 3 -/
mutual
def spykeep3_OpticsAxesSum.j0 : Nat → Int → Int → List (S32) → Bool → Option (Bool)
  | 0, _, _, _, _ => none
  | k + 1, x0, x1, x5, x26 => if x26 = true then (some false) else (spykeep3_OpticsAxesSum.l0 k x0 x1 x5 (x0 / 256) 0 0 x5 (x5.length : Int) 0)
def spykeep3_OpticsAxesSum.l0 : Nat → Int → Int → List (S32) → Int → Int → Int → List (S32) → Int → Int → Option (Bool)
  | 0, _, _, _, _, _, _, _, _, _ => none
  | k + 1, x0, x1, x5, x7, x8, x9, x29, x30, x31 => if x31 < x30 then (if 0 ≤ x31 then (if x31 < (x29.length : Int) then (if ((rd_T32 x29 x31).f1) ≤ 0 then (spykeep3_OpticsAxesSum.j2 k x0 x1 x5 x7 x8 x9 x31 x29 x30 x31 true ((rd_T32 x29 x31).f0) ((rd_T32 x29 x31).f1)) else ((spykeep3_half.f x1).bind fun t144 => (if ((rd_T32 x29 x31).f0) < (wrap64 (x7 - t144)) then (spykeep3_OpticsAxesSum.j2 k x0 x1 x5 x7 x8 x9 x31 x29 x30 x31 true ((rd_T32 x29 x31).f0) ((rd_T32 x29 x31).f1)) else (spykeep3_OpticsAxesSum.j2 k x0 x1 x5 x7 x8 x9 x31 x29 x30 x31 (decide (((rd_T32 x29 x31).f0) > (wrap64 (x7 + t144)))) ((rd_T32 x29 x31).f0) ((rd_T32 x29 x31).f1))))) else (none)) else (none)) else (if x8 = 4096 then (some (x9 == (wrap64 (4096 * (wrap64 ((wrap64 ((x0 / 16) * 16)) + 8)))))) else (some false))
def spykeep3_OpticsAxesSum.j2 : Nat → Int → Int → List (S32) → Int → Int → Int → Int → List (S32) → Int → Int → Bool → Int → Int → Option (Bool)
  | 0, _, _, _, _, _, _, _, _, _, _, _, _, _ => none
  | k + 1, x0, x1, x5, x7, x8, x9, x10, x29, x30, x31, x56, x144000, x144001 => if x56 = true then (some false) else (if x10 > 0 then (if 0 ≤ (wrap64 (x10 - 1)) then (if (wrap64 (x10 - 1)) < (x5.length : Int) then (if x144000 = (wrap64 (((rd_T32 x5 (wrap64 (x10 - 1))).f0) + 1)) then (if x144000 ≤ x7 then (if x144001 < ((rd_T32 x5 (wrap64 (x10 - 1))).f1) then (some false) else (if x144000 > x7 then (if x144001 > ((rd_T32 x5 (wrap64 (x10 - 1))).f1) then (some false) else (spykeep3_OpticsAxesSum.l0 k x0 x1 x5 x7 (wrap64 (x8 + x144001)) (wrap64 (x9 + (wrap64 (x144001 * (wrap64 ((wrap64 (256 * x144000)) + 128)))))) x29 x30 (wrap64 (x31 + 1)))) else (spykeep3_OpticsAxesSum.l0 k x0 x1 x5 x7 (wrap64 (x8 + x144001)) (wrap64 (x9 + (wrap64 (x144001 * (wrap64 ((wrap64 (256 * x144000)) + 128)))))) x29 x30 (wrap64 (x31 + 1))))) else (if x144000 > x7 then (if x144001 > ((rd_T32 x5 (wrap64 (x10 - 1))).f1) then (some false) else (spykeep3_OpticsAxesSum.l0 k x0 x1 x5 x7 (wrap64 (x8 + x144001)) (wrap64 (x9 + (wrap64 (x144001 * (wrap64 ((wrap64 (256 * x144000)) + 128)))))) x29 x30 (wrap64 (x31 + 1)))) else (spykeep3_OpticsAxesSum.l0 k x0 x1 x5 x7 (wrap64 (x8 + x144001)) (wrap64 (x9 + (wrap64 (x144001 * (wrap64 ((wrap64 (256 * x144000)) + 128)))))) x29 x30 (wrap64 (x31 + 1))))) else (some false)) else (none)) else (none)) else (spykeep3_OpticsAxesSum.l0 k x0 x1 x5 x7 (wrap64 (x8 + x144001)) (wrap64 (x9 + (wrap64 (x144001 * (wrap64 ((wrap64 (256 * x144000)) + 128)))))) x29 x30 (wrap64 (x31 + 1))))
end
def spykeep3_OpticsAxesSum.f (k : Nat) (a0 : Int) (a1 : Int) : Option (Bool) := (spykeep3_half.f a1).bind fun t136 => ((optics_Axis.f k (Int.tmod a0 65536) t136).bind fun bt137 => ((spykeep3_spreads.f k).bind fun t141 => (if t141 = true then (spykeep3_OpticsAxesSum.j0 k (Int.tmod a0 65536) a1 bt137.1 (bt137.2 != 0)) else (spykeep3_OpticsAxesSum.j0 k (Int.tmod a0 65536) a1 bt137.1 true))))
theorem spykeep3_OpticsAxesSum.mono_l : ∀ k, (∀ y0 y1 y2 y3, LeO (spykeep3_OpticsAxesSum.j0 k y0 y1 y2 y3) (spykeep3_OpticsAxesSum.j0 (k + 1) y0 y1 y2 y3)) ∧ (∀ y0 y1 y2 y3 y4 y5 y6 y7 y8, LeO (spykeep3_OpticsAxesSum.l0 k y0 y1 y2 y3 y4 y5 y6 y7 y8) (spykeep3_OpticsAxesSum.l0 (k + 1) y0 y1 y2 y3 y4 y5 y6 y7 y8)) ∧ (∀ y0 y1 y2 y3 y4 y5 y6 y7 y8 y9 y10 y11 y12, LeO (spykeep3_OpticsAxesSum.j2 k y0 y1 y2 y3 y4 y5 y6 y7 y8 y9 y10 y11 y12) (spykeep3_OpticsAxesSum.j2 (k + 1) y0 y1 y2 y3 y4 y5 y6 y7 y8 y9 y10 y11 y12))
  | 0 => ⟨fun _ _ _ _ r h => by simp [spykeep3_OpticsAxesSum.j0] at h, fun _ _ _ _ _ _ _ _ _ r h => by simp [spykeep3_OpticsAxesSum.l0] at h, fun _ _ _ _ _ _ _ _ _ _ _ _ _ r h => by simp [spykeep3_OpticsAxesSum.j2] at h⟩
  | k + 1 => by
    obtain ⟨ih0, ih1, ih2⟩ := spykeep3_OpticsAxesSum.mono_l k
    refine ⟨?_, ?_, ?_⟩
    · intro y0 y1 y2 y3
      unfold spykeep3_OpticsAxesSum.j0
      repeat' first
      | (with_reducible exact ih0 _ _ _ _)
      | (with_reducible exact ih1 _ _ _ _ _ _ _ _ _)
      | (with_reducible exact ih2 _ _ _ _ _ _ _ _ _ _ _ _ _)
      | (with_reducible exact optics_Axis.mono _ _ _)
      | (with_reducible exact spykeep3_spreads.mono _)
      | (with_reducible exact LeO.refl _)
      | (with_reducible exact LeO.none _)
      | (with_reducible refine LeO.ite ?_ ?_)
      | (with_reducible refine LeO.bind ?_ (fun _ => ?_))
      | exact ih0 _ _ _ _
      | exact ih1 _ _ _ _ _ _ _ _ _
      | exact ih2 _ _ _ _ _ _ _ _ _ _ _ _ _
      | exact optics_Axis.mono _ _ _
      | exact spykeep3_spreads.mono _
      | exact LeO.none _
      | refine LeO.ite ?_ ?_
      | refine LeO.bind ?_ (fun _ => ?_)
    · intro y0 y1 y2 y3 y4 y5 y6 y7 y8
      unfold spykeep3_OpticsAxesSum.l0
      repeat' first
      | (with_reducible exact ih0 _ _ _ _)
      | (with_reducible exact ih1 _ _ _ _ _ _ _ _ _)
      | (with_reducible exact ih2 _ _ _ _ _ _ _ _ _ _ _ _ _)
      | (with_reducible exact optics_Axis.mono _ _ _)
      | (with_reducible exact spykeep3_spreads.mono _)
      | (with_reducible exact LeO.refl _)
      | (with_reducible exact LeO.none _)
      | (with_reducible refine LeO.ite ?_ ?_)
      | (with_reducible refine LeO.bind ?_ (fun _ => ?_))
      | exact ih0 _ _ _ _
      | exact ih1 _ _ _ _ _ _ _ _ _
      | exact ih2 _ _ _ _ _ _ _ _ _ _ _ _ _
      | exact optics_Axis.mono _ _ _
      | exact spykeep3_spreads.mono _
      | exact LeO.none _
      | refine LeO.ite ?_ ?_
      | refine LeO.bind ?_ (fun _ => ?_)
    · intro y0 y1 y2 y3 y4 y5 y6 y7 y8 y9 y10 y11 y12
      unfold spykeep3_OpticsAxesSum.j2
      repeat' first
      | (with_reducible exact ih0 _ _ _ _)
      | (with_reducible exact ih1 _ _ _ _ _ _ _ _ _)
      | (with_reducible exact ih2 _ _ _ _ _ _ _ _ _ _ _ _ _)
      | (with_reducible exact optics_Axis.mono _ _ _)
      | (with_reducible exact spykeep3_spreads.mono _)
      | (with_reducible exact LeO.refl _)
      | (with_reducible exact LeO.none _)
      | (with_reducible refine LeO.ite ?_ ?_)
      | (with_reducible refine LeO.bind ?_ (fun _ => ?_))
      | exact ih0 _ _ _ _
      | exact ih1 _ _ _ _ _ _ _ _ _
      | exact ih2 _ _ _ _ _ _ _ _ _ _ _ _ _
      | exact optics_Axis.mono _ _ _
      | exact spykeep3_spreads.mono _
      | exact LeO.none _
      | refine LeO.ite ?_ ?_
      | refine LeO.bind ?_ (fun _ => ?_)
theorem spykeep3_OpticsAxesSum.mono : ∀ a0 a1 k, LeO (spykeep3_OpticsAxesSum.f k a0 a1) (spykeep3_OpticsAxesSum.f (k + 1) a0 a1) := by
  intro a0 a1 k
  obtain ⟨ih0, ih1, ih2⟩ := spykeep3_OpticsAxesSum.mono_l k
  unfold spykeep3_OpticsAxesSum.f
  repeat' first
      | (with_reducible exact ih0 _ _ _ _)
      | (with_reducible exact ih1 _ _ _ _ _ _ _ _ _)
      | (with_reducible exact ih2 _ _ _ _ _ _ _ _ _ _ _ _ _)
      | (with_reducible exact optics_Axis.mono _ _ _)
      | (with_reducible exact spykeep3_spreads.mono _)
      | (with_reducible exact LeO.refl _)
      | (with_reducible exact LeO.none _)
      | (with_reducible refine LeO.ite ?_ ?_)
      | (with_reducible refine LeO.bind ?_ (fun _ => ?_))
      | exact ih0 _ _ _ _
      | exact ih1 _ _ _ _ _ _ _ _ _
      | exact ih2 _ _ _ _ _ _ _ _ _ _ _ _ _
      | exact optics_Axis.mono _ _ _
      | exact spykeep3_spreads.mono _
      | exact LeO.none _
      | refine LeO.ite ?_ ?_
      | refine LeO.bind ?_ (fun _ => ?_)
set_option maxHeartbeats 8000000 in
set_option maxRecDepth 100000 in
theorem spykeep3_OpticsAxesSum.calls (k : Nat) (a0 : Int) (a1 : Int) (r : Bool) (w : World) (h : spykeep3_OpticsAxesSum.f k a0 a1 = some r) :
    Calls Try.prog 3 #[.int .i64 a0, .int .i64 a1] w fun e w' => e = .returned (.bool r) ∧ Below w.heap.size w w' := by
  have hu32 := Try.underlying32
  have HB := Aside0.mk (Below.refl w.heap.size w)
  have H : ((spykeep3_half.f a1).bind fun t136 => ((optics_Axis.f k (Int.tmod a0 65536) t136).bind fun bt137 => ((spykeep3_spreads.f k).bind fun t141 => (if t141 = true then (spykeep3_OpticsAxesSum.j0 k (Int.tmod a0 65536) a1 bt137.1 (bt137.2 != 0)) else (spykeep3_OpticsAxesSum.j0 k (Int.tmod a0 65536) a1 bt137.1 true))))) = some r := h
  clear h
  replace H := Option.bind_eq_some_iff.mp H
  obtain ⟨t136, A30, H⟩ := H
  replace H : ((optics_Axis.f k (Int.tmod a0 65536) t136).bind fun bt137 => ((spykeep3_spreads.f k).bind fun t141 => (if t141 = true then (spykeep3_OpticsAxesSum.j0 k (Int.tmod a0 65536) a1 bt137.1 (bt137.2 != 0)) else (spykeep3_OpticsAxesSum.j0 k (Int.tmod a0 65536) a1 bt137.1 true)))) = some r := H
  have A3 := Aside0.mk A30
  clear A30
  replace H := Option.bind_eq_some_iff.mp H
  obtain ⟨⟨t137, t138⟩, A40, H⟩ := H
  replace H : ((spykeep3_spreads.f k).bind fun t141 => (if t141 = true then (spykeep3_OpticsAxesSum.j0 k (Int.tmod a0 65536) a1 t137 (t138 != 0)) else (spykeep3_OpticsAxesSum.j0 k (Int.tmod a0 65536) a1 t137 true))) = some r := H
  have A4 := Aside0.mk A40
  clear A40
  have HC5 := Aside0.mk H
  clear H
  go_enter Try.func3, Try.ntmps3
  go_upto_region 3 with (first | (go_at_call 8; (with_reducible refine (spykeep3_half.calls a1 t136 _ A3.out).mono ?_); rintro e w' ⟨rfl, ⟨nd, rfl⟩⟩; (try first | exact ⟨rfl, _, World.drewN_drewN _ _ _⟩ | exact ⟨rfl, _, Eq.trans (World.drewN_drewN _ _ _) (congrArg (World.drewN _) (Nat.add_assoc _ _ _))⟩)) | (go_at_call 7; (with_reducible refine (optics_Axis.calls k (Int.tmod a0 65536) t136 t137 t138 _ A4.out).mono ?_); rintro e w6 ⟨v139, rfl, ho0, hb⟩; have n0_ := Aside0.mk (Kd.R_lower ho0 (below_size (by repeat (first | (with_reducible first | exact HB.out | apply below_alloc | apply pw_below_drewN | apply below_drew1) | exact HB.out)))); have n1_ := Aside0.mk (below_step (by repeat (first | (with_reducible first | exact HB.out | apply below_alloc | apply pw_below_drewN | apply below_drew1) | exact HB.out)) hb); clear HB; have HO140 := n0_; have HB := n1_; clear n0_ n1_; (try clear hb); (try clear hb2); (try clear hk); (try clear hi); (try clear ho0)))
  repeat (go_quiet (first | (go_at_call 8; (with_reducible refine (spykeep3_half.calls a1 t136 _ A3.out).mono ?_); rintro e w' ⟨rfl, ⟨nd, rfl⟩⟩; (try first | exact ⟨rfl, _, World.drewN_drewN _ _ _⟩ | exact ⟨rfl, _, Eq.trans (World.drewN_drewN _ _ _) (congrArg (World.drewN _) (Nat.add_assoc _ _ _))⟩)) | (go_at_call 7; (with_reducible refine (optics_Axis.calls k (Int.tmod a0 65536) t136 t137 t138 _ A4.out).mono ?_); rintro e w6 ⟨v139, rfl, ho0, hb⟩; have n0_ := Aside0.mk (Kd.R_lower ho0 (below_size (by repeat (first | (with_reducible first | exact HB.out | apply below_alloc | apply pw_below_drewN | apply below_drew1) | exact HB.out)))); have n1_ := Aside0.mk (below_step (by repeat (first | (with_reducible first | exact HB.out | apply below_alloc | apply pw_below_drewN | apply below_drew1) | exact HB.out)) hb); clear HB; have HO140 := n0_; have HB := n1_; clear n0_ n1_; (try clear hb); (try clear hb2); (try clear hk); (try clear hi); (try clear ho0))); go_upto_region 3 with (first | (go_at_call 8; (with_reducible refine (spykeep3_half.calls a1 t136 _ A3.out).mono ?_); rintro e w' ⟨rfl, ⟨nd, rfl⟩⟩; (try first | exact ⟨rfl, _, World.drewN_drewN _ _ _⟩ | exact ⟨rfl, _, Eq.trans (World.drewN_drewN _ _ _) (congrArg (World.drewN _) (Nat.add_assoc _ _ _))⟩)) | (go_at_call 7; (with_reducible refine (optics_Axis.calls k (Int.tmod a0 65536) t136 t137 t138 _ A4.out).mono ?_); rintro e w6 ⟨v139, rfl, ho0, hb⟩; have n0_ := Aside0.mk (Kd.R_lower ho0 (below_size (by repeat (first | (with_reducible first | exact HB.out | apply below_alloc | apply pw_below_drewN | apply below_drew1) | exact HB.out)))); have n1_ := Aside0.mk (below_step (by repeat (first | (with_reducible first | exact HB.out | apply below_alloc | apply pw_below_drewN | apply below_drew1) | exact HB.out)) hb); clear HB; have HO140 := n0_; have HB := n1_; clear n0_ n1_; (try clear hb); (try clear hb2); (try clear hk); (try clear hi); (try clear ho0))))
  (try simp only [Act.put, List.setIfInBounds_toArray, List.set_cons_zero, List.set_cons_succ])
  go_cut [26] (fun v26 wc => ∃ (kq : Nat) (x26_4 : Bool), v26 = .bool x26_4 ∧ Aside0 (spykeep3_OpticsAxesSum.j0 kq (Int.tmod a0 65536) a1 t137 x26_4 = some r) ∧ Aside0 (kq ≤ k) ∧ Aside0 (Kd.R k32 32 wc w.heap.size (fun _ => True) v139 t137) ∧ Aside0 (Below w.heap.size w wc))
  case first =>
    have H := HC5.out
    clear HC5
    replace H := Option.bind_eq_some_iff.mp H
    obtain ⟨t141, A70, H⟩ := H
    replace H : (if t141 = true then (spykeep3_OpticsAxesSum.j0 k (Int.tmod a0 65536) a1 t137 (t138 != 0)) else (spykeep3_OpticsAxesSum.j0 k (Int.tmod a0 65536) a1 t137 true)) = some r := H
    have A7 := Aside0.mk A70
    clear A70
    by_cases c8 : t141 = true
    · subst c8
      have H1 : (spykeep3_OpticsAxesSum.j0 k (Int.tmod a0 65536) a1 t137 (t138 != 0)) = some r := by rw [if_pos rfl] at H; exact H
      clear H
      have H := H1
      clear H1
      have H' := Aside0.mk H
      clear H
      go_wp2_with (first | (go_at_call 9; (with_reducible refine (spykeep3_spreads.calls k  true _ A7.out).mono ?_); rintro e w9 ⟨rfl, hb⟩; have n0_ := Aside0.mk (Kd.R_below (by (with_reducible repeat (first | apply Kd.R_alloc | apply Kd.R_drewN | apply Kd.R_drew)); exact HO140.out) hb); have n1_ := Aside0.mk (below_step (by repeat (first | (with_reducible first | exact HB.out | apply below_alloc | apply pw_below_drewN | apply below_drew1) | exact HB.out)) hb); clear HO140; clear HB; have HO140 := n0_; have HB := n1_; clear n0_ n1_; (try clear hb); (try clear hb2); (try clear hk); (try clear hi)))
      repeat (go_quiet (first | (go_at_call 9; (with_reducible refine (spykeep3_spreads.calls k  true _ A7.out).mono ?_); rintro e w9 ⟨rfl, hb⟩; have n0_ := Aside0.mk (Kd.R_below (by (with_reducible repeat (first | apply Kd.R_alloc | apply Kd.R_drewN | apply Kd.R_drew)); exact HO140.out) hb); have n1_ := Aside0.mk (below_step (by repeat (first | (with_reducible first | exact HB.out | apply below_alloc | apply pw_below_drewN | apply below_drew1) | exact HB.out)) hb); clear HO140; clear HB; have HO140 := n0_; have HB := n1_; clear n0_ n1_; (try clear hb); (try clear hb2); (try clear hk); (try clear hi))); try go_wp2_with (first | (go_at_call 9; (with_reducible refine (spykeep3_spreads.calls k  true _ A7.out).mono ?_); rintro e w9 ⟨rfl, hb⟩; have n0_ := Aside0.mk (Kd.R_below (by (with_reducible repeat (first | apply Kd.R_alloc | apply Kd.R_drewN | apply Kd.R_drew)); exact HO140.out) hb); have n1_ := Aside0.mk (below_step (by repeat (first | (with_reducible first | exact HB.out | apply below_alloc | apply pw_below_drewN | apply below_drew1) | exact HB.out)) hb); clear HO140; clear HB; have HO140 := n0_; have HB := n1_; clear n0_ n1_; (try clear hb); (try clear hb2); (try clear hk); (try clear hi))))
      go_meet
      case rel => exact ⟨_, ((t138 != 0)), (by first | rfl | (simp; done) | (simp [*]; done)), H', ⟨by first | omega | exact Nat.le_refl _⟩, ⟨by (with_reducible repeat (first | apply Kd.R_alloc | apply Kd.R_drewN | apply Kd.R_drew)); exact HO140.out⟩, ⟨by repeat (first | (with_reducible first | exact HB.out | apply below_alloc | apply pw_below_drewN | apply below_drew1) | exact HB.out)⟩⟩
    · replace c8 := Bool.eq_false_iff.mpr c8
      subst c8
      have H1 : (spykeep3_OpticsAxesSum.j0 k (Int.tmod a0 65536) a1 t137 true) = some r := by rw [if_neg (show ¬ (false = true) by decide)] at H; exact H
      clear H
      have H := H1
      clear H1
      have H' := Aside0.mk H
      clear H
      go_wp2_with (first | (go_at_call 9; (with_reducible refine (spykeep3_spreads.calls k  false _ A7.out).mono ?_); rintro e w10 ⟨rfl, hb⟩; have n0_ := Aside0.mk (Kd.R_below (by (with_reducible repeat (first | apply Kd.R_alloc | apply Kd.R_drewN | apply Kd.R_drew)); exact HO140.out) hb); have n1_ := Aside0.mk (below_step (by repeat (first | (with_reducible first | exact HB.out | apply below_alloc | apply pw_below_drewN | apply below_drew1) | exact HB.out)) hb); clear HO140; clear HB; have HO140 := n0_; have HB := n1_; clear n0_ n1_; (try clear hb); (try clear hb2); (try clear hk); (try clear hi)))
      repeat (go_quiet (first | (go_at_call 9; (with_reducible refine (spykeep3_spreads.calls k  false _ A7.out).mono ?_); rintro e w10 ⟨rfl, hb⟩; have n0_ := Aside0.mk (Kd.R_below (by (with_reducible repeat (first | apply Kd.R_alloc | apply Kd.R_drewN | apply Kd.R_drew)); exact HO140.out) hb); have n1_ := Aside0.mk (below_step (by repeat (first | (with_reducible first | exact HB.out | apply below_alloc | apply pw_below_drewN | apply below_drew1) | exact HB.out)) hb); clear HO140; clear HB; have HO140 := n0_; have HB := n1_; clear n0_ n1_; (try clear hb); (try clear hb2); (try clear hk); (try clear hi))); try go_wp2_with (first | (go_at_call 9; (with_reducible refine (spykeep3_spreads.calls k  false _ A7.out).mono ?_); rintro e w10 ⟨rfl, hb⟩; have n0_ := Aside0.mk (Kd.R_below (by (with_reducible repeat (first | apply Kd.R_alloc | apply Kd.R_drewN | apply Kd.R_drew)); exact HO140.out) hb); have n1_ := Aside0.mk (below_step (by repeat (first | (with_reducible first | exact HB.out | apply below_alloc | apply pw_below_drewN | apply below_drew1) | exact HB.out)) hb); clear HO140; clear HB; have HO140 := n0_; have HB := n1_; clear n0_ n1_; (try clear hb); (try clear hb2); (try clear hk); (try clear hi))))
      go_meet
      case rel => exact ⟨_, (true), (by first | rfl | (simp; done) | (simp [*]; done)), H', ⟨by first | omega | exact Nat.le_refl _⟩, ⟨by (with_reducible repeat (first | apply Kd.R_alloc | apply Kd.R_drewN | apply Kd.R_drew)); exact HO140.out⟩, ⟨by repeat (first | (with_reducible first | exact HB.out | apply below_alloc | apply pw_below_drewN | apply below_drew1) | exact HB.out)⟩⟩
  case rest =>
    clear HC5
    try clear p2
    try clear c3
    try clear p3
    try clear c8
    obtain ⟨kq, x26_4, rfl, HA, HJ4, HO_5, HB⟩ := hcut
    cases kq with
    | zero => exact absurd HA.out (by simp [spykeep3_OpticsAxesSum.j0])
    | succ kj4 =>
      have H := HA.out
      clear HA
      simp only [spykeep3_OpticsAxesSum.j0] at H
      by_cases c11 : x26_4 = true
      · subst c11
        have H1 : (some false) = some r := by rw [if_pos rfl] at H; exact H
        clear H
        have H := H1
        clear H1
        obtain rfl := Option.some.inj H
        go_wp2
        repeat (go_quiet (fail); try go_wp2)
        go_ret
        exact ⟨by first | rfl | (simp [errW_none, errW_some] <;> rfl) | (simp [*, errW_none, errW_some] <;> rfl), by repeat (first | (with_reducible first | exact HB.out | apply below_alloc | apply pw_below_drewN | apply below_drew1) | exact HB.out)⟩
      · replace c11 := Bool.eq_false_iff.mpr c11
        subst c11
        have H1 : (spykeep3_OpticsAxesSum.l0 kj4 (Int.tmod a0 65536) a1 t137 ((Int.tmod a0 65536) / 256) 0 0 t137 (t137.length : Int) 0) = some r := by rw [if_neg (show ¬ (false = true) by decide)] at H; exact H
        clear H
        have H := H1
        clear H1
        have H' := Aside0.mk H
        clear H
        obtain ⟨Ao12, co12, eo12⟩ := Kd.R_slice HO_5.out
        subst eo12
        go_wp2
        repeat (go_quiet (fail); try go_wp2)
        go_loopg [8, 9, 31] kj4 (fun kq v8 v9 v31 w' => ∃ (x8_2 : Int) (x9_2 : Int) (x31_2 : Int), v8 = .int .i64 x8_2 ∧ v9 = .int .i64 x9_2 ∧ v31 = .int .i64 x31_2 ∧ Aside0 (spykeep3_OpticsAxesSum.l0 kq (Int.tmod a0 65536) a1 t137 ((Int.tmod a0 65536) / 256) x8_2 x9_2 t137 (t137.length : Int) x31_2 = some r) ∧ Aside0 (kq ≤ kj4) ∧ Aside0 (Kd.R k32 32 w' w.heap.size (fun _ => True) (.slice Ao12 t137.length co12) t137) ∧ Aside0 (Kd.R k32 32 w' w.heap.size (fun _ => True) (.slice Ao12 t137.length co12) t137) ∧ Aside0 (Below w.heap.size w w'))
        case atStart => exact ⟨(0), (0), (0), (by first | rfl | (simp; done) | (simp [*]; done)), (by first | rfl | (simp; done) | (simp [*]; done)), (by first | rfl | (simp; done) | (simp [*]; done)), H', ⟨Nat.le_refl _⟩, ⟨by (with_reducible repeat (first | apply Kd.R_alloc | apply Kd.R_drewN | apply Kd.R_drew)); exact HO_5.out⟩, ⟨by (with_reducible repeat (first | apply Kd.R_alloc | apply Kd.R_drewN | apply Kd.R_drew)); exact HO_5.out⟩, ⟨by repeat (first | (with_reducible first | exact HB.out | apply below_alloc | apply pw_below_drewN | apply below_drew1) | exact HB.out)⟩⟩
        case round =>
          clear H'
          try clear c1
          try clear p2
          try clear c3
          try clear p3
          try clear c8
          try clear c11
          try clear p2
          try clear p3
          obtain ⟨x8_2, x9_2, x31_2, rfl, rfl, rfl, HA, HK2, HO_5, HO_29, HB⟩ := hrel
          cases gk with
          | zero => exact absurd HA.out (by simp [spykeep3_OpticsAxesSum.l0])
          | succ k2 =>
            have H := HA.out
            clear HA
            simp only [spykeep3_OpticsAxesSum.l0] at H
            by_cases c13 : x31_2 < (t137.length : Int)
            · rw [if_pos c13] at H
              have c13b0 : decide (x31_2 < (t137.length : Int)) = true := decide_eq_true c13
              clear c13
              by_cases c14 : 0 ≤ x31_2
              · rw [if_pos c14] at H
                have c14b0 : decide (0 ≤ x31_2) = true := decide_eq_true c14
                clear c14
                by_cases c15 : x31_2 < (t137.length : Int)
                · rw [if_pos c15] at H
                  have c15b0 : decide (x31_2 < (t137.length : Int)) = true := decide_eq_true c15
                  clear c15
                  have HC16 := Aside0.mk H
                  clear H
                  have p142 : 0 ≤ (x31_2 : Int) := of_decide_eq_true (by first | (with_reducible assumption) | assumption)
                  have q142 : x31_2 < (t137.length : Int) := of_decide_eq_true (by first | (with_reducible assumption) | assumption)
                  obtain ⟨ad142, e142, hx142_0, hx142_1⟩ := at_T32 (Kd.R_reads' HO_29.out).2.2 x31_2 p142 q142
                  cases e142
                  replace p142 := eq_true p142
                  replace q142 := eq_true q142
                  go_upto_region 10 with (first | ((with_reducible refine gate_dst (N := 11) rfl ?_); refine box_event ?hg (N := 11) ?hd (cs := #[.int .i64 0, .int .i64 0]) (t := 32) ?hr ?_; (case hd => rfl); (case hg => rfl); (case hr => first | (go_simp; done) | (go_simp; rfl)); intro gb143 hg w17 hbox hb; have n0_ := Aside0.mk (Kd.R_below (Kd.R_elderB (by (with_reducible repeat (first | apply Kd.R_alloc | apply Kd.R_drewN | apply Kd.R_drew)); exact HO_5.out) gb143 (Nat.le_of_eq hg.symm)) hb); have n1_ := Aside0.mk (Kd.R_below (Kd.R_elderB (by (with_reducible repeat (first | apply Kd.R_alloc | apply Kd.R_drewN | apply Kd.R_drew)); exact HO_29.out) gb143 (Nat.le_of_eq hg.symm)) hb); have n2_ := Aside0.mk (below_step (by repeat (first | (with_reducible first | exact HB.out | apply below_alloc | apply pw_below_drewN | apply below_drew1) | exact HB.out)) hb); have n3_ := Aside0.mk (hbox); have n4_ := Aside0.mk ((by rw [hg]; exact (below_size (by repeat (first | (with_reducible first | exact HB.out | apply below_alloc | apply pw_below_drewN | apply below_drew1) | exact HB.out))) : w.heap.size ≤ gb143)); have n5_ := Aside0.mk ((by rw [hg]; exact (below_size (by repeat (first | (with_reducible first | exact HB.out | apply below_alloc | apply pw_below_drewN | apply below_drew1) | exact HB.out))) : w.heap.size ≤ gb143)); clear HO_5; clear HO_29; clear HB; have HO_5 := n0_; have HO_29 := n1_; have HB := n2_; have BK143 := n3_; have GW143 := n4_; have GE143 := n5_; clear n0_ n1_ n2_ n3_ n4_ n5_; clear hb hbox hg; have hcz18_0 : w17.cell? ⟨gb143, 0, none⟩ = some (.int .i64 0) := (blk_cell BK143.out 0).trans rfl; have hcz18_1 : w17.cell? ⟨gb143, 1, none⟩ = some (.int .i64 0) := (blk_cell BK143.out 1).trans rfl; have hfz18_0 := blk_frozen BK143.out 0; have hfz18_1 := blk_frozen BK143.out 1))
                  repeat (go_quiet (first | ((with_reducible refine gate_dst (N := 11) rfl ?_); refine box_event ?hg (N := 11) ?hd (cs := #[.int .i64 0, .int .i64 0]) (t := 32) ?hr ?_; (case hd => rfl); (case hg => rfl); (case hr => first | (go_simp; done) | (go_simp; rfl)); intro gb143 hg w17 hbox hb; have n0_ := Aside0.mk (Kd.R_below (Kd.R_elderB (by (with_reducible repeat (first | apply Kd.R_alloc | apply Kd.R_drewN | apply Kd.R_drew)); exact HO_5.out) gb143 (Nat.le_of_eq hg.symm)) hb); have n1_ := Aside0.mk (Kd.R_below (Kd.R_elderB (by (with_reducible repeat (first | apply Kd.R_alloc | apply Kd.R_drewN | apply Kd.R_drew)); exact HO_29.out) gb143 (Nat.le_of_eq hg.symm)) hb); have n2_ := Aside0.mk (below_step (by repeat (first | (with_reducible first | exact HB.out | apply below_alloc | apply pw_below_drewN | apply below_drew1) | exact HB.out)) hb); have n3_ := Aside0.mk (hbox); have n4_ := Aside0.mk ((by rw [hg]; exact (below_size (by repeat (first | (with_reducible first | exact HB.out | apply below_alloc | apply pw_below_drewN | apply below_drew1) | exact HB.out))) : w.heap.size ≤ gb143)); have n5_ := Aside0.mk ((by rw [hg]; exact (below_size (by repeat (first | (with_reducible first | exact HB.out | apply below_alloc | apply pw_below_drewN | apply below_drew1) | exact HB.out))) : w.heap.size ≤ gb143)); clear HO_5; clear HO_29; clear HB; have HO_5 := n0_; have HO_29 := n1_; have HB := n2_; have BK143 := n3_; have GW143 := n4_; have GE143 := n5_; clear n0_ n1_ n2_ n3_ n4_ n5_; clear hb hbox hg; have hcz18_0 : w17.cell? ⟨gb143, 0, none⟩ = some (.int .i64 0) := (blk_cell BK143.out 0).trans rfl; have hcz18_1 : w17.cell? ⟨gb143, 1, none⟩ = some (.int .i64 0) := (blk_cell BK143.out 1).trans rfl; have hfz18_0 := blk_frozen BK143.out 0; have hfz18_1 := blk_frozen BK143.out 1)); go_upto_region 10 with (first | ((with_reducible refine gate_dst (N := 11) rfl ?_); refine box_event ?hg (N := 11) ?hd (cs := #[.int .i64 0, .int .i64 0]) (t := 32) ?hr ?_; (case hd => rfl); (case hg => rfl); (case hr => first | (go_simp; done) | (go_simp; rfl)); intro gb143 hg w17 hbox hb; have n0_ := Aside0.mk (Kd.R_below (Kd.R_elderB (by (with_reducible repeat (first | apply Kd.R_alloc | apply Kd.R_drewN | apply Kd.R_drew)); exact HO_5.out) gb143 (Nat.le_of_eq hg.symm)) hb); have n1_ := Aside0.mk (Kd.R_below (Kd.R_elderB (by (with_reducible repeat (first | apply Kd.R_alloc | apply Kd.R_drewN | apply Kd.R_drew)); exact HO_29.out) gb143 (Nat.le_of_eq hg.symm)) hb); have n2_ := Aside0.mk (below_step (by repeat (first | (with_reducible first | exact HB.out | apply below_alloc | apply pw_below_drewN | apply below_drew1) | exact HB.out)) hb); have n3_ := Aside0.mk (hbox); have n4_ := Aside0.mk ((by rw [hg]; exact (below_size (by repeat (first | (with_reducible first | exact HB.out | apply below_alloc | apply pw_below_drewN | apply below_drew1) | exact HB.out))) : w.heap.size ≤ gb143)); have n5_ := Aside0.mk ((by rw [hg]; exact (below_size (by repeat (first | (with_reducible first | exact HB.out | apply below_alloc | apply pw_below_drewN | apply below_drew1) | exact HB.out))) : w.heap.size ≤ gb143)); clear HO_5; clear HO_29; clear HB; have HO_5 := n0_; have HO_29 := n1_; have HB := n2_; have BK143 := n3_; have GW143 := n4_; have GE143 := n5_; clear n0_ n1_ n2_ n3_ n4_ n5_; clear hb hbox hg; have hcz18_0 : w17.cell? ⟨gb143, 0, none⟩ = some (.int .i64 0) := (blk_cell BK143.out 0).trans rfl; have hcz18_1 : w17.cell? ⟨gb143, 1, none⟩ = some (.int .i64 0) := (blk_cell BK143.out 1).trans rfl; have hfz18_0 := blk_frozen BK143.out 0; have hfz18_1 := blk_frozen BK143.out 1)))
                  (try simp only [Act.put, List.setIfInBounds_toArray, List.set_cons_zero, List.set_cons_succ])
                  go_cut [56] (fun v56 wc => ∃ (kq : Nat) (x56_15 : Bool), v56 = .bool x56_15 ∧ Aside0 (spykeep3_OpticsAxesSum.j2 kq (Int.tmod a0 65536) a1 t137 ((Int.tmod a0 65536) / 256) x8_2 x9_2 x31_2 t137 (t137.length : Int) x31_2 x56_15 ((rd_T32 t137 x31_2).f0) ((rd_T32 t137 x31_2).f1) = some r) ∧ Aside0 (kq ≤ k2) ∧ Aside0 (Kd.R k32 32 wc w.heap.size (fun k_ => k_ ≠ gb143) (.slice (some ad142) t137.length co12) t137) ∧ Aside0 (Kd.R k32 32 wc w.heap.size (fun k_ => k_ ≠ gb143) (.slice (some ad142) t137.length co12) t137) ∧ Aside0 (wc.heap[gb143]? = some (.cells #[.int .i64 ((rd_T32 t137 x31_2).f0), .int .i64 ((rd_T32 t137 x31_2).f1)] 32 (0, 0))) ∧ Aside0 (Below w.heap.size w wc))
                  case first =>
                    have H := HC16.out
                    clear HC16
                    by_cases c19 : ((rd_T32 t137 x31_2).f1) ≤ 0
                    · rw [if_pos c19] at H
                      have c19b0 : decide (((rd_T32 t137 x31_2).f1) ≤ 0) = true := decide_eq_true c19
                      clear c19
                      (first | rw [c19b0] | (simp only [i64_w, i32_w]; rw [c19b0]) | skip)
                      have H' := Aside0.mk H
                      clear H
                      have hcz20_0 : w17.cell? ⟨gb143, 0, none⟩ = some (.int .i64 0) := (blk_cell BK143.out 0).trans rfl
                      have hcz20_1 : w17.cell? ⟨gb143, 1, none⟩ = some (.int .i64 0) := (blk_cell BK143.out 1).trans rfl
                      have hfz20_0 := blk_frozen BK143.out 0
                      have hfz20_1 := blk_frozen BK143.out 1
                      go_wp2
                      repeat (go_quiet (fail); try go_wp2)
                      go_meet
                      case rel => exact ⟨_, (true), (by first | rfl | (simp; done) | (simp [*]; done)), H', ⟨by have := HJ4.out; have := HK2.out; first | omega | exact Nat.le_refl _⟩, ⟨by (with_reducible repeat (first | apply Kd.R_alloc | apply Kd.R_drewN | apply Kd.R_drew)); exact Kd.R_mono (Kd.R_far (p := ⟨gb143, 1, none⟩) (Kd.R_far (p := ⟨gb143, 0, none⟩) (Kd.R_mono HO_5.out (fun k_ hk => (⟨hk, hk.2⟩ : _ ∧ k_ ≠ gb143))) (fun _ hk => hk.2) (.int .i64 ((rd_T32 t137 x31_2).f0))) (fun _ hk => hk.2) (.int .i64 ((rd_T32 t137 x31_2).f1))) (fun _ hk => hk.1.2)⟩, ⟨by (with_reducible repeat (first | apply Kd.R_alloc | apply Kd.R_drewN | apply Kd.R_drew)); exact Kd.R_mono (Kd.R_far (p := ⟨gb143, 1, none⟩) (Kd.R_far (p := ⟨gb143, 0, none⟩) (Kd.R_mono HO_29.out (fun k_ hk => (⟨hk, hk.2⟩ : _ ∧ k_ ≠ gb143))) (fun _ hk => hk.2) (.int .i64 ((rd_T32 t137 x31_2).f0))) (fun _ hk => hk.2) (.int .i64 ((rd_T32 t137 x31_2).f1))) (fun _ hk => hk.1.2)⟩, ⟨by (with_reducible repeat (first | refine blk_drewN ?_ _ | refine blk_drew ?_ | refine blk_alloc ?_ _)); refine blk_put (cs := #[.int .i64 ((rd_T32 t137 x31_2).f0), .int .i64 0]) ?_ 1 _ rfl; (with_reducible repeat (first | refine blk_drewN ?_ _ | refine blk_drew ?_ | refine blk_alloc ?_ _)); refine blk_put (cs := #[.int .i64 0, .int .i64 0]) ?_ 0 _ rfl; (with_reducible repeat (first | refine blk_drewN ?_ _ | refine blk_drew ?_ | refine blk_alloc ?_ _)); exact BK143.out⟩, ⟨by repeat (first | (with_reducible first | exact HB.out | apply below_alloc | apply pw_below_drewN | apply below_drew1 | refine below_set ?_ GE143.out) | exact HB.out)⟩⟩
                    · rw [if_neg c19] at H
                      have c19b0 : decide (((rd_T32 t137 x31_2).f1) ≤ 0) = false := decide_eq_false c19
                      clear c19
                      (first | rw [c19b0] | (simp only [i64_w, i32_w]; rw [c19b0]) | skip)
                      replace H := Option.bind_eq_some_iff.mp H
                      obtain ⟨t144, A210, H⟩ := H
                      replace H : (if ((rd_T32 t137 x31_2).f0) < (wrap64 (((Int.tmod a0 65536) / 256) - t144)) then (spykeep3_OpticsAxesSum.j2 k2 (Int.tmod a0 65536) a1 t137 ((Int.tmod a0 65536) / 256) x8_2 x9_2 x31_2 t137 (t137.length : Int) x31_2 true ((rd_T32 t137 x31_2).f0) ((rd_T32 t137 x31_2).f1)) else (spykeep3_OpticsAxesSum.j2 k2 (Int.tmod a0 65536) a1 t137 ((Int.tmod a0 65536) / 256) x8_2 x9_2 x31_2 t137 (t137.length : Int) x31_2 (decide (((rd_T32 t137 x31_2).f0) > (wrap64 (((Int.tmod a0 65536) / 256) + t144)))) ((rd_T32 t137 x31_2).f0) ((rd_T32 t137 x31_2).f1))) = some r := H
                      have A21 := Aside0.mk A210
                      clear A210
                      by_cases c22 : ((rd_T32 t137 x31_2).f0) < (wrap64 (((Int.tmod a0 65536) / 256) - t144))
                      · rw [if_pos c22] at H
                        have c22b0 : decide (((rd_T32 t137 x31_2).f0) < (wrap64 (((Int.tmod a0 65536) / 256) - t144))) = true := decide_eq_true c22
                        clear c22
                        have H' := Aside0.mk H
                        clear H
                        have hcz23_0 : w17.cell? ⟨gb143, 0, none⟩ = some (.int .i64 0) := (blk_cell BK143.out 0).trans rfl
                        have hcz23_1 : w17.cell? ⟨gb143, 1, none⟩ = some (.int .i64 0) := (blk_cell BK143.out 1).trans rfl
                        have hfz23_0 := blk_frozen BK143.out 0
                        have hfz23_1 := blk_frozen BK143.out 1
                        go_wp2_with (first | (go_at_call 8; (with_reducible refine (spykeep3_half.calls a1 t144 _ A21.out).mono ?_); rintro e w' ⟨rfl, ⟨nd, rfl⟩⟩; (try first | exact ⟨rfl, _, World.drewN_drewN _ _ _⟩ | exact ⟨rfl, _, Eq.trans (World.drewN_drewN _ _ _) (congrArg (World.drewN _) (Nat.add_assoc _ _ _))⟩)))
                        repeat (go_quiet (first | (go_at_call 8; (with_reducible refine (spykeep3_half.calls a1 t144 _ A21.out).mono ?_); rintro e w' ⟨rfl, ⟨nd, rfl⟩⟩; (try first | exact ⟨rfl, _, World.drewN_drewN _ _ _⟩ | exact ⟨rfl, _, Eq.trans (World.drewN_drewN _ _ _) (congrArg (World.drewN _) (Nat.add_assoc _ _ _))⟩))); try go_wp2_with (first | (go_at_call 8; (with_reducible refine (spykeep3_half.calls a1 t144 _ A21.out).mono ?_); rintro e w' ⟨rfl, ⟨nd, rfl⟩⟩; (try first | exact ⟨rfl, _, World.drewN_drewN _ _ _⟩ | exact ⟨rfl, _, Eq.trans (World.drewN_drewN _ _ _) (congrArg (World.drewN _) (Nat.add_assoc _ _ _))⟩))))
                        go_meet
                        case rel => exact ⟨_, (true), (by first | rfl | (simp; done) | (simp [*]; done)), H', ⟨by have := HJ4.out; have := HK2.out; first | omega | exact Nat.le_refl _⟩, ⟨by (with_reducible repeat (first | apply Kd.R_alloc | apply Kd.R_drewN | apply Kd.R_drew)); exact Kd.R_mono (Kd.R_far (p := ⟨gb143, 1, none⟩) (Kd.R_far (p := ⟨gb143, 0, none⟩) (Kd.R_mono HO_5.out (fun k_ hk => (⟨hk, hk.2⟩ : _ ∧ k_ ≠ gb143))) (fun _ hk => hk.2) (.int .i64 ((rd_T32 t137 x31_2).f0))) (fun _ hk => hk.2) (.int .i64 ((rd_T32 t137 x31_2).f1))) (fun _ hk => hk.1.2)⟩, ⟨by (with_reducible repeat (first | apply Kd.R_alloc | apply Kd.R_drewN | apply Kd.R_drew)); exact Kd.R_mono (Kd.R_far (p := ⟨gb143, 1, none⟩) (Kd.R_far (p := ⟨gb143, 0, none⟩) (Kd.R_mono HO_29.out (fun k_ hk => (⟨hk, hk.2⟩ : _ ∧ k_ ≠ gb143))) (fun _ hk => hk.2) (.int .i64 ((rd_T32 t137 x31_2).f0))) (fun _ hk => hk.2) (.int .i64 ((rd_T32 t137 x31_2).f1))) (fun _ hk => hk.1.2)⟩, ⟨by (with_reducible repeat (first | refine blk_drewN ?_ _ | refine blk_drew ?_ | refine blk_alloc ?_ _)); refine blk_put (cs := #[.int .i64 ((rd_T32 t137 x31_2).f0), .int .i64 0]) ?_ 1 _ rfl; (with_reducible repeat (first | refine blk_drewN ?_ _ | refine blk_drew ?_ | refine blk_alloc ?_ _)); refine blk_put (cs := #[.int .i64 0, .int .i64 0]) ?_ 0 _ rfl; (with_reducible repeat (first | refine blk_drewN ?_ _ | refine blk_drew ?_ | refine blk_alloc ?_ _)); exact BK143.out⟩, ⟨by repeat (first | (with_reducible first | exact HB.out | apply below_alloc | apply pw_below_drewN | apply below_drew1 | refine below_set ?_ GE143.out) | exact HB.out)⟩⟩
                      · rw [if_neg c22] at H
                        have c22b0 : decide (((rd_T32 t137 x31_2).f0) < (wrap64 (((Int.tmod a0 65536) / 256) - t144))) = false := decide_eq_false c22
                        clear c22
                        have H' := Aside0.mk H
                        clear H
                        have hcz24_0 : w17.cell? ⟨gb143, 0, none⟩ = some (.int .i64 0) := (blk_cell BK143.out 0).trans rfl
                        have hcz24_1 : w17.cell? ⟨gb143, 1, none⟩ = some (.int .i64 0) := (blk_cell BK143.out 1).trans rfl
                        have hfz24_0 := blk_frozen BK143.out 0
                        have hfz24_1 := blk_frozen BK143.out 1
                        go_wp2_with (first | (go_at_call 8; (with_reducible refine (spykeep3_half.calls a1 t144 _ A21.out).mono ?_); rintro e w' ⟨rfl, ⟨nd, rfl⟩⟩; (try first | exact ⟨rfl, _, World.drewN_drewN _ _ _⟩ | exact ⟨rfl, _, Eq.trans (World.drewN_drewN _ _ _) (congrArg (World.drewN _) (Nat.add_assoc _ _ _))⟩)))
                        repeat (go_quiet (first | (go_at_call 8; (with_reducible refine (spykeep3_half.calls a1 t144 _ A21.out).mono ?_); rintro e w' ⟨rfl, ⟨nd, rfl⟩⟩; (try first | exact ⟨rfl, _, World.drewN_drewN _ _ _⟩ | exact ⟨rfl, _, Eq.trans (World.drewN_drewN _ _ _) (congrArg (World.drewN _) (Nat.add_assoc _ _ _))⟩))); try go_wp2_with (first | (go_at_call 8; (with_reducible refine (spykeep3_half.calls a1 t144 _ A21.out).mono ?_); rintro e w' ⟨rfl, ⟨nd, rfl⟩⟩; (try first | exact ⟨rfl, _, World.drewN_drewN _ _ _⟩ | exact ⟨rfl, _, Eq.trans (World.drewN_drewN _ _ _) (congrArg (World.drewN _) (Nat.add_assoc _ _ _))⟩))))
                        go_meet
                        case rel => exact ⟨_, (decide (((rd_T32 t137 x31_2).f0) > (wrap64 (((Int.tmod a0 65536) / 256) + t144)))), (by first | rfl | (simp; done) | (simp [*]; done)), H', ⟨by have := HJ4.out; have := HK2.out; first | omega | exact Nat.le_refl _⟩, ⟨by (with_reducible repeat (first | apply Kd.R_alloc | apply Kd.R_drewN | apply Kd.R_drew)); exact Kd.R_mono (Kd.R_far (p := ⟨gb143, 1, none⟩) (Kd.R_far (p := ⟨gb143, 0, none⟩) (Kd.R_mono HO_5.out (fun k_ hk => (⟨hk, hk.2⟩ : _ ∧ k_ ≠ gb143))) (fun _ hk => hk.2) (.int .i64 ((rd_T32 t137 x31_2).f0))) (fun _ hk => hk.2) (.int .i64 ((rd_T32 t137 x31_2).f1))) (fun _ hk => hk.1.2)⟩, ⟨by (with_reducible repeat (first | apply Kd.R_alloc | apply Kd.R_drewN | apply Kd.R_drew)); exact Kd.R_mono (Kd.R_far (p := ⟨gb143, 1, none⟩) (Kd.R_far (p := ⟨gb143, 0, none⟩) (Kd.R_mono HO_29.out (fun k_ hk => (⟨hk, hk.2⟩ : _ ∧ k_ ≠ gb143))) (fun _ hk => hk.2) (.int .i64 ((rd_T32 t137 x31_2).f0))) (fun _ hk => hk.2) (.int .i64 ((rd_T32 t137 x31_2).f1))) (fun _ hk => hk.1.2)⟩, ⟨by (with_reducible repeat (first | refine blk_drewN ?_ _ | refine blk_drew ?_ | refine blk_alloc ?_ _)); refine blk_put (cs := #[.int .i64 ((rd_T32 t137 x31_2).f0), .int .i64 0]) ?_ 1 _ rfl; (with_reducible repeat (first | refine blk_drewN ?_ _ | refine blk_drew ?_ | refine blk_alloc ?_ _)); refine blk_put (cs := #[.int .i64 0, .int .i64 0]) ?_ 0 _ rfl; (with_reducible repeat (first | refine blk_drewN ?_ _ | refine blk_drew ?_ | refine blk_alloc ?_ _)); exact BK143.out⟩, ⟨by repeat (first | (with_reducible first | exact HB.out | apply below_alloc | apply pw_below_drewN | apply below_drew1 | refine below_set ?_ GE143.out) | exact HB.out)⟩⟩
                  case rest =>
                    clear HC16
                    try clear c1
                    try clear p1
                    try clear q1
                    try clear hx1
                    try clear c2
                    try clear p2
                    try clear c3
                    try clear p3
                    try clear p6
                    try clear c8
                    try clear c11
                    try clear c13
                    try clear c13b0
                    try clear c14
                    try clear c14b0
                    try clear p14
                    try clear q14
                    try clear hx14
                    try clear c15
                    try clear c15b0
                    try clear c19
                    try clear c19b0
                    try clear c22
                    try clear c22b0
                    try clear hcz18_0
                    try clear hcz18_1
                    try clear hcz20_0
                    try clear hcz20_1
                    try clear hcz23_0
                    try clear hcz23_1
                    try clear hcz24_0
                    try clear hcz24_1
                    try clear hfz18_0
                    try clear hfz18_1
                    try clear hfz20_0
                    try clear hfz20_1
                    try clear hfz23_0
                    try clear hfz23_1
                    try clear hfz24_0
                    try clear hfz24_1
                    try clear hx142_0
                    try clear hx142_1
                    try clear p142
                    try clear p2
                    try clear p3
                    try clear q142
                    obtain ⟨kq, x56_15, rfl, HA, HJ15, HO_5, HO_29, BK143, HB⟩ := hcut
                    cases kq with
                    | zero => exact absurd HA.out (by simp [spykeep3_OpticsAxesSum.j2])
                    | succ kj15 =>
                      have H := HA.out
                      clear HA
                      simp only [spykeep3_OpticsAxesSum.j2] at H
                      by_cases c25 : x56_15 = true
                      · subst c25
                        have H1 : (some false) = some r := by rw [if_pos rfl] at H; exact H
                        clear H
                        have H := H1
                        clear H1
                        obtain rfl := Option.some.inj H
                        go_wp2
                        repeat (go_quiet (fail); try go_wp2)
                        go_ret
                        exact ⟨by first | rfl | (simp [errW_none, errW_some] <;> rfl) | (simp [*, errW_none, errW_some] <;> rfl), by repeat (first | (with_reducible first | exact HB.out | apply below_alloc | apply pw_below_drewN | apply below_drew1 | refine below_set ?_ GE143.out) | exact HB.out)⟩
                      · replace c25 := Bool.eq_false_iff.mpr c25
                        subst c25
                        have H1 : (if x31_2 > 0 then (if 0 ≤ (wrap64 (x31_2 - 1)) then (if (wrap64 (x31_2 - 1)) < (t137.length : Int) then (if ((rd_T32 t137 x31_2).f0) = (wrap64 (((rd_T32 t137 (wrap64 (x31_2 - 1))).f0) + 1)) then (if ((rd_T32 t137 x31_2).f0) ≤ ((Int.tmod a0 65536) / 256) then (if ((rd_T32 t137 x31_2).f1) < ((rd_T32 t137 (wrap64 (x31_2 - 1))).f1) then (some false) else (if ((rd_T32 t137 x31_2).f0) > ((Int.tmod a0 65536) / 256) then (if ((rd_T32 t137 x31_2).f1) > ((rd_T32 t137 (wrap64 (x31_2 - 1))).f1) then (some false) else (spykeep3_OpticsAxesSum.l0 kj15 (Int.tmod a0 65536) a1 t137 ((Int.tmod a0 65536) / 256) (wrap64 (x8_2 + ((rd_T32 t137 x31_2).f1))) (wrap64 (x9_2 + (wrap64 (((rd_T32 t137 x31_2).f1) * (wrap64 ((wrap64 (256 * ((rd_T32 t137 x31_2).f0))) + 128)))))) t137 (t137.length : Int) (wrap64 (x31_2 + 1)))) else (spykeep3_OpticsAxesSum.l0 kj15 (Int.tmod a0 65536) a1 t137 ((Int.tmod a0 65536) / 256) (wrap64 (x8_2 + ((rd_T32 t137 x31_2).f1))) (wrap64 (x9_2 + (wrap64 (((rd_T32 t137 x31_2).f1) * (wrap64 ((wrap64 (256 * ((rd_T32 t137 x31_2).f0))) + 128)))))) t137 (t137.length : Int) (wrap64 (x31_2 + 1))))) else (if ((rd_T32 t137 x31_2).f0) > ((Int.tmod a0 65536) / 256) then (if ((rd_T32 t137 x31_2).f1) > ((rd_T32 t137 (wrap64 (x31_2 - 1))).f1) then (some false) else (spykeep3_OpticsAxesSum.l0 kj15 (Int.tmod a0 65536) a1 t137 ((Int.tmod a0 65536) / 256) (wrap64 (x8_2 + ((rd_T32 t137 x31_2).f1))) (wrap64 (x9_2 + (wrap64 (((rd_T32 t137 x31_2).f1) * (wrap64 ((wrap64 (256 * ((rd_T32 t137 x31_2).f0))) + 128)))))) t137 (t137.length : Int) (wrap64 (x31_2 + 1)))) else (spykeep3_OpticsAxesSum.l0 kj15 (Int.tmod a0 65536) a1 t137 ((Int.tmod a0 65536) / 256) (wrap64 (x8_2 + ((rd_T32 t137 x31_2).f1))) (wrap64 (x9_2 + (wrap64 (((rd_T32 t137 x31_2).f1) * (wrap64 ((wrap64 (256 * ((rd_T32 t137 x31_2).f0))) + 128)))))) t137 (t137.length : Int) (wrap64 (x31_2 + 1))))) else (some false)) else (none)) else (none)) else (spykeep3_OpticsAxesSum.l0 kj15 (Int.tmod a0 65536) a1 t137 ((Int.tmod a0 65536) / 256) (wrap64 (x8_2 + ((rd_T32 t137 x31_2).f1))) (wrap64 (x9_2 + (wrap64 (((rd_T32 t137 x31_2).f1) * (wrap64 ((wrap64 (256 * ((rd_T32 t137 x31_2).f0))) + 128)))))) t137 (t137.length : Int) (wrap64 (x31_2 + 1)))) = some r := by rw [if_neg (show ¬ (false = true) by decide)] at H; exact H
                        clear H
                        have H := H1
                        clear H1
                        by_cases c26 : x31_2 > 0
                        · rw [if_pos c26] at H
                          have c26b0 : decide (0 < x31_2) = true := decide_eq_true c26
                          clear c26
                          obtain ⟨ji27, hji27⟩ : ∃ j_ : Int, (wrap64 (x31_2 - 1)) = j_ := ⟨_, rfl⟩
                          replace H : (if 0 ≤ (ji27) then (if (ji27) < (t137.length : Int) then (if ((rd_T32 t137 x31_2).f0) = (wrap64 (((rd_T32 t137 (ji27)).f0) + 1)) then (if ((rd_T32 t137 x31_2).f0) ≤ ((Int.tmod a0 65536) / 256) then (if ((rd_T32 t137 x31_2).f1) < ((rd_T32 t137 (ji27)).f1) then (some false) else (if ((rd_T32 t137 x31_2).f0) > ((Int.tmod a0 65536) / 256) then (if ((rd_T32 t137 x31_2).f1) > ((rd_T32 t137 (ji27)).f1) then (some false) else (spykeep3_OpticsAxesSum.l0 kj15 (Int.tmod a0 65536) a1 t137 ((Int.tmod a0 65536) / 256) (wrap64 (x8_2 + ((rd_T32 t137 x31_2).f1))) (wrap64 (x9_2 + (wrap64 (((rd_T32 t137 x31_2).f1) * (wrap64 ((wrap64 (256 * ((rd_T32 t137 x31_2).f0))) + 128)))))) t137 (t137.length : Int) (wrap64 (x31_2 + 1)))) else (spykeep3_OpticsAxesSum.l0 kj15 (Int.tmod a0 65536) a1 t137 ((Int.tmod a0 65536) / 256) (wrap64 (x8_2 + ((rd_T32 t137 x31_2).f1))) (wrap64 (x9_2 + (wrap64 (((rd_T32 t137 x31_2).f1) * (wrap64 ((wrap64 (256 * ((rd_T32 t137 x31_2).f0))) + 128)))))) t137 (t137.length : Int) (wrap64 (x31_2 + 1))))) else (if ((rd_T32 t137 x31_2).f0) > ((Int.tmod a0 65536) / 256) then (if ((rd_T32 t137 x31_2).f1) > ((rd_T32 t137 (ji27)).f1) then (some false) else (spykeep3_OpticsAxesSum.l0 kj15 (Int.tmod a0 65536) a1 t137 ((Int.tmod a0 65536) / 256) (wrap64 (x8_2 + ((rd_T32 t137 x31_2).f1))) (wrap64 (x9_2 + (wrap64 (((rd_T32 t137 x31_2).f1) * (wrap64 ((wrap64 (256 * ((rd_T32 t137 x31_2).f0))) + 128)))))) t137 (t137.length : Int) (wrap64 (x31_2 + 1)))) else (spykeep3_OpticsAxesSum.l0 kj15 (Int.tmod a0 65536) a1 t137 ((Int.tmod a0 65536) / 256) (wrap64 (x8_2 + ((rd_T32 t137 x31_2).f1))) (wrap64 (x9_2 + (wrap64 (((rd_T32 t137 x31_2).f1) * (wrap64 ((wrap64 (256 * ((rd_T32 t137 x31_2).f0))) + 128)))))) t137 (t137.length : Int) (wrap64 (x31_2 + 1))))) else (some false)) else (none)) else (none)) = some r := by first | (rw [hji27] at H; exact H) | (simp only [hji27] at H ⊢; exact H)
                          have hji27w : (IntKind.i64.wrap (x31_2 - 1)) = ji27 := (i64_w _).trans hji27
                          by_cases c28 : 0 ≤ (ji27)
                          · rw [if_pos c28] at H
                            have c28b0 : decide (0 ≤ (ji27)) = true := decide_eq_true c28
                            clear c28
                            by_cases c29 : (ji27) < (t137.length : Int)
                            · rw [if_pos c29] at H
                              have c29b0 : decide ((ji27) < (t137.length : Int)) = true := decide_eq_true c29
                              clear c29
                              by_cases c30 : ((rd_T32 t137 x31_2).f0) = (wrap64 (((rd_T32 t137 (ji27)).f0) + 1))
                              · rw [if_pos c30] at H
                                have c30b0 : (((rd_T32 t137 x31_2).f0) == (wrap64 (((rd_T32 t137 (ji27)).f0) + 1))) = true := beq_iff_eq.mpr c30
                                have c30b1 : (((rd_T32 t137 x31_2).f0) != (wrap64 (((rd_T32 t137 (ji27)).f0) + 1))) = false := bne_eq_false_iff_eq.mpr c30
                                clear c30
                                by_cases c31 : ((rd_T32 t137 x31_2).f0) ≤ ((Int.tmod a0 65536) / 256)
                                · rw [if_pos c31] at H
                                  have c31b0 : decide (((rd_T32 t137 x31_2).f0) ≤ ((Int.tmod a0 65536) / 256)) = true := decide_eq_true c31
                                  clear c31
                                  by_cases c32 : ((rd_T32 t137 x31_2).f1) < ((rd_T32 t137 (ji27)).f1)
                                  · rw [if_pos c32] at H
                                    have c32b0 : decide (((rd_T32 t137 x31_2).f1) < ((rd_T32 t137 (ji27)).f1)) = true := decide_eq_true c32
                                    clear c32
                                    obtain rfl := Option.some.inj H
                                    have hcz33_0 : wc.cell? ⟨gb143, 0, none⟩ = some (.int .i64 ((rd_T32 t137 x31_2).f0)) := (blk_cell BK143.out 0).trans rfl
                                    have hcz33_1 : wc.cell? ⟨gb143, 1, none⟩ = some (.int .i64 ((rd_T32 t137 x31_2).f1)) := (blk_cell BK143.out 1).trans rfl
                                    have hfz33_0 := blk_frozen BK143.out 0
                                    have hfz33_1 := blk_frozen BK143.out 1
                                    have p145 : 0 ≤ ((ji27) : Int) := of_decide_eq_true (by first | (with_reducible assumption) | assumption)
                                    have q145 : (ji27) < (t137.length : Int) := of_decide_eq_true (by first | (with_reducible assumption) | assumption)
                                    obtain ⟨ad145, e145, hx145_0, hx145_1⟩ := at_T32 (Kd.R_reads' HO_5.out).2.2 (ji27) p145 q145
                                    obtain rfl : ad142 = ad145 := (by injection e145)
                                    replace p145 := eq_true p145
                                    replace q145 := eq_true q145
                                    have p146 : 0 ≤ ((ji27) : Int) := of_decide_eq_true (by first | (with_reducible assumption) | assumption)
                                    have q146 : (ji27) < (t137.length : Int) := of_decide_eq_true (by first | (with_reducible assumption) | assumption)
                                    obtain ⟨ad146, e146, hx146_0, hx146_1⟩ := at_T32 (Kd.R_reads' HO_5.out).2.2 (ji27) p146 q146
                                    obtain rfl : ad142 = ad146 := (by injection e146)
                                    replace p146 := eq_true p146
                                    replace q146 := eq_true q146
                                    go_wp2
                                    repeat (go_quiet (fail); try go_wp2)
                                    go_ret
                                    exact ⟨by first | rfl | (simp [errW_none, errW_some] <;> rfl) | (simp only [← hji27]; first | rfl | (simp [errW_none, errW_some] <;> rfl)) | (simp [*, errW_none, errW_some] <;> rfl), by repeat (first | (with_reducible first | exact HB.out | apply below_alloc | apply pw_below_drewN | apply below_drew1 | refine below_set ?_ GE143.out) | exact HB.out)⟩
                                  · rw [if_neg c32] at H
                                    have c32b0 : decide (((rd_T32 t137 x31_2).f1) < ((rd_T32 t137 (ji27)).f1)) = false := decide_eq_false c32
                                    clear c32
                                    by_cases c34 : ((rd_T32 t137 x31_2).f0) > ((Int.tmod a0 65536) / 256)
                                    · rw [if_pos c34] at H
                                      have c34b0 : decide (((Int.tmod a0 65536) / 256) < ((rd_T32 t137 x31_2).f0)) = true := decide_eq_true c34
                                      clear c34
                                      by_cases c35 : ((rd_T32 t137 x31_2).f1) > ((rd_T32 t137 (ji27)).f1)
                                      · rw [if_pos c35] at H
                                        have c35b0 : decide (((rd_T32 t137 (ji27)).f1) < ((rd_T32 t137 x31_2).f1)) = true := decide_eq_true c35
                                        clear c35
                                        obtain rfl := Option.some.inj H
                                        have hcz36_0 : wc.cell? ⟨gb143, 0, none⟩ = some (.int .i64 ((rd_T32 t137 x31_2).f0)) := (blk_cell BK143.out 0).trans rfl
                                        have hcz36_1 : wc.cell? ⟨gb143, 1, none⟩ = some (.int .i64 ((rd_T32 t137 x31_2).f1)) := (blk_cell BK143.out 1).trans rfl
                                        have hfz36_0 := blk_frozen BK143.out 0
                                        have hfz36_1 := blk_frozen BK143.out 1
                                        have p145 : 0 ≤ ((ji27) : Int) := of_decide_eq_true (by first | (with_reducible assumption) | assumption)
                                        have q145 : (ji27) < (t137.length : Int) := of_decide_eq_true (by first | (with_reducible assumption) | assumption)
                                        obtain ⟨ad145, e145, hx145_0, hx145_1⟩ := at_T32 (Kd.R_reads' HO_5.out).2.2 (ji27) p145 q145
                                        obtain rfl : ad142 = ad145 := (by injection e145)
                                        replace p145 := eq_true p145
                                        replace q145 := eq_true q145
                                        have p146 : 0 ≤ ((ji27) : Int) := of_decide_eq_true (by first | (with_reducible assumption) | assumption)
                                        have q146 : (ji27) < (t137.length : Int) := of_decide_eq_true (by first | (with_reducible assumption) | assumption)
                                        obtain ⟨ad146, e146, hx146_0, hx146_1⟩ := at_T32 (Kd.R_reads' HO_5.out).2.2 (ji27) p146 q146
                                        obtain rfl : ad142 = ad146 := (by injection e146)
                                        replace p146 := eq_true p146
                                        replace q146 := eq_true q146
                                        have p147 : 0 ≤ ((ji27) : Int) := of_decide_eq_true (by first | (with_reducible assumption) | assumption)
                                        have q147 : (ji27) < (t137.length : Int) := of_decide_eq_true (by first | (with_reducible assumption) | assumption)
                                        obtain ⟨ad147, e147, hx147_0, hx147_1⟩ := at_T32 (Kd.R_reads' HO_5.out).2.2 (ji27) p147 q147
                                        obtain rfl : ad142 = ad147 := (by injection e147)
                                        replace p147 := eq_true p147
                                        replace q147 := eq_true q147
                                        go_wp2
                                        repeat (go_quiet (fail); try go_wp2)
                                        go_ret
                                        exact ⟨by first | rfl | (simp [errW_none, errW_some] <;> rfl) | (simp only [← hji27]; first | rfl | (simp [errW_none, errW_some] <;> rfl)) | (simp [*, errW_none, errW_some] <;> rfl), by repeat (first | (with_reducible first | exact HB.out | apply below_alloc | apply pw_below_drewN | apply below_drew1 | refine below_set ?_ GE143.out) | exact HB.out)⟩
                                      · rw [if_neg c35] at H
                                        have c35b0 : decide (((rd_T32 t137 (ji27)).f1) < ((rd_T32 t137 x31_2).f1)) = false := decide_eq_false c35
                                        clear c35
                                        have H' := Aside0.mk H
                                        clear H
                                        have hcz37_0 : wc.cell? ⟨gb143, 0, none⟩ = some (.int .i64 ((rd_T32 t137 x31_2).f0)) := (blk_cell BK143.out 0).trans rfl
                                        have hcz37_1 : wc.cell? ⟨gb143, 1, none⟩ = some (.int .i64 ((rd_T32 t137 x31_2).f1)) := (blk_cell BK143.out 1).trans rfl
                                        have hfz37_0 := blk_frozen BK143.out 0
                                        have hfz37_1 := blk_frozen BK143.out 1
                                        have p145 : 0 ≤ ((ji27) : Int) := of_decide_eq_true (by first | (with_reducible assumption) | assumption)
                                        have q145 : (ji27) < (t137.length : Int) := of_decide_eq_true (by first | (with_reducible assumption) | assumption)
                                        obtain ⟨ad145, e145, hx145_0, hx145_1⟩ := at_T32 (Kd.R_reads' HO_5.out).2.2 (ji27) p145 q145
                                        obtain rfl : ad142 = ad145 := (by injection e145)
                                        replace p145 := eq_true p145
                                        replace q145 := eq_true q145
                                        have p146 : 0 ≤ ((ji27) : Int) := of_decide_eq_true (by first | (with_reducible assumption) | assumption)
                                        have q146 : (ji27) < (t137.length : Int) := of_decide_eq_true (by first | (with_reducible assumption) | assumption)
                                        obtain ⟨ad146, e146, hx146_0, hx146_1⟩ := at_T32 (Kd.R_reads' HO_5.out).2.2 (ji27) p146 q146
                                        obtain rfl : ad142 = ad146 := (by injection e146)
                                        replace p146 := eq_true p146
                                        replace q146 := eq_true q146
                                        have p147 : 0 ≤ ((ji27) : Int) := of_decide_eq_true (by first | (with_reducible assumption) | assumption)
                                        have q147 : (ji27) < (t137.length : Int) := of_decide_eq_true (by first | (with_reducible assumption) | assumption)
                                        obtain ⟨ad147, e147, hx147_0, hx147_1⟩ := at_T32 (Kd.R_reads' HO_5.out).2.2 (ji27) p147 q147
                                        obtain rfl : ad142 = ad147 := (by injection e147)
                                        replace p147 := eq_true p147
                                        replace q147 := eq_true q147
                                        go_wp2
                                        repeat (go_quiet (fail); try go_wp2)
                                        go_roundg kj15
                                        case measure => have := HJ4.out; have := HK2.out; have := HJ15.out; omega
                                        case rel => exact ⟨(wrap64 (x8_2 + ((rd_T32 t137 x31_2).f1))), (wrap64 (x9_2 + (wrap64 (((rd_T32 t137 x31_2).f1) * (wrap64 ((wrap64 (256 * ((rd_T32 t137 x31_2).f0))) + 128)))))), (wrap64 (x31_2 + 1)), (by first | rfl | (simp; done) | (simp [*]; done)), (by first | rfl | (simp; done) | (simp [*]; done)), (by first | rfl | (simp; done) | (simp [*]; done)), H', ⟨by have := HJ4.out; have := HK2.out; have := HJ15.out; omega⟩, ⟨by (with_reducible repeat (first | apply Kd.R_alloc | apply Kd.R_drewN | apply Kd.R_drew)); exact Kd.R_mono HO_5.out (fun _ hk => trivial)⟩, ⟨by (with_reducible repeat (first | apply Kd.R_alloc | apply Kd.R_drewN | apply Kd.R_drew)); exact Kd.R_mono HO_29.out (fun _ hk => trivial)⟩, ⟨by repeat (first | (with_reducible first | exact HB.out | apply below_alloc | apply pw_below_drewN | apply below_drew1 | refine below_set ?_ GE143.out) | exact HB.out)⟩⟩
                                    · rw [if_neg c34] at H
                                      have c34b0 : decide (((Int.tmod a0 65536) / 256) < ((rd_T32 t137 x31_2).f0)) = false := decide_eq_false c34
                                      clear c34
                                      have H' := Aside0.mk H
                                      clear H
                                      have hcz38_0 : wc.cell? ⟨gb143, 0, none⟩ = some (.int .i64 ((rd_T32 t137 x31_2).f0)) := (blk_cell BK143.out 0).trans rfl
                                      have hcz38_1 : wc.cell? ⟨gb143, 1, none⟩ = some (.int .i64 ((rd_T32 t137 x31_2).f1)) := (blk_cell BK143.out 1).trans rfl
                                      have hfz38_0 := blk_frozen BK143.out 0
                                      have hfz38_1 := blk_frozen BK143.out 1
                                      have p145 : 0 ≤ ((ji27) : Int) := of_decide_eq_true (by first | (with_reducible assumption) | assumption)
                                      have q145 : (ji27) < (t137.length : Int) := of_decide_eq_true (by first | (with_reducible assumption) | assumption)
                                      obtain ⟨ad145, e145, hx145_0, hx145_1⟩ := at_T32 (Kd.R_reads' HO_5.out).2.2 (ji27) p145 q145
                                      obtain rfl : ad142 = ad145 := (by injection e145)
                                      replace p145 := eq_true p145
                                      replace q145 := eq_true q145
                                      have p146 : 0 ≤ ((ji27) : Int) := of_decide_eq_true (by first | (with_reducible assumption) | assumption)
                                      have q146 : (ji27) < (t137.length : Int) := of_decide_eq_true (by first | (with_reducible assumption) | assumption)
                                      obtain ⟨ad146, e146, hx146_0, hx146_1⟩ := at_T32 (Kd.R_reads' HO_5.out).2.2 (ji27) p146 q146
                                      obtain rfl : ad142 = ad146 := (by injection e146)
                                      replace p146 := eq_true p146
                                      replace q146 := eq_true q146
                                      go_wp2
                                      repeat (go_quiet (fail); try go_wp2)
                                      go_roundg kj15
                                      case measure => have := HJ4.out; have := HK2.out; have := HJ15.out; omega
                                      case rel => exact ⟨(wrap64 (x8_2 + ((rd_T32 t137 x31_2).f1))), (wrap64 (x9_2 + (wrap64 (((rd_T32 t137 x31_2).f1) * (wrap64 ((wrap64 (256 * ((rd_T32 t137 x31_2).f0))) + 128)))))), (wrap64 (x31_2 + 1)), (by first | rfl | (simp; done) | (simp [*]; done)), (by first | rfl | (simp; done) | (simp [*]; done)), (by first | rfl | (simp; done) | (simp [*]; done)), H', ⟨by have := HJ4.out; have := HK2.out; have := HJ15.out; omega⟩, ⟨by (with_reducible repeat (first | apply Kd.R_alloc | apply Kd.R_drewN | apply Kd.R_drew)); exact Kd.R_mono HO_5.out (fun _ hk => trivial)⟩, ⟨by (with_reducible repeat (first | apply Kd.R_alloc | apply Kd.R_drewN | apply Kd.R_drew)); exact Kd.R_mono HO_29.out (fun _ hk => trivial)⟩, ⟨by repeat (first | (with_reducible first | exact HB.out | apply below_alloc | apply pw_below_drewN | apply below_drew1 | refine below_set ?_ GE143.out) | exact HB.out)⟩⟩
                                · rw [if_neg c31] at H
                                  have c31b0 : decide (((rd_T32 t137 x31_2).f0) ≤ ((Int.tmod a0 65536) / 256)) = false := decide_eq_false c31
                                  clear c31
                                  by_cases c39 : ((rd_T32 t137 x31_2).f0) > ((Int.tmod a0 65536) / 256)
                                  · rw [if_pos c39] at H
                                    have c39b0 : decide (((Int.tmod a0 65536) / 256) < ((rd_T32 t137 x31_2).f0)) = true := decide_eq_true c39
                                    clear c39
                                    by_cases c40 : ((rd_T32 t137 x31_2).f1) > ((rd_T32 t137 (ji27)).f1)
                                    · rw [if_pos c40] at H
                                      have c40b0 : decide (((rd_T32 t137 (ji27)).f1) < ((rd_T32 t137 x31_2).f1)) = true := decide_eq_true c40
                                      clear c40
                                      obtain rfl := Option.some.inj H
                                      have hcz41_0 : wc.cell? ⟨gb143, 0, none⟩ = some (.int .i64 ((rd_T32 t137 x31_2).f0)) := (blk_cell BK143.out 0).trans rfl
                                      have hcz41_1 : wc.cell? ⟨gb143, 1, none⟩ = some (.int .i64 ((rd_T32 t137 x31_2).f1)) := (blk_cell BK143.out 1).trans rfl
                                      have hfz41_0 := blk_frozen BK143.out 0
                                      have hfz41_1 := blk_frozen BK143.out 1
                                      have p145 : 0 ≤ ((ji27) : Int) := of_decide_eq_true (by first | (with_reducible assumption) | assumption)
                                      have q145 : (ji27) < (t137.length : Int) := of_decide_eq_true (by first | (with_reducible assumption) | assumption)
                                      obtain ⟨ad145, e145, hx145_0, hx145_1⟩ := at_T32 (Kd.R_reads' HO_5.out).2.2 (ji27) p145 q145
                                      obtain rfl : ad142 = ad145 := (by injection e145)
                                      replace p145 := eq_true p145
                                      replace q145 := eq_true q145
                                      have p148 : 0 ≤ ((ji27) : Int) := of_decide_eq_true (by first | (with_reducible assumption) | assumption)
                                      have q148 : (ji27) < (t137.length : Int) := of_decide_eq_true (by first | (with_reducible assumption) | assumption)
                                      obtain ⟨ad148, e148, hx148_0, hx148_1⟩ := at_T32 (Kd.R_reads' HO_5.out).2.2 (ji27) p148 q148
                                      obtain rfl : ad142 = ad148 := (by injection e148)
                                      replace p148 := eq_true p148
                                      replace q148 := eq_true q148
                                      go_wp2
                                      repeat (go_quiet (fail); try go_wp2)
                                      go_ret
                                      exact ⟨by first | rfl | (simp [errW_none, errW_some] <;> rfl) | (simp only [← hji27]; first | rfl | (simp [errW_none, errW_some] <;> rfl)) | (simp [*, errW_none, errW_some] <;> rfl), by repeat (first | (with_reducible first | exact HB.out | apply below_alloc | apply pw_below_drewN | apply below_drew1 | refine below_set ?_ GE143.out) | exact HB.out)⟩
                                    · rw [if_neg c40] at H
                                      have c40b0 : decide (((rd_T32 t137 (ji27)).f1) < ((rd_T32 t137 x31_2).f1)) = false := decide_eq_false c40
                                      clear c40
                                      have H' := Aside0.mk H
                                      clear H
                                      have hcz42_0 : wc.cell? ⟨gb143, 0, none⟩ = some (.int .i64 ((rd_T32 t137 x31_2).f0)) := (blk_cell BK143.out 0).trans rfl
                                      have hcz42_1 : wc.cell? ⟨gb143, 1, none⟩ = some (.int .i64 ((rd_T32 t137 x31_2).f1)) := (blk_cell BK143.out 1).trans rfl
                                      have hfz42_0 := blk_frozen BK143.out 0
                                      have hfz42_1 := blk_frozen BK143.out 1
                                      have p145 : 0 ≤ ((ji27) : Int) := of_decide_eq_true (by first | (with_reducible assumption) | assumption)
                                      have q145 : (ji27) < (t137.length : Int) := of_decide_eq_true (by first | (with_reducible assumption) | assumption)
                                      obtain ⟨ad145, e145, hx145_0, hx145_1⟩ := at_T32 (Kd.R_reads' HO_5.out).2.2 (ji27) p145 q145
                                      obtain rfl : ad142 = ad145 := (by injection e145)
                                      replace p145 := eq_true p145
                                      replace q145 := eq_true q145
                                      have p148 : 0 ≤ ((ji27) : Int) := of_decide_eq_true (by first | (with_reducible assumption) | assumption)
                                      have q148 : (ji27) < (t137.length : Int) := of_decide_eq_true (by first | (with_reducible assumption) | assumption)
                                      obtain ⟨ad148, e148, hx148_0, hx148_1⟩ := at_T32 (Kd.R_reads' HO_5.out).2.2 (ji27) p148 q148
                                      obtain rfl : ad142 = ad148 := (by injection e148)
                                      replace p148 := eq_true p148
                                      replace q148 := eq_true q148
                                      go_wp2
                                      repeat (go_quiet (fail); try go_wp2)
                                      go_roundg kj15
                                      case measure => have := HJ4.out; have := HK2.out; have := HJ15.out; omega
                                      case rel => exact ⟨(wrap64 (x8_2 + ((rd_T32 t137 x31_2).f1))), (wrap64 (x9_2 + (wrap64 (((rd_T32 t137 x31_2).f1) * (wrap64 ((wrap64 (256 * ((rd_T32 t137 x31_2).f0))) + 128)))))), (wrap64 (x31_2 + 1)), (by first | rfl | (simp; done) | (simp [*]; done)), (by first | rfl | (simp; done) | (simp [*]; done)), (by first | rfl | (simp; done) | (simp [*]; done)), H', ⟨by have := HJ4.out; have := HK2.out; have := HJ15.out; omega⟩, ⟨by (with_reducible repeat (first | apply Kd.R_alloc | apply Kd.R_drewN | apply Kd.R_drew)); exact Kd.R_mono HO_5.out (fun _ hk => trivial)⟩, ⟨by (with_reducible repeat (first | apply Kd.R_alloc | apply Kd.R_drewN | apply Kd.R_drew)); exact Kd.R_mono HO_29.out (fun _ hk => trivial)⟩, ⟨by repeat (first | (with_reducible first | exact HB.out | apply below_alloc | apply pw_below_drewN | apply below_drew1 | refine below_set ?_ GE143.out) | exact HB.out)⟩⟩
                                  · rw [if_neg c39] at H
                                    have c39b0 : decide (((Int.tmod a0 65536) / 256) < ((rd_T32 t137 x31_2).f0)) = false := decide_eq_false c39
                                    clear c39
                                    have H' := Aside0.mk H
                                    clear H
                                    have hcz43_0 : wc.cell? ⟨gb143, 0, none⟩ = some (.int .i64 ((rd_T32 t137 x31_2).f0)) := (blk_cell BK143.out 0).trans rfl
                                    have hcz43_1 : wc.cell? ⟨gb143, 1, none⟩ = some (.int .i64 ((rd_T32 t137 x31_2).f1)) := (blk_cell BK143.out 1).trans rfl
                                    have hfz43_0 := blk_frozen BK143.out 0
                                    have hfz43_1 := blk_frozen BK143.out 1
                                    have p145 : 0 ≤ ((ji27) : Int) := of_decide_eq_true (by first | (with_reducible assumption) | assumption)
                                    have q145 : (ji27) < (t137.length : Int) := of_decide_eq_true (by first | (with_reducible assumption) | assumption)
                                    obtain ⟨ad145, e145, hx145_0, hx145_1⟩ := at_T32 (Kd.R_reads' HO_5.out).2.2 (ji27) p145 q145
                                    obtain rfl : ad142 = ad145 := (by injection e145)
                                    replace p145 := eq_true p145
                                    replace q145 := eq_true q145
                                    go_wp2
                                    repeat (go_quiet (fail); try go_wp2)
                                    go_roundg kj15
                                    case measure => have := HJ4.out; have := HK2.out; have := HJ15.out; omega
                                    case rel => exact ⟨(wrap64 (x8_2 + ((rd_T32 t137 x31_2).f1))), (wrap64 (x9_2 + (wrap64 (((rd_T32 t137 x31_2).f1) * (wrap64 ((wrap64 (256 * ((rd_T32 t137 x31_2).f0))) + 128)))))), (wrap64 (x31_2 + 1)), (by first | rfl | (simp; done) | (simp [*]; done)), (by first | rfl | (simp; done) | (simp [*]; done)), (by first | rfl | (simp; done) | (simp [*]; done)), H', ⟨by have := HJ4.out; have := HK2.out; have := HJ15.out; omega⟩, ⟨by (with_reducible repeat (first | apply Kd.R_alloc | apply Kd.R_drewN | apply Kd.R_drew)); exact Kd.R_mono HO_5.out (fun _ hk => trivial)⟩, ⟨by (with_reducible repeat (first | apply Kd.R_alloc | apply Kd.R_drewN | apply Kd.R_drew)); exact Kd.R_mono HO_29.out (fun _ hk => trivial)⟩, ⟨by repeat (first | (with_reducible first | exact HB.out | apply below_alloc | apply pw_below_drewN | apply below_drew1 | refine below_set ?_ GE143.out) | exact HB.out)⟩⟩
                              · rw [if_neg c30] at H
                                have c30b0 : (((rd_T32 t137 x31_2).f0) == (wrap64 (((rd_T32 t137 (ji27)).f0) + 1))) = false := beq_eq_false_iff_ne.mpr c30
                                have c30b1 : (((rd_T32 t137 x31_2).f0) != (wrap64 (((rd_T32 t137 (ji27)).f0) + 1))) = true := bne_iff_ne.mpr c30
                                obtain rfl := Option.some.inj H
                                have hcz44_0 : wc.cell? ⟨gb143, 0, none⟩ = some (.int .i64 ((rd_T32 t137 x31_2).f0)) := (blk_cell BK143.out 0).trans rfl
                                have hcz44_1 : wc.cell? ⟨gb143, 1, none⟩ = some (.int .i64 ((rd_T32 t137 x31_2).f1)) := (blk_cell BK143.out 1).trans rfl
                                have hfz44_0 := blk_frozen BK143.out 0
                                have hfz44_1 := blk_frozen BK143.out 1
                                have p145 : 0 ≤ ((ji27) : Int) := of_decide_eq_true (by first | (with_reducible assumption) | assumption)
                                have q145 : (ji27) < (t137.length : Int) := of_decide_eq_true (by first | (with_reducible assumption) | assumption)
                                obtain ⟨ad145, e145, hx145_0, hx145_1⟩ := at_T32 (Kd.R_reads' HO_5.out).2.2 (ji27) p145 q145
                                obtain rfl : ad142 = ad145 := (by injection e145)
                                replace p145 := eq_true p145
                                replace q145 := eq_true q145
                                go_wp2
                                repeat (go_quiet (fail); try go_wp2)
                                go_ret
                                exact ⟨by first | rfl | (simp [errW_none, errW_some] <;> rfl) | (simp only [← hji27]; first | rfl | (simp [errW_none, errW_some] <;> rfl)) | (simp [*, errW_none, errW_some] <;> rfl), by repeat (first | (with_reducible first | exact HB.out | apply below_alloc | apply pw_below_drewN | apply below_drew1 | refine below_set ?_ GE143.out) | exact HB.out)⟩
                            · rw [if_neg c29] at H
                              exact absurd H (by simp)
                          · rw [if_neg c28] at H
                            exact absurd H (by simp)
                        · rw [if_neg c26] at H
                          have c26b0 : decide (0 < x31_2) = false := decide_eq_false c26
                          clear c26
                          have H' := Aside0.mk H
                          clear H
                          have hcz45_0 : wc.cell? ⟨gb143, 0, none⟩ = some (.int .i64 ((rd_T32 t137 x31_2).f0)) := (blk_cell BK143.out 0).trans rfl
                          have hcz45_1 : wc.cell? ⟨gb143, 1, none⟩ = some (.int .i64 ((rd_T32 t137 x31_2).f1)) := (blk_cell BK143.out 1).trans rfl
                          have hfz45_0 := blk_frozen BK143.out 0
                          have hfz45_1 := blk_frozen BK143.out 1
                          go_wp2
                          repeat (go_quiet (fail); try go_wp2)
                          go_roundg kj15
                          case measure => have := HJ4.out; have := HK2.out; have := HJ15.out; omega
                          case rel => exact ⟨(wrap64 (x8_2 + ((rd_T32 t137 x31_2).f1))), (wrap64 (x9_2 + (wrap64 (((rd_T32 t137 x31_2).f1) * (wrap64 ((wrap64 (256 * ((rd_T32 t137 x31_2).f0))) + 128)))))), (wrap64 (x31_2 + 1)), (by first | rfl | (simp; done) | (simp [*]; done)), (by first | rfl | (simp; done) | (simp [*]; done)), (by first | rfl | (simp; done) | (simp [*]; done)), H', ⟨by have := HJ4.out; have := HK2.out; have := HJ15.out; omega⟩, ⟨by (with_reducible repeat (first | apply Kd.R_alloc | apply Kd.R_drewN | apply Kd.R_drew)); exact Kd.R_mono HO_5.out (fun _ hk => trivial)⟩, ⟨by (with_reducible repeat (first | apply Kd.R_alloc | apply Kd.R_drewN | apply Kd.R_drew)); exact Kd.R_mono HO_29.out (fun _ hk => trivial)⟩, ⟨by repeat (first | (with_reducible first | exact HB.out | apply below_alloc | apply pw_below_drewN | apply below_drew1 | refine below_set ?_ GE143.out) | exact HB.out)⟩⟩
                · rw [if_neg c15] at H
                  exact absurd H (by simp)
              · rw [if_neg c14] at H
                exact absurd H (by simp)
            · rw [if_neg c13] at H
              have c13b0 : decide (x31_2 < (t137.length : Int)) = false := decide_eq_false c13
              clear c13
              by_cases c46 : x8_2 = 4096
              · rw [if_pos c46] at H
                have c46b0 : (x8_2 == 4096) = true := beq_iff_eq.mpr c46
                have c46b1 : (x8_2 != 4096) = false := bne_eq_false_iff_eq.mpr c46
                clear c46
                obtain rfl := Option.some.inj H
                go_wp2
                repeat (go_quiet (fail); try go_wp2)
                go_ret
                exact ⟨by first | rfl | (simp [errW_none, errW_some] <;> rfl) | (simp [*, errW_none, errW_some] <;> rfl), by repeat (first | (with_reducible first | exact HB.out | apply below_alloc | apply pw_below_drewN | apply below_drew1) | exact HB.out)⟩
              · rw [if_neg c46] at H
                have c46b0 : (x8_2 == 4096) = false := beq_eq_false_iff_ne.mpr c46
                have c46b1 : (x8_2 != 4096) = true := bne_iff_ne.mpr c46
                obtain rfl := Option.some.inj H
                go_wp2
                repeat (go_quiet (fail); try go_wp2)
                go_ret
                exact ⟨by first | rfl | (simp [errW_none, errW_some] <;> rfl) | (simp [*, errW_none, errW_some] <;> rfl), by repeat (first | (with_reducible first | exact HB.out | apply below_alloc | apply pw_below_drewN | apply below_drew1) | exact HB.out)⟩

/-- THE ONE PURE STATEMENT of spykeep3_OpticsAxesSum: yours. -/
def spykeep3_OpticsAxesSum.Pure : Prop := ∀ (a0 : Int) (a1 : Int), (Lit.int .i64 a0).wf = true → (Lit.int .i64 a1).wf = true → ∃ k, spykeep3_OpticsAxesSum.f k a0 a1 = some true
theorem spykeep3_OpticsAxesSum.walk (P : spykeep3_OpticsAxesSum.Pure) (a0 : Int) (a1 : Int) (w : World) (w0 : (Lit.int .i64 a0).wf = true) (w1 : (Lit.int .i64 a1).wf = true) :
    Calls Try.prog 3 #[.int .i64 a0, .int .i64 a1] w fun e w' => e = .returned (.bool true) ∧ Below w.heap.size w w' := by
  obtain ⟨k, h⟩ := P a0 a1 w0 w1
  refine (spykeep3_OpticsAxesSum.calls k a0 a1 true w h).mono ?_
  rintro e w' ⟨rfl, hd⟩
  exact ⟨rfl, hd⟩

end Go.Proofs.Ytjdjbmokjhooaaa.QOpticsAxesSum
