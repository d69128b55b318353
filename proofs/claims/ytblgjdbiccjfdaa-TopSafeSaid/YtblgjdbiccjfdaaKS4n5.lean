import Derived.Test.YtblgjdbiccjfdaaProg
import Derived.Test.YtblgjdbiccjfdaaSpCopy
import Derived.Test.YtblgjdbiccjfdaaFS4
import Derived.Test.YtblgjdbiccjfdaaSpTake
import Derived.Test.YtblgjdbiccjfdaaKS4n0
import Derived.Test.YtblgjdbiccjfdaaKS4n1
import Derived.Test.YtblgjdbiccjfdaaKS4n2
import Derived.Test.YtblgjdbiccjfdaaKS4n3
import Derived.Test.YtblgjdbiccjfdaaKS4n4
namespace Go.Sp.S4
open Go Go.Sp Go.Proofs
set_option linter.unusedVariables false
attribute [local irreducible] wpList AnyL Code.wp Calls Does
set_option maxRecDepth 100000 in
set_option maxHeartbeats 4000000 in
theorem guard_stops.calls (k : Nat)  (vw1 : S_World) {t w : World} {f : FM} {H : List Seg} (HS : St t w f (H)) (rr1 : Bool) (h : guard_stops k vw1 = some rr1) :
    Calls Try.prog 49 #[.agg (cl_World vw1)] w (fun e w' => ∃ (g : FM), e = .returned (Value.bool rr1) ∧ FM.le f g ∧ St t w' g (H)) := by
 unfold guard_stops at h
 refine enter Try.func49 rfl (tm := ⟨[(ag_World vw1)] ++ (un 50 [])⟩) kr ?_
 intro B hret hnor hnp
 refine wp_seq_k fun K2 hK3 => rl ?_
 refine seqK rfl (does_box (cs := (cl_World vw1)) rfl (kv (.agg (cl_World vw1))) rfl HS ?_)
 intro b4 W5 HS6
 refine seqL1 kr ?_
 refine nl (hK3 _ _ ?_)
 refine wp_seq_k (fun K8 hK9 => ?_)
 replace h := bind_some h; obtain ⟨v10, hv19, h⟩ := h
 have J20 : ∀ (f13 : FM) (still18 : Bool) (j17 : Nat → Value) (W15 : World) (a_ : Act), FM.le f f13 → some (still18) = some v10 → St t W15 f13 ([(b4, .cells (cl_World vw1) 59 (0, 0))] :: H) → a_ = ⟨⟨[(ag_World vw1), pV b4 0, fV, .bool still18] ++ (jr j17 0 16 (un 31 []))⟩, []⟩ → K8 a_ W15 := by
  intro f13 still18 j17 W15 a_ L14 hj21 HS16  hfr_; subst hfr_
  injection hj21 with hj21; subst hj21; try dsimp only at h
  refine hK9 _ _ ?_
  refine wp_seq_k fun K22 hK23 => rl ?_
  refine seqL2 kr ?_
  replace h := ite_some h; rcases h with ⟨c25, h⟩ | ⟨c25, h⟩
  rotate_left
  · have c25 : ¬ (still18 = true) := c25
    refine seqRwI 3 kr (Bool.eq_false_iff.mpr c25) ?_
    refine seqRwI 20 kr (Bool.eq_false_iff.mpr c25) ?_
    refine seqRwI 21 kr (Bool.eq_false_iff.mpr c25) ?_
    refine seqL30 kr ?_
    refine nl (hK23 _ _ ?_)
    refine wp_ret ?_
    refine hret _ _ ?_
    refine ends_still (v := Value.bool false) kr kr ?_
    have HS45 := HS16.drop
    injection h with h
    subst h
    exact ⟨f13, rfl, L14, HS45⟩
  have c25 : still18 = true := c25
  refine seqRwI 3 kr c25 ?_
  refine seqRwI 20 kr c25 ?_
  refine seqRwI 21 kr c25 ?_
  refine seqL3 kr ?_
  refine seqG kr (does_run (run_load rfl Try.underlying4 rfl (kv (pV b4 16)) (HS16.cell 16)) ?_)
  refine seqL1 kr ?_
  replace h := ite_some h; rcases h with ⟨c26, h⟩ | ⟨c26, h⟩
  · have c26 : vw1.Dome.Turn.Halt = true := c26
    refine seqRwI 25 kr c26 ?_
    refine seqRwI 26 kr c26 ?_
    refine seqL9 kr ?_
    refine seqG kr (does_run (run_load rfl Try.underlying4 rfl (kv (pV b4 11)) (HS16.cell 11)) ?_)
    refine seqL3 kr ?_
    replace h := ite_some h; rcases h with ⟨c27, h⟩ | ⟨c27, h⟩
    rotate_left
    · have c27 : ¬ (¬ (vw1.Dome.Open = true)) := c27
      refine seqRwI 37 (x := (!vw1.Dome.Open)) (v := false) kr (congrArg (fun b_ => !b_) (show vw1.Dome.Open = true from (Decidable.of_not_not c27)) : (!vw1.Dome.Open) = false) ?_
      refine seqRwI 38 (x := (!vw1.Dome.Open)) (v := false) kr (congrArg (fun b_ => !b_) (show vw1.Dome.Open = true from (Decidable.of_not_not c27)) : (!vw1.Dome.Open) = false) ?_
      refine seqRwI 39 (x := (!vw1.Dome.Open)) (v := false) kr (congrArg (fun b_ => !b_) (show vw1.Dome.Open = true from (Decidable.of_not_not c27)) : (!vw1.Dome.Open) = false) ?_
      refine seqL12 kr ?_
      refine nl (hK23 _ _ ?_)
      refine wp_ret ?_
      refine hret _ _ ?_
      refine ends_still (v := Value.bool false) kr kr ?_
      have HS40 := HS16.drop
      injection h with h
      subst h
      exact ⟨f13, rfl, L14, HS40⟩
    have c27 : ¬ (vw1.Dome.Open = true) := c27
    refine seqRwI 37 kr (congrArg (fun b_ => !b_) (show vw1.Dome.Open = false from (Bool.eq_false_iff.mpr c27)) : (!vw1.Dome.Open) = true) ?_
    refine seqRwI 38 kr (congrArg (fun b_ => !b_) (show vw1.Dome.Open = false from (Bool.eq_false_iff.mpr c27)) : (!vw1.Dome.Open) = true) ?_
    refine seqRwI 39 kr (congrArg (fun b_ => !b_) (show vw1.Dome.Open = false from (Bool.eq_false_iff.mpr c27)) : (!vw1.Dome.Open) = true) ?_
    refine seqL2 kr ?_
    refine seqG kr (does_run (run_load rfl Try.underlying4 rfl (kv (pV b4 12)) (HS16.cell 12)) ?_)
    refine seqL3 kr ?_
    replace h := ite_some h; rcases h with ⟨c28, h⟩ | ⟨c28, h⟩
    · have c28 : ¬ (vw1.Dome.Lift = true) := c28
      refine seqRwI 43 kr (congrArg (fun b_ => !b_) (show vw1.Dome.Lift = false from (Bool.eq_false_iff.mpr c28)) : (!vw1.Dome.Lift) = true) ?_
      refine seqRwI 44 kr (congrArg (fun b_ => !b_) (show vw1.Dome.Lift = false from (Bool.eq_false_iff.mpr c28)) : (!vw1.Dome.Lift) = true) ?_
      refine seqRwI 45 kr (congrArg (fun b_ => !b_) (show vw1.Dome.Lift = false from (Bool.eq_false_iff.mpr c28)) : (!vw1.Dome.Lift) = true) ?_
      refine seqL2 kr ?_
      refine seqG kr (does_run (run_load rfl Try.underlying3 rfl (kv (pV b4 17)) (HS16.cell 17)) ?_)
      refine seqL3 kr ?_
      refine nl (hK23 _ _ ?_)
      refine wp_ret ?_
      refine hret _ _ ?_
      refine ends_still (v := Value.bool (vw1.Camera.Mode != 1)) kr kr ?_
      have HS38 := HS16.drop
      injection h with h
      subst h
      exact ⟨f13, rfl, L14, HS38⟩
    have c28 : ¬ (¬ (vw1.Dome.Lift = true)) := c28
    refine seqRwI 43 (x := (!vw1.Dome.Lift)) (v := false) kr (congrArg (fun b_ => !b_) (show vw1.Dome.Lift = true from (Decidable.of_not_not c28)) : (!vw1.Dome.Lift) = false) ?_
    refine seqRwI 44 (x := (!vw1.Dome.Lift)) (v := false) kr (congrArg (fun b_ => !b_) (show vw1.Dome.Lift = true from (Decidable.of_not_not c28)) : (!vw1.Dome.Lift) = false) ?_
    refine seqRwI 45 (x := (!vw1.Dome.Lift)) (v := false) kr (congrArg (fun b_ => !b_) (show vw1.Dome.Lift = true from (Decidable.of_not_not c28)) : (!vw1.Dome.Lift) = false) ?_
    refine seqL6 kr ?_
    refine nl (hK23 _ _ ?_)
    refine wp_ret ?_
    refine hret _ _ ?_
    refine ends_still (v := Value.bool false) kr kr ?_
    have HS39 := HS16.drop
    injection h with h
    subst h
    exact ⟨f13, rfl, L14, HS39⟩
  have c26 : ¬ (vw1.Dome.Turn.Halt = true) := c26
  refine seqRwI 25 kr (Bool.eq_false_iff.mpr c26) ?_
  refine seqRwI 26 kr (Bool.eq_false_iff.mpr c26) ?_
  refine seqL2 kr ?_
  refine seqG kr (does_run (run_loadN (n := 4) rfl Try.underlying49 rfl kr (kv (pV b4 13)) (cs := (ll_State vw1.Dome.Turn)) rfl (HS16.cells 13 4 _ rfl)) ?_)
  replace h := bind_some h; obtain ⟨vt29, hc30, h⟩ := h
  refine seqG kr (does_call kr (axis_Resting.calls k vw1.Dome.Turn HS16 vt29 hc30) ?_)
  rintro _ W33 ⟨f31, rfl, L32, HS34⟩
  refine ⟨_, rfl, ?_⟩
  refine seqL3 kr ?_
  replace h := ite_some h; rcases h with ⟨c35, h⟩ | ⟨c35, h⟩
  rotate_left
  · have c35 : ¬ (vt29 = true) := c35
    refine seqRwI 30 kr (Bool.eq_false_iff.mpr c35) ?_
    refine seqRwI 31 kr (Bool.eq_false_iff.mpr c35) ?_
    refine seqRwI 32 kr (Bool.eq_false_iff.mpr c35) ?_
    refine seqRwI 33 kr (Bool.eq_false_iff.mpr c35) ?_
    refine seqL18 kr ?_
    refine nl (hK23 _ _ ?_)
    refine wp_ret ?_
    refine hret _ _ ?_
    refine ends_still (v := Value.bool false) kr kr ?_
    have HS44 := HS34.drop
    injection h with h
    subst h
    exact ⟨f31, rfl, (L14.trans L32), HS44⟩
  have c35 : vt29 = true := c35
  refine seqRwI 30 kr c35 ?_
  refine seqRwI 31 kr c35 ?_
  refine seqRwI 32 kr c35 ?_
  refine seqRwI 33 kr c35 ?_
  refine seqL2 kr ?_
  refine seqG kr (does_run (run_load rfl Try.underlying4 rfl (kv (pV b4 11)) (HS34.cell 11)) ?_)
  refine seqL3 kr ?_
  replace h := ite_some h; rcases h with ⟨c36, h⟩ | ⟨c36, h⟩
  rotate_left
  · have c36 : ¬ (¬ (vw1.Dome.Open = true)) := c36
    refine seqRwI 37 (x := (!vw1.Dome.Open)) (v := false) kr (congrArg (fun b_ => !b_) (show vw1.Dome.Open = true from (Decidable.of_not_not c36)) : (!vw1.Dome.Open) = false) ?_
    refine seqRwI 38 (x := (!vw1.Dome.Open)) (v := false) kr (congrArg (fun b_ => !b_) (show vw1.Dome.Open = true from (Decidable.of_not_not c36)) : (!vw1.Dome.Open) = false) ?_
    refine seqRwI 39 (x := (!vw1.Dome.Open)) (v := false) kr (congrArg (fun b_ => !b_) (show vw1.Dome.Open = true from (Decidable.of_not_not c36)) : (!vw1.Dome.Open) = false) ?_
    refine seqL12 kr ?_
    refine nl (hK23 _ _ ?_)
    refine wp_ret ?_
    refine hret _ _ ?_
    refine ends_still (v := Value.bool false) kr kr ?_
    have HS43 := HS34.drop
    injection h with h
    subst h
    exact ⟨f31, rfl, (L14.trans L32), HS43⟩
  have c36 : ¬ (vw1.Dome.Open = true) := c36
  refine seqRwI 37 kr (congrArg (fun b_ => !b_) (show vw1.Dome.Open = false from (Bool.eq_false_iff.mpr c36)) : (!vw1.Dome.Open) = true) ?_
  refine seqRwI 38 kr (congrArg (fun b_ => !b_) (show vw1.Dome.Open = false from (Bool.eq_false_iff.mpr c36)) : (!vw1.Dome.Open) = true) ?_
  refine seqRwI 39 kr (congrArg (fun b_ => !b_) (show vw1.Dome.Open = false from (Bool.eq_false_iff.mpr c36)) : (!vw1.Dome.Open) = true) ?_
  refine seqL2 kr ?_
  refine seqG kr (does_run (run_load rfl Try.underlying4 rfl (kv (pV b4 12)) (HS34.cell 12)) ?_)
  refine seqL3 kr ?_
  replace h := ite_some h; rcases h with ⟨c37, h⟩ | ⟨c37, h⟩
  · have c37 : ¬ (vw1.Dome.Lift = true) := c37
    refine seqRwI 43 kr (congrArg (fun b_ => !b_) (show vw1.Dome.Lift = false from (Bool.eq_false_iff.mpr c37)) : (!vw1.Dome.Lift) = true) ?_
    refine seqRwI 44 kr (congrArg (fun b_ => !b_) (show vw1.Dome.Lift = false from (Bool.eq_false_iff.mpr c37)) : (!vw1.Dome.Lift) = true) ?_
    refine seqRwI 45 kr (congrArg (fun b_ => !b_) (show vw1.Dome.Lift = false from (Bool.eq_false_iff.mpr c37)) : (!vw1.Dome.Lift) = true) ?_
    refine seqL2 kr ?_
    refine seqG kr (does_run (run_load rfl Try.underlying3 rfl (kv (pV b4 17)) (HS34.cell 17)) ?_)
    refine seqL3 kr ?_
    refine nl (hK23 _ _ ?_)
    refine wp_ret ?_
    refine hret _ _ ?_
    refine ends_still (v := Value.bool (vw1.Camera.Mode != 1)) kr kr ?_
    have HS41 := HS34.drop
    injection h with h
    subst h
    exact ⟨f31, rfl, (L14.trans L32), HS41⟩
  have c37 : ¬ (¬ (vw1.Dome.Lift = true)) := c37
  refine seqRwI 43 (x := (!vw1.Dome.Lift)) (v := false) kr (congrArg (fun b_ => !b_) (show vw1.Dome.Lift = true from (Decidable.of_not_not c37)) : (!vw1.Dome.Lift) = false) ?_
  refine seqRwI 44 (x := (!vw1.Dome.Lift)) (v := false) kr (congrArg (fun b_ => !b_) (show vw1.Dome.Lift = true from (Decidable.of_not_not c37)) : (!vw1.Dome.Lift) = false) ?_
  refine seqRwI 45 (x := (!vw1.Dome.Lift)) (v := false) kr (congrArg (fun b_ => !b_) (show vw1.Dome.Lift = true from (Decidable.of_not_not c37)) : (!vw1.Dome.Lift) = false) ?_
  refine seqL6 kr ?_
  refine nl (hK23 _ _ ?_)
  refine wp_ret ?_
  refine hret _ _ ?_
  refine ends_still (v := Value.bool false) kr kr ?_
  have HS42 := HS34.drop
  injection h with h
  subst h
  exact ⟨f31, rfl, (L14.trans L32), HS42⟩
 clear h; have h := hv19; clear hv19
 refine rl ?_
 refine seqL2 kr ?_
 refine seqK rfl (does_run (run_load rfl Try.underlying3 rfl (kv (pV b4 8)) (HS6.cell 8)) ?_)
 refine seqL2 kr ?_
 replace h := ite_some h; rcases h with ⟨c11, h⟩ | ⟨c11, h⟩
 · have c11 : vw1.Mount.Mode = 0 := c11
   refine seqRwI 7 kr (beq_iff_eq.mpr c11) ?_
   refine seqRwI 8 kr (beq_iff_eq.mpr c11) ?_
   refine seqL12 kr ?_
   refine nl ?_
   exact J20 f true (jL [pV b4 0, pV b4 8, iV vw1.Mount.Mode, tV, tV, uV, uV, uV, uV, tV, tV, uV, uV, uV, uV, tV]) W5 _ fL h HS6 kr
 have c11 : ¬ (vw1.Mount.Mode = 0) := c11
 refine seqRwI 7 kr (beq_eq_false_iff_ne.mpr c11) ?_
 refine seqRwI 8 kr (beq_eq_false_iff_ne.mpr c11) ?_
 refine seqL2 kr ?_
 refine seqG kr (does_run (run_load rfl Try.underlying3 rfl (kv (pV b4 8)) (HS6.cell 8)) ?_)
 refine seqL3 kr ?_
 replace h := ite_some h; rcases h with ⟨c12, h⟩ | ⟨c12, h⟩
 · have c12 : vw1.Mount.Mode = 1 := c12
   refine seqRwI 12 kr (beq_iff_eq.mpr c12) ?_
   refine seqRwI 13 kr (beq_iff_eq.mpr c12) ?_
   refine seqRwI 14 kr (beq_iff_eq.mpr c12) ?_
   refine seqL6 kr ?_
   refine nl ?_
   exact J20 f true (jL [pV b4 0, pV b4 8, iV vw1.Mount.Mode, fV, fV, pV b4 0, pV b4 8, iV vw1.Mount.Mode, tV, tV, tV, uV, uV, uV, uV, tV]) W5 _ fL h HS6 kr
 have c12 : ¬ (vw1.Mount.Mode = 1) := c12
 refine seqRwI 12 kr (beq_eq_false_iff_ne.mpr c12) ?_
 refine seqRwI 13 kr (beq_eq_false_iff_ne.mpr c12) ?_
 refine seqRwI 14 kr (beq_eq_false_iff_ne.mpr c12) ?_
 refine seqL2 kr ?_
 refine seqG kr (does_run (run_load rfl Try.underlying3 rfl (kv (pV b4 8)) (HS6.cell 8)) ?_)
 refine seqL3 kr ?_
 refine nl ?_
 exact J20 f (vw1.Mount.Mode == 5) (jL [pV b4 0, pV b4 8, iV vw1.Mount.Mode, fV, fV, pV b4 0, pV b4 8, iV vw1.Mount.Mode, fV, fV, fV, pV b4 0, pV b4 8, iV vw1.Mount.Mode, .bool (vw1.Mount.Mode == 5), .bool (vw1.Mount.Mode == 5)]) W5 _ fL h HS6 kr

set_option maxRecDepth 100000 in
set_option maxHeartbeats 4000000 in
theorem guard_Check.calls (k : Nat)  (m1 : S_Mount) (vw2 : S_World) {t w : World} {f : FM} {H : List Seg} (HS : St t w f (H)) (rr1 : Int) (h : guard_Check k m1 vw2 = some rr1) :
    Calls Try.prog 27 #[.agg (cl_Mount m1), .agg (cl_World vw2)] w (fun e w' => ∃ (g : FM), e = .returned (Value.int .i64 rr1) ∧ FM.le f g ∧ St t w' g (H)) := by
 unfold guard_Check at h
 refine enter Try.func27 rfl (tm := ⟨[(ag_Mount m1), (ag_World vw2)] ++ (un 117 [])⟩) kr ?_
 intro B hret hnor hnp
 refine wp_seq_k fun K3 hK4 => rl ?_
 refine seqK rfl (does_box (cs := (cl_Mount m1)) rfl (kv (.agg (cl_Mount m1))) rfl HS ?_)
 intro b5 W6 HS7
 refine seqK rfl (does_box (cs := (cl_World vw2)) rfl (kv (.agg (cl_World vw2))) rfl HS7 ?_)
 intro b9 W10 HS11
 refine seqL1 kr ?_
 refine nl (hK4 _ _ ?_)
 refine wp_seq_k (fun K13 hK14 => ?_)
 refine wp_seq_k fun K15 hK16 => rl ?_
 refine seqK rfl (does_run (run_loadN (n := 10) rfl Try.underlying31 rfl kr (kv (pV b5 0)) (cs := (ll_Mount m1)) rfl (HS11.u1.cells 0 10 _ rfl)) ?_)
 refine seqL1 kr ?_
 refine seqK rfl (does_run (run_loadN (n := 9) rfl Try.underlying51 rfl kr (kv (pV b9 0)) (cs := (ll_State2 vw2.Mount)) rfl (HS11.cells 0 9 _ rfl)) ?_)
 replace h := bind_some h; obtain ⟨vt17, hc18, h⟩ := h
 refine seqK rfl (does_call kr (mount_Check.calls k m1 vw2.Mount HS11 vt17 hc18) ?_)
 rintro _ W21 ⟨f19, rfl, L20, HS22⟩
 refine ⟨_, rfl, ?_⟩
 refine seqL1 kr ?_
 refine nl (hK16 _ _ ?_)
 refine wp_seq_k fun K23 hK24 => rl ?_
 refine seqL2 kr ?_
 refine nl (hK24 _ _ ?_)
 replace h := ite_some h; rcases h with ⟨c26, h⟩ | ⟨c26, h⟩
 · have c26 : vt17 ≠ 0 := c26
   refine wpRwI 13 kr (bne_iff_ne.mpr c26) ?_
   refine condT kr ?_
   refine wp_seq_k (fun K27 hK28 => ?_)
   exact nomatch h
 have c26 : ¬ (vt17 ≠ 0) := c26
 refine wpRwI 13 (x := (vt17 != 0)) (v := false) kr (bne_eq_false_iff_eq.mpr (Decidable.of_not_not c26)) ?_
 refine condF kr ?_
 refine wp_skip ?_
 refine hK14 _ _ ?_
 refine wp_seq_k (fun K29 hK30 => ?_)
 refine wp_seq_k fun K31 hK32 => rl ?_
 refine seqL1 kr ?_
 refine seqK rfl (does_run (run_loadN (n := 8) rfl Try.underlying53 rfl kr (kv (pV b9 9)) (cs := (ll_State3 vw2.Dome)) rfl (HS22.cells 9 8 _ rfl)) ?_)
 replace h := bind_some h; obtain ⟨vt33, hc34, h⟩ := h
 refine seqK rfl (does_call kr (dome_Check.calls k vw2.Dome HS22 vt33 hc34) ?_)
 rintro _ W37 ⟨f35, rfl, L36, HS38⟩
 refine ⟨_, rfl, ?_⟩
 refine seqL1 kr ?_
 refine nl (hK32 _ _ ?_)
 refine wp_seq_k fun K39 hK40 => rl ?_
 refine seqL2 kr ?_
 refine nl (hK40 _ _ ?_)
 replace h := ite_some h; rcases h with ⟨c42, h⟩ | ⟨c42, h⟩
 · have c42 : vt33 ≠ 0 := c42
   refine wpRwI 19 kr (bne_iff_ne.mpr c42) ?_
   refine condT kr ?_
   refine wp_seq_k (fun K43 hK44 => ?_)
   exact nomatch h
 have c42 : ¬ (vt33 ≠ 0) := c42
 refine wpRwI 19 (x := (vt33 != 0)) (v := false) kr (bne_eq_false_iff_eq.mpr (Decidable.of_not_not c42)) ?_
 refine condF kr ?_
 refine wp_skip ?_
 refine hK30 _ _ ?_
 refine wp_seq_k (fun K45 hK46 => ?_)
 refine wp_seq_k fun K47 hK48 => rl ?_
 refine seqL1 kr ?_
 refine seqK rfl (does_run (run_loadN (n := 4) rfl Try.underlying55 rfl kr (kv (pV b9 17)) (cs := (ll_State4 vw2.Camera)) rfl (HS38.cells 17 4 _ rfl)) ?_)
 replace h := bind_some h; obtain ⟨vt49, hc50, h⟩ := h
 refine seqK rfl (does_call kr (camera_Check.calls k vw2.Camera HS38 vt49 hc50) ?_)
 rintro _ W53 ⟨f51, rfl, L52, HS54⟩
 refine ⟨_, rfl, ?_⟩
 refine seqL1 kr ?_
 refine nl (hK48 _ _ ?_)
 refine wp_seq_k fun K55 hK56 => rl ?_
 refine seqL2 kr ?_
 refine nl (hK56 _ _ ?_)
 replace h := ite_some h; rcases h with ⟨c58, h⟩ | ⟨c58, h⟩
 · have c58 : vt49 ≠ 0 := c58
   refine wpRwI 25 kr (bne_iff_ne.mpr c58) ?_
   refine condT kr ?_
   refine wp_seq_k (fun K59 hK60 => ?_)
   exact nomatch h
 have c58 : ¬ (vt49 ≠ 0) := c58
 refine wpRwI 25 (x := (vt49 != 0)) (v := false) kr (bne_eq_false_iff_eq.mpr (Decidable.of_not_not c58)) ?_
 refine condF kr ?_
 refine wp_skip ?_
 refine hK46 _ _ ?_
 refine wp_seq_k (fun K61 hK62 => ?_)
 refine wp_seq_k (fun K63 hK64 => ?_)
 replace h := bind_some h; obtain ⟨v65, hv77, h⟩ := h
 have J78 : ∀ (f71 : FM) (x76 : Bool) (j75 : Nat → Value) (W73 : World) (a_ : Act), FM.le f51 f71 → some (x76) = some v65 → St t W73 f71 ([(b9, .cells (cl_World vw2) 59 (0, 0))] :: [(b5, .cells (cl_Mount m1) 31 (0, 0))] :: H) → a_ = ⟨⟨[(ag_Mount m1), (ag_World vw2), pV b5 0, pV b9 0, iV 0, iV vt17, iV vt33, iV vt49, (ag_Mount m1), pV b9 0, (ag_State2 vw2.Mount), iV vt17, iV vt17, fV, uV, pV b9 9, (ag_State3 vw2.Dome), iV vt33, iV vt33, fV, uV, pV b9 17, (ag_State4 vw2.Camera), iV vt49, iV vt49, fV, uV] ++ (jr j75 0 27 ([.bool x76] ++ (un 64 [])))⟩, []⟩ → K63 a_ W73 := by
  intro f71 x76 j75 W73 a_ L72 hj79 HS74  hfr_; subst hfr_
  injection hj79 with hj79; subst hj79; try dsimp only at h
  refine hK64 _ _ ?_
  replace h := ite_some h; rcases h with ⟨c81, h⟩ | ⟨c81, h⟩
  · have c81 : x76 = true := c81
    refine wpRwI 54 kr c81 ?_
    refine condT kr ?_
    refine wp_seq_k (fun K82 hK83 => ?_)
    exact nomatch h
  have c81 : ¬ (x76 = true) := c81
  refine wpRwI 54 kr (Bool.eq_false_iff.mpr c81) ?_
  refine condF kr ?_
  refine wp_skip ?_
  refine hK62 _ _ ?_
  refine wp_seq_k (fun K84 hK85 => ?_)
  refine wp_seq_k fun K86 hK87 => rl ?_
  refine seqK rfl (does_run (run_loadN (n := 31) rfl Try.underlying59 rfl kr (kv (pV b9 0)) (cs := (ll_World vw2)) rfl (HS74.cells 0 31 _ rfl)) ?_)
  replace h := bind_some h; obtain ⟨vt88, hc89, h⟩ := h
  refine seqK rfl (does_call kr (guard_Hard.calls k vw2 HS74 vt88 hc89) ?_)
  rintro _ W92 ⟨f90, rfl, L91, HS93⟩
  refine ⟨_, rfl, ?_⟩
  refine seqL1 kr ?_
  refine nl (hK87 _ _ ?_)
  replace h := ite_some h; rcases h with ⟨c95, h⟩ | ⟨c95, h⟩
  · have c95 : vt88 ≠ 0 := c95
    refine wpRwI 57 kr (bne_iff_ne.mpr c95) ?_
    refine condT kr ?_
    refine wp_seq_k (fun K96 hK97 => ?_)
    exact nomatch h
  have c95 : ¬ (vt88 ≠ 0) := c95
  refine wpRwI 57 (x := (vt88 != 0)) (v := false) kr (bne_eq_false_iff_eq.mpr (Decidable.of_not_not c95)) ?_
  refine condF kr ?_
  refine wp_skip ?_
  refine hK85 _ _ ?_
  refine wp_seq_k (fun K98 hK99 => ?_)
  refine wp_seq_k (fun K100 hK101 => ?_)
  replace h := bind_some h; obtain ⟨v102, hv140, h⟩ := h
  have J141 : ∀ (f134 : FM) (x139 : Bool) (j138 : Nat → Value) (W136 : World) (a_ : Act), FM.le f90 f134 → some (x139) = some v102 → St t W136 f134 ([(b9, .cells (cl_World vw2) 59 (0, 0))] :: [(b5, .cells (cl_Mount m1) 31 (0, 0))] :: H) → a_ = ⟨⟨[(ag_Mount m1), (ag_World vw2), pV b5 0, pV b9 0, iV 0, iV vt17, iV vt33, iV vt49, (ag_Mount m1), pV b9 0, (ag_State2 vw2.Mount), iV vt17, iV vt17, fV, uV, pV b9 9, (ag_State3 vw2.Dome), iV vt33, iV vt33, fV, uV, pV b9 17, (ag_State4 vw2.Camera), iV vt49, iV vt49, fV, uV] ++ (jr j75 0 27 ([fV, (ag_World vw2), iV vt88, fV] ++ (jr j138 0 25 ([.bool x139] ++ (un 35 [])))))⟩, []⟩ → K100 a_ W136 := by
   intro f134 x139 j138 W136 a_ L135 hj142 HS137  hfr_; subst hfr_
   injection hj142 with hj142; subst hj142; try dsimp only at h
   refine hK101 _ _ ?_
   replace h := ite_some h; rcases h with ⟨c144, h⟩ | ⟨c144, h⟩
   · have c144 : x139 = true := c144
     refine wpRwI 83 kr c144 ?_
     refine condT kr ?_
     refine wp_seq_k (fun K145 hK146 => ?_)
     exact nomatch h
   have c144 : ¬ (x139 = true) := c144
   refine wpRwI 83 kr (Bool.eq_false_iff.mpr c144) ?_
   refine condF kr ?_
   refine wp_skip ?_
   refine hK99 _ _ ?_
   refine wp_seq_k (fun K147 hK148 => ?_)
   refine wp_seq_k (fun K149 hK150 => ?_)
   replace h := bind_some h; obtain ⟨v151, hv190, h⟩ := h
   have J191 : ∀ (f184 : FM) (x189 : Bool) (j188 : Nat → Value) (W186 : World) (a_ : Act), FM.le f134 f184 → some (x189) = some v151 → St t W186 f184 ([(b9, .cells (cl_World vw2) 59 (0, 0))] :: [(b5, .cells (cl_Mount m1) 31 (0, 0))] :: H) → a_ = ⟨⟨[(ag_Mount m1), (ag_World vw2), pV b5 0, pV b9 0, iV 0, iV vt17, iV vt33, iV vt49, (ag_Mount m1), pV b9 0, (ag_State2 vw2.Mount), iV vt17, iV vt17, fV, uV, pV b9 9, (ag_State3 vw2.Dome), iV vt33, iV vt33, fV, uV, pV b9 17, (ag_State4 vw2.Camera), iV vt49, iV vt49, fV, uV] ++ (jr j75 0 27 ([fV, (ag_World vw2), iV vt88, fV] ++ (jr j138 0 25 ([fV] ++ (jr j188 0 34 [.bool x189])))))⟩, []⟩ → K149 a_ W186 := by
    intro f184 x189 j188 W186 a_ L185 hj192 HS187  hfr_; subst hfr_
    injection hj192 with hj192; subst hj192; try dsimp only at h
    refine hK150 _ _ ?_
    replace h := ite_some h; rcases h with ⟨c194, h⟩ | ⟨c194, h⟩
    · have c194 : x189 = true := c194
      refine wpRwI 118 kr c194 ?_
      refine condT kr ?_
      refine wp_seq_k (fun K195 hK196 => ?_)
      exact nomatch h
    have c194 : ¬ (x189 = true) := c194
    refine wpRwI 118 kr (Bool.eq_false_iff.mpr c194) ?_
    refine condF kr ?_
    refine wp_skip ?_
    refine hK148 _ _ ?_
    refine wp_seq_k fun K197 hK198 => rl ?_
    refine seqL1 kr ?_
    refine nl (hK198 _ _ ?_)
    refine wp_ret ?_
    refine hret _ _ ?_
    refine ends_still (v := Value.int .i64 0) kr kr ?_
    have HS199 := HS187.drop
    have HS200 := HS199.drop
    injection h with h
    subst h
    exact ⟨f184, rfl, (L20.trans (L36.trans (L52.trans (L72.trans (L91.trans (L135.trans L185)))))), HS200⟩
   clear h; have h := hv190; clear hv190
   refine rl ?_
   refine seqL1 kr ?_
   refine seqK rfl (does_run (run_load rfl Try.underlying3 rfl (kv (pV b9 28)) (HS137.cell 28)) ?_)
   refine seqL2 kr ?_
   replace h := ite_some h; rcases h with ⟨c152, h⟩ | ⟨c152, h⟩
   rotate_left
   · have c152 : ¬ (vw2.Mode = 2) := c152
     refine seqRwI 86 kr (beq_eq_false_iff_ne.mpr c152) ?_
     refine seqRwI 87 kr (beq_eq_false_iff_ne.mpr c152) ?_
     refine seqL6 kr ?_
     refine seqG kr (does_run (run_load rfl Try.underlying3 rfl (kv (pV b9 28)) (HS137.cell 28)) ?_)
     refine seqL2 kr ?_
     replace h := ite_some h; rcases h with ⟨c172, h⟩ | ⟨c172, h⟩
     rotate_left
     · have c172 : ¬ (vw2.Mode ≠ 0) := c172
       refine seqRwI 95 (x := (vw2.Mode != 0)) (v := false) kr (bne_eq_false_iff_eq.mpr (Decidable.of_not_not c172)) ?_
       refine seqRwI 96 (x := (vw2.Mode != 0)) (v := false) kr (bne_eq_false_iff_eq.mpr (Decidable.of_not_not c172)) ?_
       refine seqL8 kr ?_
       refine seqG kr (does_run (run_load rfl Try.underlying3 rfl (kv (pV b9 17)) (HS137.cell 17)) ?_)
       refine seqL2 kr ?_
       replace h := ite_some h; rcases h with ⟨c182, h⟩ | ⟨c182, h⟩
       rotate_left
       · have c182 : ¬ (vw2.Camera.Mode = 1) := c182
         refine seqRwI 106 kr (beq_eq_false_iff_ne.mpr c182) ?_
         refine seqRwI 107 kr (beq_eq_false_iff_ne.mpr c182) ?_
         refine seqL11 kr ?_
         refine nl ?_
         exact J191 f134 false (jL [pV b9 28, iV vw2.Mode, fV, fV, uV, uV, uV, fV, fV, pV b9 28, iV vw2.Mode, fV, fV, uV, uV, uV, fV, fV, fV, pV b9 17, pV b9 17, iV vw2.Camera.Mode, fV, fV, uV, uV, uV, uV, uV, uV, uV, uV, uV, fV]) W136 _ fL h HS137 kr
       have c182 : vw2.Camera.Mode = 1 := c182
       refine seqRwI 106 kr (beq_iff_eq.mpr c182) ?_
       refine seqRwI 107 kr (beq_iff_eq.mpr c182) ?_
       refine seqL2 kr ?_
       refine seqG kr (does_run (run_load rfl Try.underlying4 rfl (kv (pV b9 11)) (HS137.cell 11)) ?_)
       refine seqL1 kr ?_
       replace h := ite_some h; rcases h with ⟨c183, h⟩ | ⟨c183, h⟩
       · have c183 : vw2.Dome.Open = true := c183
         refine seqRwI 110 kr c183 ?_
         refine seqRwI 111 kr c183 ?_
         refine seqL2 kr ?_
         refine seqG kr (does_run (run_load rfl Try.underlying4 rfl (kv (pV b9 12)) (HS137.cell 12)) ?_)
         refine seqL4 kr ?_
         refine nl ?_
         exact J191 f134 (!vw2.Dome.Lift) (jL [pV b9 28, iV vw2.Mode, fV, fV, uV, uV, uV, fV, fV, pV b9 28, iV vw2.Mode, fV, fV, uV, uV, uV, fV, fV, fV, pV b9 17, pV b9 17, iV vw2.Camera.Mode, tV, tV, pV b9 9, pV b9 11, tV, tV, pV b9 9, pV b9 12, .bool vw2.Dome.Lift, .bool vw2.Dome.Lift, .bool (!vw2.Dome.Lift), .bool (!vw2.Dome.Lift)]) W136 _ fL h HS137 kr
       have c183 : ¬ (vw2.Dome.Open = true) := c183
       refine seqRwI 110 kr (Bool.eq_false_iff.mpr c183) ?_
       refine seqRwI 111 kr (Bool.eq_false_iff.mpr c183) ?_
       refine seqL7 kr ?_
       refine nl ?_
       exact J191 f134 true (jL [pV b9 28, iV vw2.Mode, fV, fV, uV, uV, uV, fV, fV, pV b9 28, iV vw2.Mode, fV, fV, uV, uV, uV, fV, fV, fV, pV b9 17, pV b9 17, iV vw2.Camera.Mode, tV, tV, pV b9 9, pV b9 11, fV, fV, uV, uV, uV, fV, tV, tV]) W136 _ fL h HS137 kr
     have c172 : vw2.Mode ≠ 0 := c172
     refine seqRwI 95 kr (bne_iff_ne.mpr c172) ?_
     refine seqRwI 96 kr (bne_iff_ne.mpr c172) ?_
     refine seqG kr (does_run (run_loadN (n := 31) rfl Try.underlying59 rfl kr (kv (pV b9 0)) (cs := (ll_World vw2)) rfl (HS137.cells 0 31 _ rfl)) ?_)
     replace h := bind_some h; obtain ⟨vt173, hc174, h⟩ := h
     refine seqG kr (does_call kr (guard_stops.calls k vw2 HS137 vt173 hc174) ?_)
     rintro _ W177 ⟨f175, rfl, L176, HS178⟩
     refine ⟨_, rfl, ?_⟩
     refine seqL4 kr ?_
     replace h := ite_some h; rcases h with ⟨c179, h⟩ | ⟨c179, h⟩
     · have c179 : ¬ (vt173 = true) := c179
       refine seqRwI 99 kr (congrArg (fun b_ => !b_) (show vt173 = false from (Bool.eq_false_iff.mpr c179)) : (!vt173) = true) ?_
       refine seqRwI 100 kr (congrArg (fun b_ => !b_) (show vt173 = false from (Bool.eq_false_iff.mpr c179)) : (!vt173) = true) ?_
       refine seqRwI 101 kr (congrArg (fun b_ => !b_) (show vt173 = false from (Bool.eq_false_iff.mpr c179)) : (!vt173) = true) ?_
       refine seqRwI 102 kr (congrArg (fun b_ => !b_) (show vt173 = false from (Bool.eq_false_iff.mpr c179)) : (!vt173) = true) ?_
       refine seqL16 kr ?_
       refine nl ?_
       exact J191 f175 true (jL [pV b9 28, iV vw2.Mode, fV, fV, uV, uV, uV, fV, fV, pV b9 28, iV vw2.Mode, tV, tV, (ag_World vw2), .bool vt173, tV, tV, tV, tV]) W177 _ L176 h HS178 kr
     have c179 : ¬ (¬ (vt173 = true)) := c179
     refine seqRwI 99 (x := (!vt173)) (v := false) kr (congrArg (fun b_ => !b_) (show vt173 = true from (Decidable.of_not_not c179)) : (!vt173) = false) ?_
     refine seqRwI 100 (x := (!vt173)) (v := false) kr (congrArg (fun b_ => !b_) (show vt173 = true from (Decidable.of_not_not c179)) : (!vt173) = false) ?_
     refine seqRwI 101 (x := (!vt173)) (v := false) kr (congrArg (fun b_ => !b_) (show vt173 = true from (Decidable.of_not_not c179)) : (!vt173) = false) ?_
     refine seqRwI 102 (x := (!vt173)) (v := false) kr (congrArg (fun b_ => !b_) (show vt173 = true from (Decidable.of_not_not c179)) : (!vt173) = false) ?_
     refine seqL2 kr ?_
     refine seqG kr (does_run (run_load rfl Try.underlying3 rfl (kv (pV b9 17)) (HS178.cell 17)) ?_)
     refine seqL2 kr ?_
     replace h := ite_some h; rcases h with ⟨c180, h⟩ | ⟨c180, h⟩
     rotate_left
     · have c180 : ¬ (vw2.Camera.Mode = 1) := c180
       refine seqRwI 106 kr (beq_eq_false_iff_ne.mpr c180) ?_
       refine seqRwI 107 kr (beq_eq_false_iff_ne.mpr c180) ?_
       refine seqL11 kr ?_
       refine nl ?_
       exact J191 f175 false (jL [pV b9 28, iV vw2.Mode, fV, fV, uV, uV, uV, fV, fV, pV b9 28, iV vw2.Mode, tV, tV, (ag_World vw2), .bool vt173, fV, fV, fV, fV, pV b9 17, pV b9 17, iV vw2.Camera.Mode, fV, fV, uV, uV, uV, uV, uV, uV, uV, uV, uV, fV]) W177 _ L176 h HS178 kr
     have c180 : vw2.Camera.Mode = 1 := c180
     refine seqRwI 106 kr (beq_iff_eq.mpr c180) ?_
     refine seqRwI 107 kr (beq_iff_eq.mpr c180) ?_
     refine seqL2 kr ?_
     refine seqG kr (does_run (run_load rfl Try.underlying4 rfl (kv (pV b9 11)) (HS178.cell 11)) ?_)
     refine seqL1 kr ?_
     replace h := ite_some h; rcases h with ⟨c181, h⟩ | ⟨c181, h⟩
     · have c181 : vw2.Dome.Open = true := c181
       refine seqRwI 110 kr c181 ?_
       refine seqRwI 111 kr c181 ?_
       refine seqL2 kr ?_
       refine seqG kr (does_run (run_load rfl Try.underlying4 rfl (kv (pV b9 12)) (HS178.cell 12)) ?_)
       refine seqL4 kr ?_
       refine nl ?_
       exact J191 f175 (!vw2.Dome.Lift) (jL [pV b9 28, iV vw2.Mode, fV, fV, uV, uV, uV, fV, fV, pV b9 28, iV vw2.Mode, tV, tV, (ag_World vw2), .bool vt173, fV, fV, fV, fV, pV b9 17, pV b9 17, iV vw2.Camera.Mode, tV, tV, pV b9 9, pV b9 11, tV, tV, pV b9 9, pV b9 12, .bool vw2.Dome.Lift, .bool vw2.Dome.Lift, .bool (!vw2.Dome.Lift), .bool (!vw2.Dome.Lift)]) W177 _ L176 h HS178 kr
     have c181 : ¬ (vw2.Dome.Open = true) := c181
     refine seqRwI 110 kr (Bool.eq_false_iff.mpr c181) ?_
     refine seqRwI 111 kr (Bool.eq_false_iff.mpr c181) ?_
     refine seqL7 kr ?_
     refine nl ?_
     exact J191 f175 true (jL [pV b9 28, iV vw2.Mode, fV, fV, uV, uV, uV, fV, fV, pV b9 28, iV vw2.Mode, tV, tV, (ag_World vw2), .bool vt173, fV, fV, fV, fV, pV b9 17, pV b9 17, iV vw2.Camera.Mode, tV, tV, pV b9 9, pV b9 11, fV, fV, uV, uV, uV, fV, tV, tV]) W177 _ L176 h HS178 kr
   have c152 : vw2.Mode = 2 := c152
   refine seqRwI 86 kr (beq_iff_eq.mpr c152) ?_
   refine seqRwI 87 kr (beq_iff_eq.mpr c152) ?_
   refine seqG kr (does_run (run_loadN (n := 31) rfl Try.underlying59 rfl kr (kv (pV b9 0)) (cs := (ll_World vw2)) rfl (HS137.cells 0 31 _ rfl)) ?_)
   replace h := bind_some h; obtain ⟨vt153, hc154, h⟩ := h
   refine seqG kr (does_call kr (guard_AtRest.calls k vw2 HS137 vt153 hc154) ?_)
   rintro _ W157 ⟨f155, rfl, L156, HS158⟩
   refine ⟨_, rfl, ?_⟩
   refine seqL3 kr ?_
   replace h := ite_some h; rcases h with ⟨c159, h⟩ | ⟨c159, h⟩
   · have c159 : ¬ (vt153 = true) := c159
     refine seqRwI 90 kr (congrArg (fun b_ => !b_) (show vt153 = false from (Bool.eq_false_iff.mpr c159)) : (!vt153) = true) ?_
     refine seqRwI 91 kr (congrArg (fun b_ => !b_) (show vt153 = false from (Bool.eq_false_iff.mpr c159)) : (!vt153) = true) ?_
     refine seqRwI 92 kr (congrArg (fun b_ => !b_) (show vt153 = false from (Bool.eq_false_iff.mpr c159)) : (!vt153) = true) ?_
     refine seqL26 kr ?_
     refine nl ?_
     exact J191 f155 true (jL [pV b9 28, iV vw2.Mode, tV, tV, (ag_World vw2), .bool vt153, tV, tV, tV, uV, uV, uV, uV, uV, uV, uV, uV, tV, tV]) W157 _ L156 h HS158 kr
   have c159 : ¬ (¬ (vt153 = true)) := c159
   refine seqRwI 90 (x := (!vt153)) (v := false) kr (congrArg (fun b_ => !b_) (show vt153 = true from (Decidable.of_not_not c159)) : (!vt153) = false) ?_
   refine seqRwI 91 (x := (!vt153)) (v := false) kr (congrArg (fun b_ => !b_) (show vt153 = true from (Decidable.of_not_not c159)) : (!vt153) = false) ?_
   refine seqRwI 92 (x := (!vt153)) (v := false) kr (congrArg (fun b_ => !b_) (show vt153 = true from (Decidable.of_not_not c159)) : (!vt153) = false) ?_
   refine seqL1 kr ?_
   refine seqG kr (does_run (run_load rfl Try.underlying3 rfl (kv (pV b9 28)) (HS158.cell 28)) ?_)
   refine seqL2 kr ?_
   replace h := ite_some h; rcases h with ⟨c160, h⟩ | ⟨c160, h⟩
   rotate_left
   · have c160 : ¬ (vw2.Mode ≠ 0) := c160
     refine seqRwI 95 (x := (vw2.Mode != 0)) (v := false) kr (bne_eq_false_iff_eq.mpr (Decidable.of_not_not c160)) ?_
     refine seqRwI 96 (x := (vw2.Mode != 0)) (v := false) kr (bne_eq_false_iff_eq.mpr (Decidable.of_not_not c160)) ?_
     refine seqL8 kr ?_
     refine seqG kr (does_run (run_load rfl Try.underlying3 rfl (kv (pV b9 17)) (HS158.cell 17)) ?_)
     refine seqL2 kr ?_
     replace h := ite_some h; rcases h with ⟨c170, h⟩ | ⟨c170, h⟩
     rotate_left
     · have c170 : ¬ (vw2.Camera.Mode = 1) := c170
       refine seqRwI 106 kr (beq_eq_false_iff_ne.mpr c170) ?_
       refine seqRwI 107 kr (beq_eq_false_iff_ne.mpr c170) ?_
       refine seqL11 kr ?_
       refine nl ?_
       exact J191 f155 false (jL [pV b9 28, iV vw2.Mode, tV, tV, (ag_World vw2), .bool vt153, fV, fV, fV, pV b9 28, iV vw2.Mode, fV, fV, uV, uV, uV, fV, fV, fV, pV b9 17, pV b9 17, iV vw2.Camera.Mode, fV, fV, uV, uV, uV, uV, uV, uV, uV, uV, uV, fV]) W157 _ L156 h HS158 kr
     have c170 : vw2.Camera.Mode = 1 := c170
     refine seqRwI 106 kr (beq_iff_eq.mpr c170) ?_
     refine seqRwI 107 kr (beq_iff_eq.mpr c170) ?_
     refine seqL2 kr ?_
     refine seqG kr (does_run (run_load rfl Try.underlying4 rfl (kv (pV b9 11)) (HS158.cell 11)) ?_)
     refine seqL1 kr ?_
     replace h := ite_some h; rcases h with ⟨c171, h⟩ | ⟨c171, h⟩
     · have c171 : vw2.Dome.Open = true := c171
       refine seqRwI 110 kr c171 ?_
       refine seqRwI 111 kr c171 ?_
       refine seqL2 kr ?_
       refine seqG kr (does_run (run_load rfl Try.underlying4 rfl (kv (pV b9 12)) (HS158.cell 12)) ?_)
       refine seqL4 kr ?_
       refine nl ?_
       exact J191 f155 (!vw2.Dome.Lift) (jL [pV b9 28, iV vw2.Mode, tV, tV, (ag_World vw2), .bool vt153, fV, fV, fV, pV b9 28, iV vw2.Mode, fV, fV, uV, uV, uV, fV, fV, fV, pV b9 17, pV b9 17, iV vw2.Camera.Mode, tV, tV, pV b9 9, pV b9 11, tV, tV, pV b9 9, pV b9 12, .bool vw2.Dome.Lift, .bool vw2.Dome.Lift, .bool (!vw2.Dome.Lift), .bool (!vw2.Dome.Lift)]) W157 _ L156 h HS158 kr
     have c171 : ¬ (vw2.Dome.Open = true) := c171
     refine seqRwI 110 kr (Bool.eq_false_iff.mpr c171) ?_
     refine seqRwI 111 kr (Bool.eq_false_iff.mpr c171) ?_
     refine seqL7 kr ?_
     refine nl ?_
     exact J191 f155 true (jL [pV b9 28, iV vw2.Mode, tV, tV, (ag_World vw2), .bool vt153, fV, fV, fV, pV b9 28, iV vw2.Mode, fV, fV, uV, uV, uV, fV, fV, fV, pV b9 17, pV b9 17, iV vw2.Camera.Mode, tV, tV, pV b9 9, pV b9 11, fV, fV, uV, uV, uV, fV, tV, tV]) W157 _ L156 h HS158 kr
   have c160 : vw2.Mode ≠ 0 := c160
   refine seqRwI 95 kr (bne_iff_ne.mpr c160) ?_
   refine seqRwI 96 kr (bne_iff_ne.mpr c160) ?_
   refine seqG kr (does_run (run_loadN (n := 31) rfl Try.underlying59 rfl kr (kv (pV b9 0)) (cs := (ll_World vw2)) rfl (HS158.cells 0 31 _ rfl)) ?_)
   replace h := bind_some h; obtain ⟨vt161, hc162, h⟩ := h
   refine seqG kr (does_call kr (guard_stops.calls k vw2 HS158 vt161 hc162) ?_)
   rintro _ W165 ⟨f163, rfl, L164, HS166⟩
   refine ⟨_, rfl, ?_⟩
   refine seqL4 kr ?_
   replace h := ite_some h; rcases h with ⟨c167, h⟩ | ⟨c167, h⟩
   · have c167 : ¬ (vt161 = true) := c167
     refine seqRwI 99 kr (congrArg (fun b_ => !b_) (show vt161 = false from (Bool.eq_false_iff.mpr c167)) : (!vt161) = true) ?_
     refine seqRwI 100 kr (congrArg (fun b_ => !b_) (show vt161 = false from (Bool.eq_false_iff.mpr c167)) : (!vt161) = true) ?_
     refine seqRwI 101 kr (congrArg (fun b_ => !b_) (show vt161 = false from (Bool.eq_false_iff.mpr c167)) : (!vt161) = true) ?_
     refine seqRwI 102 kr (congrArg (fun b_ => !b_) (show vt161 = false from (Bool.eq_false_iff.mpr c167)) : (!vt161) = true) ?_
     refine seqL16 kr ?_
     refine nl ?_
     exact J191 f163 true (jL [pV b9 28, iV vw2.Mode, tV, tV, (ag_World vw2), .bool vt153, fV, fV, fV, pV b9 28, iV vw2.Mode, tV, tV, (ag_World vw2), .bool vt161, tV, tV, tV, tV]) W165 _ (L156.trans L164) h HS166 kr
   have c167 : ¬ (¬ (vt161 = true)) := c167
   refine seqRwI 99 (x := (!vt161)) (v := false) kr (congrArg (fun b_ => !b_) (show vt161 = true from (Decidable.of_not_not c167)) : (!vt161) = false) ?_
   refine seqRwI 100 (x := (!vt161)) (v := false) kr (congrArg (fun b_ => !b_) (show vt161 = true from (Decidable.of_not_not c167)) : (!vt161) = false) ?_
   refine seqRwI 101 (x := (!vt161)) (v := false) kr (congrArg (fun b_ => !b_) (show vt161 = true from (Decidable.of_not_not c167)) : (!vt161) = false) ?_
   refine seqRwI 102 (x := (!vt161)) (v := false) kr (congrArg (fun b_ => !b_) (show vt161 = true from (Decidable.of_not_not c167)) : (!vt161) = false) ?_
   refine seqL2 kr ?_
   refine seqG kr (does_run (run_load rfl Try.underlying3 rfl (kv (pV b9 17)) (HS166.cell 17)) ?_)
   refine seqL2 kr ?_
   replace h := ite_some h; rcases h with ⟨c168, h⟩ | ⟨c168, h⟩
   rotate_left
   · have c168 : ¬ (vw2.Camera.Mode = 1) := c168
     refine seqRwI 106 kr (beq_eq_false_iff_ne.mpr c168) ?_
     refine seqRwI 107 kr (beq_eq_false_iff_ne.mpr c168) ?_
     refine seqL11 kr ?_
     refine nl ?_
     exact J191 f163 false (jL [pV b9 28, iV vw2.Mode, tV, tV, (ag_World vw2), .bool vt153, fV, fV, fV, pV b9 28, iV vw2.Mode, tV, tV, (ag_World vw2), .bool vt161, fV, fV, fV, fV, pV b9 17, pV b9 17, iV vw2.Camera.Mode, fV, fV, uV, uV, uV, uV, uV, uV, uV, uV, uV, fV]) W165 _ (L156.trans L164) h HS166 kr
   have c168 : vw2.Camera.Mode = 1 := c168
   refine seqRwI 106 kr (beq_iff_eq.mpr c168) ?_
   refine seqRwI 107 kr (beq_iff_eq.mpr c168) ?_
   refine seqL2 kr ?_
   refine seqG kr (does_run (run_load rfl Try.underlying4 rfl (kv (pV b9 11)) (HS166.cell 11)) ?_)
   refine seqL1 kr ?_
   replace h := ite_some h; rcases h with ⟨c169, h⟩ | ⟨c169, h⟩
   · have c169 : vw2.Dome.Open = true := c169
     refine seqRwI 110 kr c169 ?_
     refine seqRwI 111 kr c169 ?_
     refine seqL2 kr ?_
     refine seqG kr (does_run (run_load rfl Try.underlying4 rfl (kv (pV b9 12)) (HS166.cell 12)) ?_)
     refine seqL4 kr ?_
     refine nl ?_
     exact J191 f163 (!vw2.Dome.Lift) (jL [pV b9 28, iV vw2.Mode, tV, tV, (ag_World vw2), .bool vt153, fV, fV, fV, pV b9 28, iV vw2.Mode, tV, tV, (ag_World vw2), .bool vt161, fV, fV, fV, fV, pV b9 17, pV b9 17, iV vw2.Camera.Mode, tV, tV, pV b9 9, pV b9 11, tV, tV, pV b9 9, pV b9 12, .bool vw2.Dome.Lift, .bool vw2.Dome.Lift, .bool (!vw2.Dome.Lift), .bool (!vw2.Dome.Lift)]) W165 _ (L156.trans L164) h HS166 kr
   have c169 : ¬ (vw2.Dome.Open = true) := c169
   refine seqRwI 110 kr (Bool.eq_false_iff.mpr c169) ?_
   refine seqRwI 111 kr (Bool.eq_false_iff.mpr c169) ?_
   refine seqL7 kr ?_
   refine nl ?_
   exact J191 f163 true (jL [pV b9 28, iV vw2.Mode, tV, tV, (ag_World vw2), .bool vt153, fV, fV, fV, pV b9 28, iV vw2.Mode, tV, tV, (ag_World vw2), .bool vt161, fV, fV, fV, fV, pV b9 17, pV b9 17, iV vw2.Camera.Mode, tV, tV, pV b9 9, pV b9 11, fV, fV, uV, uV, uV, fV, tV, tV]) W165 _ (L156.trans L164) h HS166 kr
  clear h; have h := hv140; clear hv140
  refine heldG (S := Sg t f90 ([(b9, .cells (cl_World vw2) 59 (0, 0))] :: [(b5, .cells (cl_Mount m1) 31 (0, 0))] :: H) []) (n := 26) kr rfl HS93 ?_
  intro W103 HS104
  refine gL [0] (fuel := 25) (bA 26 1) rfl kr kr kr hnp (Sg.g0 (Sx.of [] fL HS104)) fun X105 => ?_
  refine gQ 1 rfl kr kr kr kr kr hnp X105 (fun hl_ hS_ => run_load rfl Try.underlying3 rfl (kv (pV b9 29)) (hS_.cell 29)) fun X106 => ?_
  refine gL [2, 3] (fuel := 22) (bA 26 15) rfl kr kr kr hnp X106 fun X107 => ?_
  refine gQ 4 rfl kr kr kr kr kr hnp X107 (fun hl_ hS_ => run_loadN (n := 5) rfl Try.underlying57 rfl kr (kv (pV b9 21)) (cs := (ll_Sensors vw2.Sensors)) rfl (hS_.cells 21 5 _ rfl)) fun X108 => ?_
  replace h := bind_some h; obtain ⟨vt109, hc110, h⟩ := h
  refine takeGE 5 kr rfl kr (does_call kr (guard_Sensors_Hazard.calls k vw2.Sensors HS104 vt109 hc110) ?_)
  rintro _ W113 ⟨f111, rfl, L112, HS114⟩
  refine ⟨_, rfl, ?_⟩
  refine kB (Sg.g0 (Sx.of [] L112 HS114)) fun X115 => ?_
  refine gL [6, 7] (fuel := 18) (bA 26 255) rfl kr kr kr hnp X115 fun X116 => ?_
  replace h := ite_some h; rcases h with ⟨c117, h⟩ | ⟨c117, h⟩
  · have c117 : ((decide (vw2.Hazard > 0)) != vt109) = true := c117
    refine gateRwI 64 (x := ((decide (vw2.Hazard > 0)) != vt109)) (v := true) kr c117 ?_
    refine gateRwI 65 (x := ((decide (vw2.Hazard > 0)) != vt109)) (v := true) kr c117 ?_
    refine gL [8, 9, 10, 11, 12, 13, 14, 15, 16, 17, 18, 19, 20, 21, 22, 23, 24, 25] (fuel := 0) (bA 26 67108863) rfl kr kr kr hnp X116 fun X118 => ?_
    refine doneG kr ?_ _
    exact J141 f111 true (jL [pV b9 29, iV vw2.Hazard, .bool (decide (vw2.Hazard > 0)), pV b9 21, (ag_Sensors vw2.Sensors), .bool vt109, tV, tV, uV, uV, uV, uV, uV, uV, uV, tV, tV]) W113 _ L112 h HS114 kr
  have c117 : ¬ (((decide (vw2.Hazard > 0)) != vt109) = true) := c117
  refine gateRwI 64 (x := ((decide (vw2.Hazard > 0)) != vt109)) (v := false) kr (Bool.eq_false_iff.mpr c117) ?_
  refine gateRwI 65 (x := ((decide (vw2.Hazard > 0)) != vt109)) (v := false) kr (Bool.eq_false_iff.mpr c117) ?_
  refine gL [8] (fuel := 17) (bA 26 511) rfl kr kr kr hnp X116 fun X119 => ?_
  refine gQ 9 rfl kr kr kr kr kr hnp X119 (fun hl_ hS_ => run_load rfl Try.underlying3 rfl (kv (pV b9 30)) (hS_.cell 30)) fun X120 => ?_
  refine gL [10, 11, 12] (fuel := 13) (bA 26 8191) rfl kr kr kr hnp X120 fun X121 => ?_
  refine gQ 13 rfl kr kr kr kr kr hnp X121 (fun hl_ hS_ => run_load rfl Try.underlying4 rfl (kv (pV b9 25)) (hS_.cell 25)) fun X122 => ?_
  refine gL [14, 15, 16] (fuel := 9) (bA 26 131071) rfl kr kr kr hnp X122 fun X123 => ?_
  replace h := ite_some h; rcases h with ⟨c124, h⟩ | ⟨c124, h⟩
  · have c124 : ((decide (vw2.Key > 0)) != vw2.Sensors.Key) = true := c124
    refine gateRwI 72 (x := ((decide (vw2.Key > 0)) != vw2.Sensors.Key)) (v := true) kr c124 ?_
    refine gateRwI 73 (x := ((decide (vw2.Key > 0)) != vw2.Sensors.Key)) (v := true) kr c124 ?_
    refine gateRwI 74 (x := ((decide (vw2.Key > 0)) != vw2.Sensors.Key)) (v := true) kr c124 ?_
    refine gL [17, 18, 19, 20, 21, 22, 23, 24, 25] (fuel := 0) (bA 26 67108863) rfl kr kr kr hnp X123 fun X125 => ?_
    refine doneG kr ?_ _
    exact J141 f111 true (jL [pV b9 29, iV vw2.Hazard, .bool (decide (vw2.Hazard > 0)), pV b9 21, (ag_Sensors vw2.Sensors), .bool vt109, fV, fV, pV b9 30, iV vw2.Key, .bool (decide (vw2.Key > 0)), pV b9 21, pV b9 25, .bool vw2.Sensors.Key, tV, tV, tV]) W113 _ L112 h HS114 kr
  have c124 : ¬ (((decide (vw2.Key > 0)) != vw2.Sensors.Key) = true) := c124
  refine gateRwI 72 (x := ((decide (vw2.Key > 0)) != vw2.Sensors.Key)) (v := false) kr (Bool.eq_false_iff.mpr c124) ?_
  refine gateRwI 73 (x := ((decide (vw2.Key > 0)) != vw2.Sensors.Key)) (v := false) kr (Bool.eq_false_iff.mpr c124) ?_
  refine gateRwI 74 (x := ((decide (vw2.Key > 0)) != vw2.Sensors.Key)) (v := false) kr (Bool.eq_false_iff.mpr c124) ?_
  refine gL [17] (fuel := 8) (bA 26 262143) rfl kr kr kr hnp X123 fun X126 => ?_
  refine gQ 18 rfl kr kr kr kr kr hnp X126 (fun hl_ hS_ => run_load rfl Try.underlying3 rfl (kv (pV b9 28)) (hS_.cell 28)) fun X127 => ?_
  refine gL [19, 20] (fuel := 5) (bA 26 2097151) rfl kr kr kr hnp X127 fun X128 => ?_
  replace h := ite_some h; rcases h with ⟨c129, h⟩ | ⟨c129, h⟩
  · have c129 : vw2.Mode = 0 := c129
    refine gateRwI 77 (x := (vw2.Mode == 0)) (v := true) kr (beq_iff_eq.mpr c129) ?_
    refine gateRwI 78 (x := (vw2.Mode == 0)) (v := true) kr (beq_iff_eq.mpr c129) ?_
    refine gL [21] (fuel := 4) (bA 26 4194303) rfl kr kr kr hnp X128 fun X130 => ?_
    refine gQ 22 rfl kr kr kr kr kr hnp X130 (fun hl_ hS_ => run_load rfl Try.underlying3 rfl (kv (pV b9 29)) (hS_.cell 29)) fun X131 => ?_
    refine gL [23, 24, 25] (fuel := 0) (bA 26 67108863) rfl kr kr kr hnp X131 fun X132 => ?_
    refine doneG kr ?_ _
    exact J141 f111 (decide (vw2.Hazard > 0)) (jL [pV b9 29, iV vw2.Hazard, .bool (decide (vw2.Hazard > 0)), pV b9 21, (ag_Sensors vw2.Sensors), .bool vt109, fV, fV, pV b9 30, iV vw2.Key, .bool (decide (vw2.Key > 0)), pV b9 21, pV b9 25, .bool vw2.Sensors.Key, fV, fV, fV, pV b9 28, iV vw2.Mode, tV, tV, pV b9 29, iV vw2.Hazard, .bool (decide (vw2.Hazard > 0)), .bool (decide (vw2.Hazard > 0))]) W113 _ L112 h HS114 kr
  have c129 : ¬ (vw2.Mode = 0) := c129
  refine gateRwI 77 (x := (vw2.Mode == 0)) (v := false) kr (beq_eq_false_iff_ne.mpr c129) ?_
  refine gateRwI 78 (x := (vw2.Mode == 0)) (v := false) kr (beq_eq_false_iff_ne.mpr c129) ?_
  refine gL [21, 22, 23, 24, 25] (fuel := 0) (bA 26 67108863) rfl kr kr kr hnp X128 fun X133 => ?_
  refine doneG kr ?_ _
  exact J141 f111 false (jL [pV b9 29, iV vw2.Hazard, .bool (decide (vw2.Hazard > 0)), pV b9 21, (ag_Sensors vw2.Sensors), .bool vt109, fV, fV, pV b9 30, iV vw2.Key, .bool (decide (vw2.Key > 0)), pV b9 21, pV b9 25, .bool vw2.Sensors.Key, fV, fV, fV, pV b9 28, iV vw2.Mode, fV, fV, uV, uV, uV, fV]) W113 _ L112 h HS114 kr
 clear h; have h := hv77; clear hv77
 refine rl ?_
 refine seqL1 kr ?_
 refine seqK rfl (does_run (run_load rfl Try.underlying3 rfl (kv (pV b9 28)) (HS54.cell 28)) ?_)
 refine seqL2 kr ?_
 replace h := ite_some h; rcases h with ⟨c66, h⟩ | ⟨c66, h⟩
 · have c66 : vw2.Mode < 0 := c66
   refine seqRwI 29 kr (decide_eq_true c66) ?_
   refine seqRwI 30 kr (decide_eq_true c66) ?_
   refine seqL24 kr ?_
   refine nl ?_
   exact J78 f51 true (jL [pV b9 28, iV vw2.Mode, tV, tV, uV, uV, uV, tV, tV, uV, uV, uV, tV, tV, uV, uV, uV, tV, tV, uV, uV, uV, tV, tV]) W53 _ fL h HS54 kr
 have c66 : ¬ (vw2.Mode < 0) := c66
 refine seqRwI 29 kr (decide_eq_false c66) ?_
 refine seqRwI 30 kr (decide_eq_false c66) ?_
 refine seqL1 kr ?_
 refine seqG kr (does_run (run_load rfl Try.underlying3 rfl (kv (pV b9 28)) (HS54.cell 28)) ?_)
 refine seqL3 kr ?_
 replace h := ite_some h; rcases h with ⟨c67, h⟩ | ⟨c67, h⟩
 · have c67 : vw2.Mode ≥ 3 := c67
   refine seqRwI 33 kr (decide_eq_true c67) ?_
   refine seqRwI 34 kr (decide_eq_true c67) ?_
   refine seqRwI 35 kr (decide_eq_true c67) ?_
   refine seqL19 kr ?_
   refine nl ?_
   exact J78 f51 true (jL [pV b9 28, iV vw2.Mode, fV, fV, pV b9 28, iV vw2.Mode, tV, tV, tV, uV, uV, uV, tV, tV, uV, uV, uV, tV, tV, uV, uV, uV, tV, tV]) W53 _ fL h HS54 kr
 have c67 : ¬ (vw2.Mode ≥ 3) := c67
 refine seqRwI 33 kr (decide_eq_false c67) ?_
 refine seqRwI 34 kr (decide_eq_false c67) ?_
 refine seqRwI 35 kr (decide_eq_false c67) ?_
 refine seqL1 kr ?_
 refine seqG kr (does_run (run_load rfl Try.underlying3 rfl (kv (pV b9 29)) (HS54.cell 29)) ?_)
 refine seqL3 kr ?_
 replace h := ite_some h; rcases h with ⟨c68, h⟩ | ⟨c68, h⟩
 · have c68 : vw2.Hazard < 0 := c68
   refine seqRwI 38 kr (decide_eq_true c68) ?_
   refine seqRwI 39 kr (decide_eq_true c68) ?_
   refine seqRwI 40 kr (decide_eq_true c68) ?_
   refine seqL14 kr ?_
   refine nl ?_
   exact J78 f51 true (jL [pV b9 28, iV vw2.Mode, fV, fV, pV b9 28, iV vw2.Mode, fV, fV, fV, pV b9 29, iV vw2.Hazard, tV, tV, tV, uV, uV, uV, tV, tV, uV, uV, uV, tV, tV]) W53 _ fL h HS54 kr
 have c68 : ¬ (vw2.Hazard < 0) := c68
 refine seqRwI 38 kr (decide_eq_false c68) ?_
 refine seqRwI 39 kr (decide_eq_false c68) ?_
 refine seqRwI 40 kr (decide_eq_false c68) ?_
 refine seqL1 kr ?_
 refine seqG kr (does_run (run_load rfl Try.underlying3 rfl (kv (pV b9 30)) (HS54.cell 30)) ?_)
 refine seqL3 kr ?_
 replace h := ite_some h; rcases h with ⟨c69, h⟩ | ⟨c69, h⟩
 · have c69 : vw2.Key < 0 := c69
   refine seqRwI 43 kr (decide_eq_true c69) ?_
   refine seqRwI 44 kr (decide_eq_true c69) ?_
   refine seqRwI 45 kr (decide_eq_true c69) ?_
   refine seqL9 kr ?_
   refine nl ?_
   exact J78 f51 true (jL [pV b9 28, iV vw2.Mode, fV, fV, pV b9 28, iV vw2.Mode, fV, fV, fV, pV b9 29, iV vw2.Hazard, fV, fV, fV, pV b9 30, iV vw2.Key, tV, tV, tV, uV, uV, uV, tV, tV]) W53 _ fL h HS54 kr
 have c69 : ¬ (vw2.Key < 0) := c69
 refine seqRwI 43 kr (decide_eq_false c69) ?_
 refine seqRwI 44 kr (decide_eq_false c69) ?_
 refine seqRwI 45 kr (decide_eq_false c69) ?_
 refine seqL1 kr ?_
 refine seqG kr (does_run (run_load rfl Try.underlying3 rfl (kv (pV b9 29)) (HS54.cell 29)) ?_)
 refine seqL3 kr ?_
 replace h := ite_some h; rcases h with ⟨c70, h⟩ | ⟨c70, h⟩
 · have c70 : vw2.Hazard > 17592186044416 := c70
   refine seqRwI 48 kr (decide_eq_true c70) ?_
   refine seqRwI 49 kr (decide_eq_true c70) ?_
   refine seqRwI 50 kr (decide_eq_true c70) ?_
   refine seqL4 kr ?_
   refine nl ?_
   exact J78 f51 true (jL [pV b9 28, iV vw2.Mode, fV, fV, pV b9 28, iV vw2.Mode, fV, fV, fV, pV b9 29, iV vw2.Hazard, fV, fV, fV, pV b9 30, iV vw2.Key, fV, fV, fV, pV b9 29, iV vw2.Hazard, tV, tV, tV]) W53 _ fL h HS54 kr
 have c70 : ¬ (vw2.Hazard > 17592186044416) := c70
 refine seqRwI 48 kr (decide_eq_false c70) ?_
 refine seqRwI 49 kr (decide_eq_false c70) ?_
 refine seqRwI 50 kr (decide_eq_false c70) ?_
 refine seqL1 kr ?_
 refine seqG kr (does_run (run_load rfl Try.underlying3 rfl (kv (pV b9 30)) (HS54.cell 30)) ?_)
 refine seqL2 kr ?_
 refine nl ?_
 exact J78 f51 (decide (vw2.Key > 17592186044416)) (jL [pV b9 28, iV vw2.Mode, fV, fV, pV b9 28, iV vw2.Mode, fV, fV, fV, pV b9 29, iV vw2.Hazard, fV, fV, fV, pV b9 30, iV vw2.Key, fV, fV, fV, pV b9 29, iV vw2.Hazard, fV, fV, fV, pV b9 30, iV vw2.Key, .bool (decide (vw2.Key > 17592186044416))]) W53 _ fL h HS54 kr

set_option maxRecDepth 100000 in
set_option maxHeartbeats 4000000 in
theorem guard_uses.calls (k : Nat)  (kind1 : Int) {t w : World} {f : FM} {H : List Seg} (HS : St t w f (H)) (rr1 : Bool) (h : guard_uses k kind1 = some rr1) :
    Calls Try.prog 29 #[.int .i64 kind1] w (fun e w' => ∃ (g : FM), e = .returned (Value.bool rr1) ∧ FM.le f g ∧ St t w' g (H)) := by
 unfold guard_uses at h
 refine enter Try.func29 rfl (tm := ⟨[iV kind1] ++ (un 16 [])⟩) kr ?_
 intro B hret hnor hnp
 refine wp_seq_k fun K2 hK3 => rl ?_
 refine seqL1 kr ?_
 refine nl (hK3 _ _ ?_)
 refine wp_seq_k fun K4 hK5 => rl ?_
 refine seqL3 kr ?_
 replace h := ite_some h; rcases h with ⟨c7, h⟩ | ⟨c7, h⟩
 · have c7 : kind1 = 0 := c7
   refine seqRwI 4 kr (beq_iff_eq.mpr c7) ?_
   refine seqRwI 5 kr (beq_iff_eq.mpr c7) ?_
   refine seqL12 kr ?_
   refine nl (hK5 _ _ ?_)
   refine wp_ret ?_
   refine hret _ _ ?_
   refine ends_still (v := Value.bool true) kr kr ?_
   injection h with h
   subst h
   exact ⟨f, rfl, FM.le.refl _, HS⟩
 have c7 : ¬ (kind1 = 0) := c7
 refine seqRwI 4 kr (beq_eq_false_iff_ne.mpr c7) ?_
 refine seqRwI 5 kr (beq_eq_false_iff_ne.mpr c7) ?_
 refine seqL4 kr ?_
 replace h := ite_some h; rcases h with ⟨c8, h⟩ | ⟨c8, h⟩
 · have c8 : kind1 = 1 := c8
   refine seqRwI 7 kr (beq_iff_eq.mpr c8) ?_
   refine seqRwI 8 kr (beq_iff_eq.mpr c8) ?_
   refine seqRwI 9 kr (beq_iff_eq.mpr c8) ?_
   refine seqL8 kr ?_
   refine nl (hK5 _ _ ?_)
   refine wp_ret ?_
   refine hret _ _ ?_
   refine ends_still (v := Value.bool true) kr kr ?_
   injection h with h
   subst h
   exact ⟨f, rfl, FM.le.refl _, HS⟩
 have c8 : ¬ (kind1 = 1) := c8
 refine seqRwI 7 kr (beq_eq_false_iff_ne.mpr c8) ?_
 refine seqRwI 8 kr (beq_eq_false_iff_ne.mpr c8) ?_
 refine seqRwI 9 kr (beq_eq_false_iff_ne.mpr c8) ?_
 refine seqL4 kr ?_
 replace h := ite_some h; rcases h with ⟨c9, h⟩ | ⟨c9, h⟩
 · have c9 : kind1 = 8 := c9
   refine seqRwI 11 kr (beq_iff_eq.mpr c9) ?_
   refine seqRwI 12 kr (beq_iff_eq.mpr c9) ?_
   refine seqRwI 13 kr (beq_iff_eq.mpr c9) ?_
   refine seqL4 kr ?_
   refine nl (hK5 _ _ ?_)
   refine wp_ret ?_
   refine hret _ _ ?_
   refine ends_still (v := Value.bool true) kr kr ?_
   injection h with h
   subst h
   exact ⟨f, rfl, FM.le.refl _, HS⟩
 have c9 : ¬ (kind1 = 8) := c9
 refine seqRwI 11 kr (beq_eq_false_iff_ne.mpr c9) ?_
 refine seqRwI 12 kr (beq_eq_false_iff_ne.mpr c9) ?_
 refine seqRwI 13 kr (beq_eq_false_iff_ne.mpr c9) ?_
 refine seqL4 kr ?_
 refine nl (hK5 _ _ ?_)
 refine wp_ret ?_
 refine hret _ _ ?_
 refine ends_still (v := Value.bool (kind1 == 9)) kr kr ?_
 injection h with h
 subst h
 exact ⟨f, rfl, FM.le.refl _, HS⟩

set_option maxRecDepth 100000 in
set_option maxHeartbeats 4000000 in
theorem guard_permitted.calls (k : Nat)  (vw1 : S_World) (kind2 : Int) {t w : World} {f : FM} {H : List Seg} (HS : St t w f (H)) (rr1 : Bool) (h : guard_permitted k vw1 kind2 = some rr1) :
    Calls Try.prog 30 #[.agg (cl_World vw1), .int .i64 kind2] w (fun e w' => ∃ (g : FM), e = .returned (Value.bool rr1) ∧ FM.le f g ∧ St t w' g (H)) := by
 unfold guard_permitted at h
 refine enter Try.func30 rfl (tm := ⟨[(ag_World vw1), iV kind2] ++ (un 39 [])⟩) kr ?_
 intro B hret hnor hnp
 refine wp_seq_k fun K3 hK4 => rl ?_
 refine seqK rfl (does_box (cs := (cl_World vw1)) rfl (kv (.agg (cl_World vw1))) rfl HS ?_)
 intro b5 W6 HS7
 refine seqL1 kr ?_
 refine nl (hK4 _ _ ?_)
 refine wp_seq_k (fun K9 hK10 => ?_)
 refine wp_seq_k fun K11 hK12 => rl ?_
 refine seqL1 kr ?_
 refine nl (hK12 _ _ ?_)
 refine blockK (fun B13 hx14 hn15 hr16 ho17 hp18 => ?_)
 refine wp_seq_k (fun K20 hK21 => ?_)
 refine wp_seq_k fun K22 hK23 => rl ?_
 refine seqL2 kr ?_
 refine nl (hK23 _ _ ?_)
 replace h := bind_some h; obtain ⟨v24, hv97, h⟩ := h
 have J98 : ∀ (f91 : FM) (x96 : Bool) (j95 : Nat → Value) (W93 : World) (a_ : Act), FM.le f f91 → some (x96) = some v24 → St t W93 f91 ([(b5, .cells (cl_World vw1) 59 (0, 0))] :: H) → a_ = ⟨⟨[(ag_World vw1), iV kind2, pV b5 0, uV, fV, iV kind2, .bool x96, .bool (kind2 == 0)] ++ (jr j95 0 6 (un 27 []))⟩, []⟩ → K20 a_ W93 := by
  intro f91 x96 j95 W93 a_ L92 hj99 HS94  hfr_; subst hfr_
  injection hj99 with hj99; subst hj99; try dsimp only at h
  refine hK21 _ _ ?_
  replace h := ite_some h; rcases h with ⟨c101, h⟩ | ⟨c101, h⟩
  · have c101 : x96 = true := c101
    refine wpRwI 6 kr c101 ?_
    refine condT kr ?_
    refine wp_seq_k fun K102 hK103 => rl ?_
    refine seqL1 kr ?_
    refine nl (hK103 _ _ ?_)
    refine wp_ret ?_
    refine hr16 _ _ ?_
    refine hret _ _ ?_
    refine ends_still (v := Value.bool true) kr kr ?_
    have HS156 := HS94.drop
    injection h with h
    subst h
    exact ⟨f91, rfl, L92, HS156⟩
  have c101 : ¬ (x96 = true) := c101
  refine wpRwI 6 kr (Bool.eq_false_iff.mpr c101) ?_
  refine condF kr ?_
  refine wp_seq_k fun K104 hK105 => rl ?_
  refine seqL2 kr ?_
  refine nl (hK105 _ _ ?_)
  replace h := ite_some h; rcases h with ⟨c107, h⟩ | ⟨c107, h⟩
  · have c107 : kind2 = 13 := c107
    refine wpRwI 14 kr (beq_iff_eq.mpr c107) ?_
    refine wpRwI 15 kr (beq_iff_eq.mpr c107) ?_
    refine condT kr ?_
    refine wp_seq_k fun K108 hK109 => rl ?_
    refine seqL1 kr ?_
    refine seqK rfl (does_run (run_load rfl Try.underlying3 rfl (kv (pV b5 28)) (HS94.cell 28)) ?_)
    refine seqL2 kr ?_
    replace h := ite_some h; rcases h with ⟨c111, h⟩ | ⟨c111, h⟩
    · have c111 : vw1.Mode = 2 := c111
      refine seqRwI 18 kr (beq_iff_eq.mpr c111) ?_
      refine seqRwI 19 kr (beq_iff_eq.mpr c111) ?_
      refine seqL1 kr ?_
      refine seqG kr (does_run (run_load rfl Try.underlying3 rfl (kv (pV b5 29)) (HS94.cell 29)) ?_)
      refine seqL3 kr ?_
      refine nl (hK109 _ _ ?_)
      refine wp_ret ?_
      refine hr16 _ _ ?_
      refine hret _ _ ?_
      refine ends_still (v := Value.bool (vw1.Hazard == 0)) kr kr ?_
      have HS157 := HS94.drop
      injection h with h
      subst h
      exact ⟨f91, rfl, L92, HS157⟩
    have c111 : ¬ (vw1.Mode = 2) := c111
    refine seqRwI 18 kr (beq_eq_false_iff_ne.mpr c111) ?_
    refine seqRwI 19 kr (beq_eq_false_iff_ne.mpr c111) ?_
    refine seqL5 kr ?_
    refine nl (hK109 _ _ ?_)
    refine wp_ret ?_
    refine hr16 _ _ ?_
    refine hret _ _ ?_
    refine ends_still (v := Value.bool false) kr kr ?_
    have HS158 := HS94.drop
    injection h with h
    subst h
    exact ⟨f91, rfl, L92, HS158⟩
  have c107 : ¬ (kind2 = 13) := c107
  refine wpRwI 14 kr (beq_eq_false_iff_ne.mpr c107) ?_
  refine wpRwI 15 kr (beq_eq_false_iff_ne.mpr c107) ?_
  refine condF kr ?_
  refine wp_seq_k (fun K112 hK113 => ?_)
  refine wp_seq_k fun K114 hK115 => rl ?_
  refine seqL2 kr ?_
  refine nl (hK115 _ _ ?_)
  replace h := bind_some h; obtain ⟨v116, hv145, h⟩ := h
  have J146 : ∀ (f139 : FM) (x144 : Bool) (j143 : Nat → Value) (W141 : World) (a_ : Act), FM.le f91 f139 → some (x144) = some v116 → St t W141 f139 ([(b5, .cells (cl_World vw1) 59 (0, 0))] :: H) → a_ = ⟨⟨[(ag_World vw1), iV kind2, pV b5 0, uV, fV, iV kind2, fV, .bool (kind2 == 0)] ++ (jr j95 0 6 ([fV, fV] ++ (un 8 ([.bool x144, .bool (kind2 == 2)] ++ (jr j143 0 4 (un 11 []))))))⟩, []⟩ → K112 a_ W141 := by
   intro f139 x144 j143 W141 a_ L140 hj147 HS142  hfr_; subst hfr_
   injection hj147 with hj147; subst hj147; try dsimp only at h
   refine hK113 _ _ ?_
   replace h := ite_some h; rcases h with ⟨c149, h⟩ | ⟨c149, h⟩
   rotate_left
   · have c149 : ¬ (x144 = true) := c149
     refine wpRwI 24 kr (Bool.eq_false_iff.mpr c149) ?_
     refine condF kr ?_
     refine wp_skip ?_
     refine hn15 _ _ ?_
     refine hK10 _ _ ?_
     refine wp_seq_k fun K154 hK155 => rl ?_
     refine seqL1 kr ?_
     refine seqK rfl (does_run (run_load rfl Try.underlying3 rfl (kv (pV b5 28)) (HS142.cell 28)) ?_)
     refine seqL2 kr ?_
     refine nl (hK155 _ _ ?_)
     refine wp_ret ?_
     refine hret _ _ ?_
     refine ends_still (v := Value.bool (vw1.Mode == 0)) kr kr ?_
     have HS161 := HS142.drop
     injection h with h
     subst h
     exact ⟨f139, rfl, (L92.trans L140), HS161⟩
   have c149 : x144 = true := c149
   refine wpRwI 24 kr c149 ?_
   refine condT kr ?_
   refine wp_seq_k fun K150 hK151 => rl ?_
   refine seqL1 kr ?_
   refine seqK rfl (does_run (run_load rfl Try.underlying3 rfl (kv (pV b5 28)) (HS142.cell 28)) ?_)
   refine seqL2 kr ?_
   replace h := ite_some h; rcases h with ⟨c153, h⟩ | ⟨c153, h⟩
   · have c153 : vw1.Mode = 0 := c153
     refine seqRwI 32 kr (beq_iff_eq.mpr c153) ?_
     refine seqRwI 33 kr (beq_iff_eq.mpr c153) ?_
     refine seqL1 kr ?_
     refine seqG kr (does_run (run_load rfl Try.underlying3 rfl (kv (pV b5 30)) (HS142.cell 30)) ?_)
     refine seqL3 kr ?_
     refine nl (hK151 _ _ ?_)
     refine wp_ret ?_
     refine hr16 _ _ ?_
     refine hret _ _ ?_
     refine ends_still (v := Value.bool (vw1.Key == 0)) kr kr ?_
     have HS159 := HS142.drop
     injection h with h
     subst h
     exact ⟨f139, rfl, (L92.trans L140), HS159⟩
   have c153 : ¬ (vw1.Mode = 0) := c153
   refine seqRwI 32 kr (beq_eq_false_iff_ne.mpr c153) ?_
   refine seqRwI 33 kr (beq_eq_false_iff_ne.mpr c153) ?_
   refine seqL5 kr ?_
   refine nl (hK151 _ _ ?_)
   refine wp_ret ?_
   refine hr16 _ _ ?_
   refine hret _ _ ?_
   refine ends_still (v := Value.bool false) kr kr ?_
   have HS160 := HS142.drop
   injection h with h
   subst h
   exact ⟨f139, rfl, (L92.trans L140), HS160⟩
  clear h; have h := hv145; clear hv145
  replace h := ite_some h; rcases h with ⟨c117, h⟩ | ⟨c117, h⟩
  · have c117 : kind2 = 2 := c117
    refine wpRwI 24 kr (beq_iff_eq.mpr c117) ?_
    refine wpRwI 25 kr (beq_iff_eq.mpr c117) ?_
    refine condT kr ?_
    refine wp_skip ?_
    refine fnRwI (F := K112) 25 (x := true) (v := (kind2 == 2)) kr (Eq.symm (beq_iff_eq.mpr c117)) ?_
    refine fnRwI (F := K112) 24 (x := true) (v := (kind2 == 2)) kr (Eq.symm (beq_iff_eq.mpr c117)) ?_
    exact J146 f91 (kind2 == 2) (jL []) W93 _ fL h HS94 kr
  have c117 : ¬ (kind2 = 2) := c117
  refine wpRwI 24 kr (beq_eq_false_iff_ne.mpr c117) ?_
  refine wpRwI 25 kr (beq_eq_false_iff_ne.mpr c117) ?_
  refine condF kr ?_
  refine wp_seq_k fun K118 hK119 => rl ?_
  refine seqL2 kr ?_
  refine nl (hK119 _ _ ?_)
  replace h := ite_some h; rcases h with ⟨c121, h⟩ | ⟨c121, h⟩
  · have c121 : kind2 = 3 := c121
    refine wpRwI 24 kr (beq_iff_eq.mpr c121) ?_
    refine wpRwI 26 kr (beq_iff_eq.mpr c121) ?_
    refine condT kr ?_
    refine wp_skip ?_
    refine fnRwI (F := K112) 25 (x := false) (v := (kind2 == 2)) kr (Eq.symm (beq_eq_false_iff_ne.mpr c117)) ?_
    exact J146 f91 true (jL [tV]) W93 _ fL h HS94 kr
  have c121 : ¬ (kind2 = 3) := c121
  refine wpRwI 24 kr (beq_eq_false_iff_ne.mpr c121) ?_
  refine wpRwI 26 kr (beq_eq_false_iff_ne.mpr c121) ?_
  refine condF kr ?_
  refine wp_seq_k fun K122 hK123 => rl ?_
  refine seqL2 kr ?_
  refine nl (hK123 _ _ ?_)
  replace h := bind_some h; obtain ⟨v124, hv136, h⟩ := h
  have J137 : ∀ (f130 : FM) (x135 : Bool) (j134 : Nat → Value) (W132 : World) (a_ : Act), FM.le f91 f130 → some (x135) = some v124 → St t W132 f130 ([(b5, .cells (cl_World vw1) 59 (0, 0))] :: H) → a_ = ⟨⟨[(ag_World vw1), iV kind2, pV b5 0, uV, fV, iV kind2, fV, .bool (kind2 == 0)] ++ (jr j95 0 6 ([fV, fV] ++ (un 8 ([.bool x135, fV, fV, .bool (kind2 == 4), (j134 0), (j134 1)] ++ (un 11 [])))))⟩, []⟩ → K112 a_ W132 := by
   intro f130 x135 j134 W132 a_ L131 hj138 HS133  hfr_; subst hfr_
   injection hj138 with hj138; subst hj138; try dsimp only at h
   refine fnRwI (F := K112) 25 (x := false) (v := (kind2 == 2)) kr (Eq.symm (beq_eq_false_iff_ne.mpr c117)) ?_
   exact J146 f130 x135 (jL [fV, .bool (kind2 == 4), (j134 0), (j134 1)]) W132 _ L131 h HS133 kr
  clear h; have h := hv136; clear hv136
  replace h := ite_some h; rcases h with ⟨c125, h⟩ | ⟨c125, h⟩
  · have c125 : kind2 = 4 := c125
    refine wpRwI 24 kr (beq_iff_eq.mpr c125) ?_
    refine wpRwI 27 kr (beq_iff_eq.mpr c125) ?_
    refine condT kr ?_
    refine wp_skip ?_
    refine fnRwI (F := K112) 24 (x := true) (v := (kind2 == 4)) kr (Eq.symm (beq_iff_eq.mpr c125)) ?_
    refine fnRwI (F := K112) 27 (x := true) (v := (kind2 == 4)) kr (Eq.symm (beq_iff_eq.mpr c125)) ?_
    exact J137 f91 (kind2 == 4) (jL []) W93 _ fL h HS94 kr
  have c125 : ¬ (kind2 = 4) := c125
  refine wpRwI 24 kr (beq_eq_false_iff_ne.mpr c125) ?_
  refine wpRwI 27 kr (beq_eq_false_iff_ne.mpr c125) ?_
  refine condF kr ?_
  refine wp_seq_k fun K126 hK127 => rl ?_
  refine seqL2 kr ?_
  refine nl (hK127 _ _ ?_)
  replace h := ite_some h; rcases h with ⟨c129, h⟩ | ⟨c129, h⟩
  · have c129 : kind2 = 8 := c129
    refine wpRwI 24 kr (beq_iff_eq.mpr c129) ?_
    refine wpRwI 28 kr (beq_iff_eq.mpr c129) ?_
    refine condT kr ?_
    refine wp_skip ?_
    refine fnRwI (F := K112) 27 (x := false) (v := (kind2 == 4)) kr (Eq.symm (beq_eq_false_iff_ne.mpr c125)) ?_
    exact J137 f91 true (jL [tV]) W93 _ fL h HS94 kr
  have c129 : ¬ (kind2 = 8) := c129
  refine wpRwI 24 kr (beq_eq_false_iff_ne.mpr c129) ?_
  refine wpRwI 28 kr (beq_eq_false_iff_ne.mpr c129) ?_
  refine condF kr ?_
  refine rl ?_
  refine seqL2 kr ?_
  refine nl ?_
  refine fnRwI (F := K112) 27 (x := false) (v := (kind2 == 4)) kr (Eq.symm (beq_eq_false_iff_ne.mpr c125)) ?_
  exact J137 f91 (kind2 == 9) (jL [fV, .bool (kind2 == 9)]) W93 _ fL h HS94 kr
 clear h; have h := hv97; clear hv97
 replace h := ite_some h; rcases h with ⟨c25, h⟩ | ⟨c25, h⟩
 · have c25 : kind2 = 0 := c25
   refine wpRwI 6 kr (beq_iff_eq.mpr c25) ?_
   refine wpRwI 7 kr (beq_iff_eq.mpr c25) ?_
   refine condT kr ?_
   refine wp_skip ?_
   refine fnRwI (F := K20) 7 (x := true) (v := (kind2 == 0)) kr (Eq.symm (beq_iff_eq.mpr c25)) ?_
   refine fnRwI (F := K20) 6 (x := true) (v := (kind2 == 0)) kr (Eq.symm (beq_iff_eq.mpr c25)) ?_
   exact J98 f (kind2 == 0) (jL []) W6 _ fL h HS7 kr
 have c25 : ¬ (kind2 = 0) := c25
 refine wpRwI 6 kr (beq_eq_false_iff_ne.mpr c25) ?_
 refine wpRwI 7 kr (beq_eq_false_iff_ne.mpr c25) ?_
 refine condF kr ?_
 refine wp_seq_k fun K26 hK27 => rl ?_
 refine seqL2 kr ?_
 refine nl (hK27 _ _ ?_)
 replace h := bind_some h; obtain ⟨v28, hv88, h⟩ := h
 have J89 : ∀ (f82 : FM) (x87 : Bool) (j86 : Nat → Value) (W84 : World) (a_ : Act), FM.le f f82 → some (x87) = some v28 → St t W84 f82 ([(b5, .cells (cl_World vw1) 59 (0, 0))] :: H) → a_ = ⟨⟨[(ag_World vw1), iV kind2, pV b5 0, uV, fV, iV kind2, .bool x87, fV, .bool (kind2 == 1)] ++ (jr j86 0 5 (un 27 []))⟩, []⟩ → K20 a_ W84 := by
  intro f82 x87 j86 W84 a_ L83 hj90 HS85  hfr_; subst hfr_
  injection hj90 with hj90; subst hj90; try dsimp only at h
  refine fnRwI (F := K20) 7 (x := false) (v := (kind2 == 0)) kr (Eq.symm (beq_eq_false_iff_ne.mpr c25)) ?_
  exact J98 f82 x87 (jL [.bool (kind2 == 1), (j86 0), (j86 1), (j86 2), (j86 3), (j86 4)]) W84 _ L83 h HS85 kr
 clear h; have h := hv88; clear hv88
 replace h := ite_some h; rcases h with ⟨c29, h⟩ | ⟨c29, h⟩
 · have c29 : kind2 = 1 := c29
   refine wpRwI 6 kr (beq_iff_eq.mpr c29) ?_
   refine wpRwI 8 kr (beq_iff_eq.mpr c29) ?_
   refine condT kr ?_
   refine wp_skip ?_
   refine fnRwI (F := K20) 6 (x := true) (v := (kind2 == 1)) kr (Eq.symm (beq_iff_eq.mpr c29)) ?_
   refine fnRwI (F := K20) 8 (x := true) (v := (kind2 == 1)) kr (Eq.symm (beq_iff_eq.mpr c29)) ?_
   exact J89 f (kind2 == 1) (jL []) W6 _ fL h HS7 kr
 have c29 : ¬ (kind2 = 1) := c29
 refine wpRwI 6 kr (beq_eq_false_iff_ne.mpr c29) ?_
 refine wpRwI 8 kr (beq_eq_false_iff_ne.mpr c29) ?_
 refine condF kr ?_
 refine wp_seq_k fun K30 hK31 => rl ?_
 refine seqL2 kr ?_
 refine nl (hK31 _ _ ?_)
 replace h := bind_some h; obtain ⟨v32, hv79, h⟩ := h
 have J80 : ∀ (f73 : FM) (x78 : Bool) (j77 : Nat → Value) (W75 : World) (a_ : Act), FM.le f f73 → some (x78) = some v32 → St t W75 f73 ([(b5, .cells (cl_World vw1) 59 (0, 0))] :: H) → a_ = ⟨⟨[(ag_World vw1), iV kind2, pV b5 0, uV, fV, iV kind2, .bool x78, fV, fV, .bool (kind2 == 7)] ++ (jr j77 0 4 (un 27 []))⟩, []⟩ → K20 a_ W75 := by
  intro f73 x78 j77 W75 a_ L74 hj81 HS76  hfr_; subst hfr_
  injection hj81 with hj81; subst hj81; try dsimp only at h
  refine fnRwI (F := K20) 8 (x := false) (v := (kind2 == 1)) kr (Eq.symm (beq_eq_false_iff_ne.mpr c29)) ?_
  exact J89 f73 x78 (jL [.bool (kind2 == 7), (j77 0), (j77 1), (j77 2), (j77 3)]) W75 _ L74 h HS76 kr
 clear h; have h := hv79; clear hv79
 replace h := ite_some h; rcases h with ⟨c33, h⟩ | ⟨c33, h⟩
 · have c33 : kind2 = 7 := c33
   refine wpRwI 6 kr (beq_iff_eq.mpr c33) ?_
   refine wpRwI 9 kr (beq_iff_eq.mpr c33) ?_
   refine condT kr ?_
   refine wp_skip ?_
   refine fnRwI (F := K20) 6 (x := true) (v := (kind2 == 7)) kr (Eq.symm (beq_iff_eq.mpr c33)) ?_
   refine fnRwI (F := K20) 9 (x := true) (v := (kind2 == 7)) kr (Eq.symm (beq_iff_eq.mpr c33)) ?_
   exact J80 f (kind2 == 7) (jL []) W6 _ fL h HS7 kr
 have c33 : ¬ (kind2 = 7) := c33
 refine wpRwI 6 kr (beq_eq_false_iff_ne.mpr c33) ?_
 refine wpRwI 9 kr (beq_eq_false_iff_ne.mpr c33) ?_
 refine condF kr ?_
 refine wp_seq_k fun K34 hK35 => rl ?_
 refine seqL2 kr ?_
 refine nl (hK35 _ _ ?_)
 replace h := bind_some h; obtain ⟨v36, hv70, h⟩ := h
 have J71 : ∀ (f64 : FM) (x69 : Bool) (j68 : Nat → Value) (W66 : World) (a_ : Act), FM.le f f64 → some (x69) = some v36 → St t W66 f64 ([(b5, .cells (cl_World vw1) 59 (0, 0))] :: H) → a_ = ⟨⟨[(ag_World vw1), iV kind2, pV b5 0, uV, fV, iV kind2, .bool x69, fV, fV, fV, .bool (kind2 == 5)] ++ (jr j68 0 3 (un 27 []))⟩, []⟩ → K20 a_ W66 := by
  intro f64 x69 j68 W66 a_ L65 hj72 HS67  hfr_; subst hfr_
  injection hj72 with hj72; subst hj72; try dsimp only at h
  refine fnRwI (F := K20) 9 (x := false) (v := (kind2 == 7)) kr (Eq.symm (beq_eq_false_iff_ne.mpr c33)) ?_
  exact J80 f64 x69 (jL [.bool (kind2 == 5), (j68 0), (j68 1), (j68 2)]) W66 _ L65 h HS67 kr
 clear h; have h := hv70; clear hv70
 replace h := ite_some h; rcases h with ⟨c37, h⟩ | ⟨c37, h⟩
 · have c37 : kind2 = 5 := c37
   refine wpRwI 6 kr (beq_iff_eq.mpr c37) ?_
   refine wpRwI 10 kr (beq_iff_eq.mpr c37) ?_
   refine condT kr ?_
   refine wp_skip ?_
   refine fnRwI (F := K20) 6 (x := true) (v := (kind2 == 5)) kr (Eq.symm (beq_iff_eq.mpr c37)) ?_
   refine fnRwI (F := K20) 10 (x := true) (v := (kind2 == 5)) kr (Eq.symm (beq_iff_eq.mpr c37)) ?_
   exact J71 f (kind2 == 5) (jL []) W6 _ fL h HS7 kr
 have c37 : ¬ (kind2 = 5) := c37
 refine wpRwI 6 kr (beq_eq_false_iff_ne.mpr c37) ?_
 refine wpRwI 10 kr (beq_eq_false_iff_ne.mpr c37) ?_
 refine condF kr ?_
 refine wp_seq_k fun K38 hK39 => rl ?_
 refine seqL2 kr ?_
 refine nl (hK39 _ _ ?_)
 replace h := bind_some h; obtain ⟨v40, hv61, h⟩ := h
 have J62 : ∀ (f55 : FM) (x60 : Bool) (j59 : Nat → Value) (W57 : World) (a_ : Act), FM.le f f55 → some (x60) = some v40 → St t W57 f55 ([(b5, .cells (cl_World vw1) 59 (0, 0))] :: H) → a_ = ⟨⟨[(ag_World vw1), iV kind2, pV b5 0, uV, fV, iV kind2, .bool x60, fV, fV, fV, fV, .bool (kind2 == 10), (j59 0), (j59 1)] ++ (un 27 [])⟩, []⟩ → K20 a_ W57 := by
  intro f55 x60 j59 W57 a_ L56 hj63 HS58  hfr_; subst hfr_
  injection hj63 with hj63; subst hj63; try dsimp only at h
  refine fnRwI (F := K20) 10 (x := false) (v := (kind2 == 5)) kr (Eq.symm (beq_eq_false_iff_ne.mpr c37)) ?_
  exact J71 f55 x60 (jL [.bool (kind2 == 10), (j59 0), (j59 1)]) W57 _ L56 h HS58 kr
 clear h; have h := hv61; clear hv61
 replace h := ite_some h; rcases h with ⟨c41, h⟩ | ⟨c41, h⟩
 · have c41 : kind2 = 10 := c41
   refine wpRwI 6 kr (beq_iff_eq.mpr c41) ?_
   refine wpRwI 11 kr (beq_iff_eq.mpr c41) ?_
   refine condT kr ?_
   refine wp_skip ?_
   refine fnRwI (F := K20) 6 (x := true) (v := (kind2 == 10)) kr (Eq.symm (beq_iff_eq.mpr c41)) ?_
   refine fnRwI (F := K20) 11 (x := true) (v := (kind2 == 10)) kr (Eq.symm (beq_iff_eq.mpr c41)) ?_
   exact J62 f (kind2 == 10) (jL []) W6 _ fL h HS7 kr
 have c41 : ¬ (kind2 = 10) := c41
 refine wpRwI 6 kr (beq_eq_false_iff_ne.mpr c41) ?_
 refine wpRwI 11 kr (beq_eq_false_iff_ne.mpr c41) ?_
 refine condF kr ?_
 refine wp_seq_k fun K42 hK43 => rl ?_
 refine seqL2 kr ?_
 refine nl (hK43 _ _ ?_)
 replace h := bind_some h; obtain ⟨v44, hv52, h⟩ := h
 have J53 : ∀ (f46 : FM) (x51 : Bool) (j50 : Nat → Value) (W48 : World) (a_ : Act), FM.le f f46 → some (x51) = some v44 → St t W48 f46 ([(b5, .cells (cl_World vw1) 59 (0, 0))] :: H) → a_ = ⟨⟨[(ag_World vw1), iV kind2, pV b5 0, uV, fV, iV kind2, .bool x51, fV, fV, fV, fV, fV, .bool (kind2 == 11), (j50 0)] ++ (un 27 [])⟩, []⟩ → K20 a_ W48 := by
  intro f46 x51 j50 W48 a_ L47 hj54 HS49  hfr_; subst hfr_
  injection hj54 with hj54; subst hj54; try dsimp only at h
  refine fnRwI (F := K20) 11 (x := false) (v := (kind2 == 10)) kr (Eq.symm (beq_eq_false_iff_ne.mpr c41)) ?_
  exact J62 f46 x51 (jL [.bool (kind2 == 11), (j50 0)]) W48 _ L47 h HS49 kr
 clear h; have h := hv52; clear hv52
 replace h := ite_some h; rcases h with ⟨c45, h⟩ | ⟨c45, h⟩
 · have c45 : kind2 = 11 := c45
   refine wpRwI 6 kr (beq_iff_eq.mpr c45) ?_
   refine wpRwI 12 kr (beq_iff_eq.mpr c45) ?_
   refine condT kr ?_
   refine wp_skip ?_
   refine fnRwI (F := K20) 6 (x := true) (v := (kind2 == 11)) kr (Eq.symm (beq_iff_eq.mpr c45)) ?_
   refine fnRwI (F := K20) 12 (x := true) (v := (kind2 == 11)) kr (Eq.symm (beq_iff_eq.mpr c45)) ?_
   exact J53 f (kind2 == 11) (jL []) W6 _ fL h HS7 kr
 have c45 : ¬ (kind2 = 11) := c45
 refine wpRwI 6 kr (beq_eq_false_iff_ne.mpr c45) ?_
 refine wpRwI 12 kr (beq_eq_false_iff_ne.mpr c45) ?_
 refine condF kr ?_
 refine rl ?_
 refine seqL2 kr ?_
 refine nl ?_
 refine fnRwI (F := K20) 12 (x := false) (v := (kind2 == 11)) kr (Eq.symm (beq_eq_false_iff_ne.mpr c45)) ?_
 exact J53 f (kind2 == 12) (jL [.bool (kind2 == 12)]) W6 _ fL h HS7 kr

set_option maxRecDepth 100000 in
set_option maxHeartbeats 4000000 in
theorem axis_Send.calls (k : Nat)  (a1 : S_Axis) (s2 : S_State) (goal3 : Int) {t w : World} {f : FM} {H : List Seg} (HS : St t w f (H)) (rr1 : S_State) (rr2 : Int) (h : axis_Send k a1 s2 goal3 = some (rr1, rr2)) :
    Calls Try.prog 73 #[.agg (cl_Axis a1), .agg (cl_State s2), .int .i64 goal3] w (fun e w' => ∃ (g : FM), e = .returned (Value.tuple #[.agg (cl_State rr1), .int .i64 rr2]) ∧ FM.le f g ∧ St t w' g (H)) := by
 unfold axis_Send at h
 refine enter Try.func73 rfl (tm := ⟨[(ag_Axis a1), (ag_State s2), iV goal3] ++ (un 22 [])⟩) kr ?_
 intro B hret hnor hnp
 refine wp_seq_k fun K4 hK5 => rl ?_
 refine seqK rfl (does_box (cs := (cl_Axis a1)) rfl (kv (.agg (cl_Axis a1))) rfl HS ?_)
 intro b6 W7 HS8
 refine seqK rfl (does_box (cs := (cl_State s2)) rfl (kv (.agg (cl_State s2))) rfl HS8 ?_)
 intro b10 W11 HS12
 refine seqK rfl (does_alloc (z := Value.agg (cm_State 0 0 0 false)) (cs := (cm_State 0 0 0 false)) rfl kr rfl HS12 ?_)
 intro b14 W15 HS16
 refine seqL1 kr ?_
 refine nl (hK5 _ _ ?_)
 refine wp_seq_k (fun K18 hK19 => ?_)
 refine wp_seq_k fun K20 hK21 => rl ?_
 refine seqK rfl (does_run (run_loadN (n := 4) rfl Try.underlying27 rfl kr (kv (pV b6 0)) (cs := (ll_Axis a1)) rfl (HS16.u2.cells 0 4 _ rfl)) ?_)
 refine seqK rfl (does_run (run_loadN (n := 4) rfl Try.underlying49 rfl kr (kv (pV b10 0)) (cs := (ll_State s2)) rfl (HS16.u1.cells 0 4 _ rfl)) ?_)
 replace h := bind_some h; obtain ⟨vt22, hc23, h⟩ := h
 refine seqK rfl (does_call kr (axis_Check.calls k a1 s2 HS16 vt22 hc23) ?_)
 rintro _ W26 ⟨f24, rfl, L25, HS27⟩
 refine ⟨_, rfl, ?_⟩
 refine seqL1 kr ?_
 refine nl (hK21 _ _ ?_)
 refine wp_seq_k fun K28 hK29 => rl ?_
 refine seqL2 kr ?_
 refine nl (hK29 _ _ ?_)
 replace h := ite_some h; rcases h with ⟨c31, h⟩ | ⟨c31, h⟩
 · have c31 : vt22 ≠ 0 := c31
   refine wpRwI 13 kr (bne_iff_ne.mpr c31) ?_
   refine condT kr ?_
   refine wp_seq_k (fun K32 hK33 => ?_)
   exact nomatch h
 have c31 : ¬ (vt22 ≠ 0) := c31
 refine wpRwI 13 (x := (vt22 != 0)) (v := false) kr (bne_eq_false_iff_eq.mpr (Decidable.of_not_not c31)) ?_
 refine condF kr ?_
 refine wp_skip ?_
 refine hK19 _ _ ?_
 refine wp_seq_k (fun K34 hK35 => ?_)
 refine wp_seq_k fun K36 hK37 => rl ?_
 refine seqK rfl (does_run (run_loadN (n := 4) rfl Try.underlying27 rfl kr (kv (pV b6 0)) (cs := (ll_Axis a1)) rfl (HS27.u2.cells 0 4 _ rfl)) ?_)
 replace h := bind_some h; obtain ⟨vt38, hc39, h⟩ := h
 refine seqL1 kr ?_
 refine seqK rfl (does_call kr (slew_In.calls k a1 goal3 HS27 vt38 hc39) ?_)
 rintro _ W42 ⟨f40, rfl, L41, HS43⟩
 refine ⟨_, rfl, ?_⟩
 refine seqL1 kr ?_
 refine nl (hK37 _ _ ?_)
 replace h := ite_some h; rcases h with ⟨c45, h⟩ | ⟨c45, h⟩
 · have c45 : ¬ (vt38 = true) := c45
   refine wpRwI 19 kr (congrArg (fun b_ => !b_) (show vt38 = false from (Bool.eq_false_iff.mpr c45)) : (!vt38) = true) ?_
   refine condT kr ?_
   refine wp_seq_k fun K46 hK47 => rl ?_
   refine seqL1 kr ?_
   refine seqK rfl (does_storeA (vs := (lm_State 0 0 0 false)) rfl kr kr kr rfl (ones rfl) HS43 kr ?_)
   intro W48 HS49
   refine seqL1 kr ?_
   refine nl (hK47 _ _ ?_)
   refine wp_ret ?_
   refine hret _ _ ?_
   refine ends (v := Value.tuple #[.agg (cm_State 0 0 0 false), .int .i64 4]) (results2 (q1 := .cell 6 49) (q2 := .tmp 7) kr (resN (n := 4) (cs := (lm_State 0 0 0 false)) (kv (pV b14 0)) Try.underlying49 rfl kr rfl (HS49.cells 0 4 _ rfl)) (resT (kv (.int .i64 4)))) kr ?_
   have HS62 := HS49.drop
   have HS63 := HS62.drop
   have HS64 := HS63.drop
   injection h with h
   injection h with h0_ h
   subst h0_ h
   exact ⟨f40, rfl, (L25.trans L41), HS64⟩
 have c45 : ¬ (¬ (vt38 = true)) := c45
 refine wpRwI 19 (x := (!vt38)) (v := false) kr (congrArg (fun b_ => !b_) (show vt38 = true from (Decidable.of_not_not c45)) : (!vt38) = false) ?_
 refine condF kr ?_
 refine wp_skip ?_
 refine hK35 _ _ ?_
 refine wp_seq_k fun K50 hK51 => rl ?_
 have HS52 := HS43.u1
 refine seqL2 kr ?_
 refine seqK rfl (does_store (n := 1) (vs := [.int .i64 goal3]) (cs' := (cm_State s2.At s2.Speed goal3 s2.Halt)) rfl kr (kv (pV b10 2)) (kv (.int .i64 goal3)) rfl rfl (ones rfl) HS52 (Nat.le_of_ble_eq_true rfl) kr ?_)
 intro W53 HS54
 refine seqL1 kr ?_
 refine seqK rfl (does_store (n := 1) (vs := [.bool false]) (cs' := (cm_State s2.At s2.Speed goal3 false)) rfl kr (kv (pV b10 3)) (kv (.bool false)) rfl rfl (ones rfl) HS54 (Nat.le_of_ble_eq_true rfl) kr ?_)
 intro W55 HS56
 refine nl (hK51 _ _ ?_)
 refine wp_seq_k fun K57 hK58 => rl ?_
 refine seqK rfl (does_run (run_loadN (n := 4) rfl Try.underlying49 rfl kr (kv (pV b10 0)) (cs := (lm_State s2.At s2.Speed goal3 false)) rfl (HS56.cells 0 4 _ rfl)) ?_)
 have HS59 := HS56.u1
 refine seqK rfl (does_storeA (vs := (lm_State s2.At s2.Speed goal3 false)) rfl kr kr kr rfl (ones rfl) HS59 kr ?_)
 intro W60 HS61
 refine seqL1 kr ?_
 refine nl (hK58 _ _ ?_)
 refine wp_ret ?_
 refine hret _ _ ?_
 refine ends (v := Value.tuple #[.agg (cm_State s2.At s2.Speed goal3 false), .int .i64 0]) (results2 (q1 := .cell 6 49) (q2 := .tmp 7) kr (resN (n := 4) (cs := (lm_State s2.At s2.Speed goal3 false)) (kv (pV b14 0)) Try.underlying49 rfl kr rfl (HS61.cells 0 4 _ rfl)) (resT (kv (.int .i64 0)))) kr ?_
 have HS65 := HS61.drop
 have HS66 := HS65.drop
 have HS67 := HS66.drop
 injection h with h
 injection h with h0_ h
 subst h0_ h
 exact ⟨f40, rfl, (L25.trans L41), HS67⟩

set_option maxRecDepth 100000 in
set_option maxHeartbeats 4000000 in
theorem mount_send.calls (k : Nat)  (m1 : S_Mount) (s2 : S_State2) (p3 : S_Pose) (mode4 : Int) {t w : World} {f : FM} {H : List Seg} (HS : St t w f (H)) (rr1 : S_State2) (rr2 : Int) (h : mount_send k m1 s2 p3 mode4 = some (rr1, rr2)) :
    Calls Try.prog 69 #[.agg (cl_Mount m1), .agg (cl_State2 s2), .agg #[.int .i64 p3.Az, .int .i64 p3.Alt], .int .i64 mode4] w (fun e w' => ∃ (g : FM), e = .returned (Value.tuple #[.agg (cl_State2 rr1), .int .i64 rr2]) ∧ FM.le f g ∧ St t w' g (H)) := by
 unfold mount_send at h
 refine enter Try.func69 rfl (tm := ⟨[(ag_Mount m1), (ag_State2 s2), .agg #[iV p3.Az, iV p3.Alt], iV mode4] ++ (un 41 [])⟩) kr ?_
 intro B hret hnor hnp
 refine wp_seq_k fun K5 hK6 => rl ?_
 refine seqK rfl (does_box (cs := (cl_Mount m1)) rfl (kv (.agg (cl_Mount m1))) rfl HS ?_)
 intro b7 W8 HS9
 refine seqK rfl (does_box (cs := (cl_State2 s2)) rfl (kv (.agg (cl_State2 s2))) rfl HS9 ?_)
 intro b11 W12 HS13
 refine seqK rfl (does_box (cs := #[.int .i64 p3.Az, .int .i64 p3.Alt]) rfl (kv (.agg #[.int .i64 p3.Az, .int .i64 p3.Alt])) rfl HS13 ?_)
 intro b15 W16 HS17
 refine seqK rfl (does_alloc (z := Value.agg (cm_State2 ⟨0, 0, 0, false⟩ ⟨0, 0, 0, false⟩ 0)) (cs := (cm_State2 ⟨0, 0, 0, false⟩ ⟨0, 0, 0, false⟩ 0)) rfl kr rfl HS17 ?_)
 intro b19 W20 HS21
 refine seqL1 kr ?_
 refine nl (hK6 _ _ ?_)
 refine wp_seq_k fun K23 hK24 => rl ?_
 refine seqL1 kr ?_
 refine seqK rfl (does_run (run_loadN (n := 4) rfl Try.underlying27 rfl kr (kv (pV b7 0)) (cs := (ll_Axis m1.Az)) rfl (HS21.u3.cells 0 4 _ rfl)) ?_)
 refine seqL1 kr ?_
 refine seqK rfl (does_run (run_loadN (n := 4) rfl Try.underlying49 rfl kr (kv (pV b11 0)) (cs := (ll_State s2.Az)) rfl (HS21.u2.cells 0 4 _ rfl)) ?_)
 refine seqL1 kr ?_
 refine seqK rfl (does_run (run_load rfl Try.underlying2 rfl (kv (pV b15 0)) (HS21.u1.cell 0)) ?_)
 replace h := bind_some h; obtain ⟨⟨vt25, vt26⟩, hc27, h⟩ := h
 refine seqK rfl (does_call kr (axis_Send.calls k m1.Az s2.Az p3.Az HS21 vt25 vt26 hc27) ?_)
 rintro _ W30 ⟨f28, rfl, L29, HS31⟩
 refine ⟨_, rfl, ?_⟩
 refine seqL3 kr ?_
 refine seqK rfl (does_alloc (z := Value.agg (cm_State 0 0 0 false)) (cs := (cm_State 0 0 0 false)) rfl kr rfl HS31 ?_)
 intro b32 W33 HS34
 refine seqK rfl (does_storeA (vs := (ll_State vt25)) rfl kr kr kr rfl (ones rfl) HS34 kr ?_)
 intro W36 HS37
 refine seqL1 kr ?_
 refine nl (hK24 _ _ ?_)
 refine wp_seq_k (fun K38 hK39 => ?_)
 refine wp_seq_k fun K40 hK41 => rl ?_
 refine seqL2 kr ?_
 refine nl (hK41 _ _ ?_)
 replace h := ite_some h; rcases h with ⟨c43, h⟩ | ⟨c43, h⟩
 · have c43 : vt26 ≠ 0 := c43
   refine wpRwI 24 kr (bne_iff_ne.mpr c43) ?_
   refine condT kr ?_
   refine wp_seq_k fun K44 hK45 => rl ?_
   have HS46 := HS37.u1
   refine seqL2 kr ?_
   refine seqK rfl (does_storeA (vs := (lm_State2 ⟨0, 0, 0, false⟩ ⟨0, 0, 0, false⟩ 0)) rfl kr kr kr rfl (ones rfl) HS46 kr ?_)
   intro W47 HS48
   refine seqL1 kr ?_
   refine nl (hK45 _ _ ?_)
   refine wp_ret ?_
   refine hret _ _ ?_
   refine ends (v := Value.tuple #[.agg (cm_State2 ⟨0, 0, 0, false⟩ ⟨0, 0, 0, false⟩ 0), .int .i64 vt26]) (results2 (q1 := .cell 8 51) (q2 := .tmp 9) kr (resN (n := 9) (cs := (lm_State2 ⟨0, 0, 0, false⟩ ⟨0, 0, 0, false⟩ 0)) (kv (pV b19 0)) Try.underlying51 rfl kr rfl (HS48.cells 0 9 _ rfl)) (resT (kv (.int .i64 vt26)))) kr ?_
   have HS80 := HS48.drop
   have HS81 := HS80.drop
   have HS82 := HS81.drop
   have HS83 := HS82.drop
   have HS84 := HS83.drop
   injection h with h
   injection h with h0_ h
   subst h0_ h
   exact ⟨f28, rfl, L29, HS84⟩
 have c43 : ¬ (vt26 ≠ 0) := c43
 refine wpRwI 24 (x := (vt26 != 0)) (v := false) kr (bne_eq_false_iff_eq.mpr (Decidable.of_not_not c43)) ?_
 refine condF kr ?_
 refine wp_skip ?_
 refine hK39 _ _ ?_
 refine wp_seq_k fun K49 hK50 => rl ?_
 refine seqL1 kr ?_
 refine seqK rfl (does_run (run_loadN (n := 4) rfl Try.underlying27 rfl kr (kv (pV b7 4)) (cs := (ll_Axis m1.Alt)) rfl (HS37.u4.cells 4 4 _ rfl)) ?_)
 refine seqL1 kr ?_
 refine seqK rfl (does_run (run_loadN (n := 4) rfl Try.underlying49 rfl kr (kv (pV b11 4)) (cs := (ll_State s2.Alt)) rfl (HS37.u3.cells 4 4 _ rfl)) ?_)
 refine seqL1 kr ?_
 refine seqK rfl (does_run (run_load rfl Try.underlying2 rfl (kv (pV b15 1)) (HS37.u2.cell 1)) ?_)
 replace h := bind_some h; obtain ⟨⟨vt51, vt52⟩, hc53, h⟩ := h
 refine seqK rfl (does_call kr (axis_Send.calls k m1.Alt s2.Alt p3.Alt HS37 vt51 vt52 hc53) ?_)
 rintro _ W56 ⟨f54, rfl, L55, HS57⟩
 refine ⟨_, rfl, ?_⟩
 refine seqL3 kr ?_
 refine seqK rfl (does_alloc (z := Value.agg (cm_State 0 0 0 false)) (cs := (cm_State 0 0 0 false)) rfl kr rfl HS57 ?_)
 intro b58 W59 HS60
 refine seqK rfl (does_storeA (vs := (ll_State vt51)) rfl kr kr kr rfl (ones rfl) HS60 kr ?_)
 intro W62 HS63
 refine seqL1 kr ?_
 refine nl (hK50 _ _ ?_)
 refine wp_seq_k (fun K64 hK65 => ?_)
 refine wp_seq_k fun K66 hK67 => rl ?_
 refine seqL2 kr ?_
 refine nl (hK67 _ _ ?_)
 replace h := ite_some h; rcases h with ⟨c69, h⟩ | ⟨c69, h⟩
 · have c69 : vt52 ≠ 0 := c69
   refine wpRwI 38 kr (bne_iff_ne.mpr c69) ?_
   refine condT kr ?_
   refine wp_seq_k fun K70 hK71 => rl ?_
   have HS72 := HS63.u2
   refine seqL2 kr ?_
   refine seqK rfl (does_storeA (vs := (lm_State2 ⟨0, 0, 0, false⟩ ⟨0, 0, 0, false⟩ 0)) rfl kr kr kr rfl (ones rfl) HS72 kr ?_)
   intro W73 HS74
   refine seqL1 kr ?_
   refine nl (hK71 _ _ ?_)
   refine wp_ret ?_
   refine hret _ _ ?_
   refine ends (v := Value.tuple #[.agg (cm_State2 ⟨0, 0, 0, false⟩ ⟨0, 0, 0, false⟩ 0), .int .i64 vt52]) (results2 (q1 := .cell 8 51) (q2 := .tmp 9) kr (resN (n := 9) (cs := (lm_State2 ⟨0, 0, 0, false⟩ ⟨0, 0, 0, false⟩ 0)) (kv (pV b19 0)) Try.underlying51 rfl kr rfl (HS74.cells 0 9 _ rfl)) (resT (kv (.int .i64 vt52)))) kr ?_
   have HS85 := HS74.drop
   have HS86 := HS85.drop
   have HS87 := HS86.drop
   have HS88 := HS87.drop
   have HS89 := HS88.drop
   have HS90 := HS89.drop
   injection h with h
   injection h with h0_ h
   subst h0_ h
   exact ⟨f54, rfl, (L29.trans L55), HS90⟩
 have c69 : ¬ (vt52 ≠ 0) := c69
 refine wpRwI 38 (x := (vt52 != 0)) (v := false) kr (bne_eq_false_iff_eq.mpr (Decidable.of_not_not c69)) ?_
 refine condF kr ?_
 refine wp_skip ?_
 refine hK65 _ _ ?_
 refine wp_seq_k fun K75 hK76 => rl ?_
 refine seqK rfl (does_run (run_loadN (n := 4) rfl Try.underlying49 rfl kr (kv (pV b32 0)) (cs := (ll_State vt25)) rfl (HS63.u1.cells 0 4 _ rfl)) ?_)
 refine seqK rfl (does_run (run_loadN (n := 4) rfl Try.underlying49 rfl kr (kv (pV b58 0)) (cs := (ll_State vt51)) rfl (HS63.cells 0 4 _ rfl)) ?_)
 have HS77 := HS63.u2
 refine seqL2 kr ?_
 refine seqK rfl (does_storeA (vs := (lm_State2 vt25 vt51 mode4)) rfl kr kr kr rfl (ones rfl) HS77 kr ?_)
 intro W78 HS79
 refine seqL1 kr ?_
 refine nl (hK76 _ _ ?_)
 refine wp_ret ?_
 refine hret _ _ ?_
 refine ends (v := Value.tuple #[.agg (cm_State2 vt25 vt51 mode4), .int .i64 0]) (results2 (q1 := .cell 8 51) (q2 := .tmp 9) kr (resN (n := 9) (cs := (lm_State2 vt25 vt51 mode4)) (kv (pV b19 0)) Try.underlying51 rfl kr rfl (HS79.cells 0 9 _ rfl)) (resT (kv (.int .i64 0)))) kr ?_
 have HS91 := HS79.drop
 have HS92 := HS91.drop
 have HS93 := HS92.drop
 have HS94 := HS93.drop
 have HS95 := HS94.drop
 have HS96 := HS95.drop
 injection h with h
 injection h with h0_ h
 subst h0_ h
 exact ⟨f54, rfl, (L29.trans L55), HS96⟩

set_option maxRecDepth 100000 in
set_option maxHeartbeats 4000000 in
theorem mount_Goto.calls (k : Nat)  (m1 : S_Mount) (s2 : S_State2) (p3 : S_Pose) {t w : World} {f : FM} {H : List Seg} (HS : St t w f (H)) (rr1 : S_State2) (rr2 : Int) (h : mount_Goto k m1 s2 p3 = some (rr1, rr2)) :
    Calls Try.prog 51 #[.agg (cl_Mount m1), .agg (cl_State2 s2), .agg #[.int .i64 p3.Az, .int .i64 p3.Alt]] w (fun e w' => ∃ (g : FM), e = .returned (Value.tuple #[.agg (cl_State2 rr1), .int .i64 rr2]) ∧ FM.le f g ∧ St t w' g (H)) := by
 unfold mount_Goto at h
 refine enter Try.func51 rfl (tm := ⟨[(ag_Mount m1), (ag_State2 s2), .agg #[iV p3.Az, iV p3.Alt]] ++ (un 23 [])⟩) kr ?_
 intro B hret hnor hnp
 refine wp_seq_k fun K4 hK5 => rl ?_
 refine seqK rfl (does_box (cs := (cl_Mount m1)) rfl (kv (.agg (cl_Mount m1))) rfl HS ?_)
 intro b6 W7 HS8
 refine seqK rfl (does_box (cs := (cl_State2 s2)) rfl (kv (.agg (cl_State2 s2))) rfl HS8 ?_)
 intro b10 W11 HS12
 refine seqK rfl (does_box (cs := #[.int .i64 p3.Az, .int .i64 p3.Alt]) rfl (kv (.agg #[.int .i64 p3.Az, .int .i64 p3.Alt])) rfl HS12 ?_)
 intro b14 W15 HS16
 refine seqK rfl (does_alloc (z := Value.agg (cm_State2 ⟨0, 0, 0, false⟩ ⟨0, 0, 0, false⟩ 0)) (cs := (cm_State2 ⟨0, 0, 0, false⟩ ⟨0, 0, 0, false⟩ 0)) rfl kr rfl HS16 ?_)
 intro b18 W19 HS20
 refine seqL1 kr ?_
 refine nl (hK5 _ _ ?_)
 refine wp_seq_k (fun K22 hK23 => ?_)
 refine wp_seq_k fun K24 hK25 => rl ?_
 refine seqK rfl (does_run (run_loadN (n := 10) rfl Try.underlying31 rfl kr (kv (pV b6 0)) (cs := (ll_Mount m1)) rfl (HS20.u3.cells 0 10 _ rfl)) ?_)
 refine seqK rfl (does_run (run_loadN (n := 9) rfl Try.underlying51 rfl kr (kv (pV b10 0)) (cs := (ll_State2 s2)) rfl (HS20.u2.cells 0 9 _ rfl)) ?_)
 replace h := bind_some h; obtain ⟨vt26, hc27, h⟩ := h
 refine seqK rfl (does_call kr (mount_Check.calls k m1 s2 HS20 vt26 hc27) ?_)
 rintro _ W30 ⟨f28, rfl, L29, HS31⟩
 refine ⟨_, rfl, ?_⟩
 refine seqL1 kr ?_
 refine nl (hK25 _ _ ?_)
 refine wp_seq_k fun K32 hK33 => rl ?_
 refine seqL2 kr ?_
 refine nl (hK33 _ _ ?_)
 replace h := ite_some h; rcases h with ⟨c35, h⟩ | ⟨c35, h⟩
 · have c35 : vt26 ≠ 0 := c35
   refine wpRwI 13 kr (bne_iff_ne.mpr c35) ?_
   refine condT kr ?_
   refine wp_seq_k (fun K36 hK37 => ?_)
   exact nomatch h
 have c35 : ¬ (vt26 ≠ 0) := c35
 refine wpRwI 13 (x := (vt26 != 0)) (v := false) kr (bne_eq_false_iff_eq.mpr (Decidable.of_not_not c35)) ?_
 refine condF kr ?_
 refine wp_skip ?_
 refine hK23 _ _ ?_
 refine wp_seq_k (fun K38 hK39 => ?_)
 refine wp_seq_k fun K40 hK41 => rl ?_
 refine seqL1 kr ?_
 refine seqK rfl (does_run (run_load rfl Try.underlying3 rfl (kv (pV b10 8)) (HS31.u2.cell 8)) ?_)
 refine seqL1 kr ?_
 refine nl (hK41 _ _ ?_)
 replace h := ite_some h; rcases h with ⟨c43, h⟩ | ⟨c43, h⟩
 · have c43 : s2.Mode = 5 := c43
   refine wpRwI 18 kr (beq_iff_eq.mpr c43) ?_
   refine condT kr ?_
   refine wp_seq_k fun K44 hK45 => rl ?_
   refine seqL1 kr ?_
   refine seqK rfl (does_storeA (vs := (lm_State2 ⟨0, 0, 0, false⟩ ⟨0, 0, 0, false⟩ 0)) rfl kr kr kr rfl (ones rfl) HS31 kr ?_)
   intro W46 HS47
   refine seqL1 kr ?_
   refine nl (hK45 _ _ ?_)
   refine wp_ret ?_
   refine hret _ _ ?_
   refine ends (v := Value.tuple #[.agg (cm_State2 ⟨0, 0, 0, false⟩ ⟨0, 0, 0, false⟩ 0), .int .i64 10]) (results2 (q1 := .cell 6 51) (q2 := .tmp 7) kr (resN (n := 9) (cs := (lm_State2 ⟨0, 0, 0, false⟩ ⟨0, 0, 0, false⟩ 0)) (kv (pV b18 0)) Try.underlying51 rfl kr rfl (HS47.cells 0 9 _ rfl)) (resT (kv (.int .i64 10)))) kr ?_
   have HS59 := HS47.drop
   have HS60 := HS59.drop
   have HS61 := HS60.drop
   have HS62 := HS61.drop
   injection h with h
   injection h with h0_ h
   subst h0_ h
   exact ⟨f28, rfl, L29, HS62⟩
 have c43 : ¬ (s2.Mode = 5) := c43
 refine wpRwI 18 kr (beq_eq_false_iff_ne.mpr c43) ?_
 refine condF kr ?_
 refine wp_skip ?_
 refine hK39 _ _ ?_
 refine wp_seq_k fun K48 hK49 => rl ?_
 refine seqK rfl (does_run (run_loadN (n := 10) rfl Try.underlying31 rfl kr (kv (pV b6 0)) (cs := (ll_Mount m1)) rfl (HS31.u3.cells 0 10 _ rfl)) ?_)
 refine seqK rfl (does_run (run_loadN (n := 9) rfl Try.underlying51 rfl kr (kv (pV b10 0)) (cs := (ll_State2 s2)) rfl (HS31.u2.cells 0 9 _ rfl)) ?_)
 refine seqK rfl (does_run (run_loadN (n := 2) rfl Try.underlying29 rfl kr (kv (pV b14 0)) (cs := [.int .i64 p3.Az, .int .i64 p3.Alt]) rfl (HS31.u1.cells 0 2 _ rfl)) ?_)
 replace h := bind_some h; obtain ⟨⟨vt50, vt51⟩, hc52, h⟩ := h
 refine seqK rfl (does_call kr (mount_send.calls k m1 s2 p3 2 HS31 vt50 vt51 hc52) ?_)
 rintro _ W55 ⟨f53, rfl, L54, HS56⟩
 refine ⟨_, rfl, ?_⟩
 refine seqL2 kr ?_
 refine seqK rfl (does_storeA (vs := (ll_State2 vt50)) rfl kr kr kr rfl (ones rfl) HS56 kr ?_)
 intro W57 HS58
 refine seqL1 kr ?_
 refine nl (hK49 _ _ ?_)
 refine wp_ret ?_
 refine hret _ _ ?_
 refine ends (v := Value.tuple #[.agg (cl_State2 vt50), .int .i64 vt51]) (results2 (q1 := .cell 6 51) (q2 := .tmp 7) kr (resN (n := 9) (cs := (ll_State2 vt50)) (kv (pV b18 0)) Try.underlying51 rfl kr rfl (HS58.cells 0 9 _ rfl)) (resT (kv (.int .i64 vt51)))) kr ?_
 have HS63 := HS58.drop
 have HS64 := HS63.drop
 have HS65 := HS64.drop
 have HS66 := HS65.drop
 injection h with h
 injection h with h0_ h
 subst h0_ h
 exact ⟨f53, rfl, (L29.trans L54), HS66⟩

set_option maxRecDepth 100000 in
set_option maxHeartbeats 4000000 in
theorem mount_far.calls (k : Nat)  (a1 : Int) (b2 : Int) {t w : World} {f : FM} {H : List Seg} (HS : St t w f (H)) (rr1 : Bool) (h : mount_far k a1 b2 = some rr1) :
    Calls Try.prog 70 #[.int .i64 a1, .int .i64 b2] w (fun e w' => ∃ (g : FM), e = .returned (Value.bool rr1) ∧ FM.le f g ∧ St t w' g (H)) := by
 unfold mount_far at h
 refine enter Try.func70 rfl (tm := ⟨[iV a1, iV b2] ++ (un 13 [])⟩) kr ?_
 intro B hret hnor hnp
 refine wp_seq_k fun K3 hK4 => rl ?_
 refine seqL1 kr ?_
 refine nl (hK4 _ _ ?_)
 refine wp_seq_k fun K5 hK6 => rl ?_
 refine seqL5 kr ?_
 replace h := ite_some h; rcases h with ⟨c8, h⟩ | ⟨c8, h⟩
 · have c8 : a1 > (w64 (b2 + 67108864)) := c8
   refine seqRwI 8 kr (decide_eq_true c8) ?_
   refine seqRwI 9 kr (decide_eq_true c8) ?_
   refine seqL6 kr ?_
   refine nl (hK6 _ _ ?_)
   refine wp_ret ?_
   refine hret _ _ ?_
   refine ends_still (v := Value.bool true) kr kr ?_
   injection h with h
   subst h
   exact ⟨f, rfl, FM.le.refl _, HS⟩
 have c8 : ¬ (a1 > (w64 (b2 + 67108864))) := c8
 refine seqRwI 8 kr (decide_eq_false c8) ?_
 refine seqRwI 9 kr (decide_eq_false c8) ?_
 refine seqL6 kr ?_
 refine nl (hK6 _ _ ?_)
 refine wp_ret ?_
 refine hret _ _ ?_
 refine ends_still (v := Value.bool (decide (a1 < (w64 (b2 - 67108864))))) kr kr ?_
 injection h with h
 subst h
 exact ⟨f, rfl, FM.le.refl _, HS⟩

set_option maxRecDepth 100000 in
set_option maxHeartbeats 4000000 in
theorem mount_Follow.calls (k : Nat)  (m1 : S_Mount) (s2 : S_State2) (p3 : S_Pose) {t w : World} {f : FM} {H : List Seg} (HS : St t w f (H)) (rr1 : S_State2) (rr2 : Int) (h : mount_Follow k m1 s2 p3 = some (rr1, rr2)) :
    Calls Try.prog 52 #[.agg (cl_Mount m1), .agg (cl_State2 s2), .agg #[.int .i64 p3.Az, .int .i64 p3.Alt]] w (fun e w' => ∃ (g : FM), e = .returned (Value.tuple #[.agg (cl_State2 rr1), .int .i64 rr2]) ∧ FM.le f g ∧ St t w' g (H)) := by
 unfold mount_Follow at h
 refine enter Try.func52 rfl (tm := ⟨[(ag_Mount m1), (ag_State2 s2), .agg #[iV p3.Az, iV p3.Alt]] ++ (un 38 [])⟩) kr ?_
 intro B hret hnor hnp
 refine wp_seq_k fun K4 hK5 => rl ?_
 refine seqK rfl (does_box (cs := (cl_Mount m1)) rfl (kv (.agg (cl_Mount m1))) rfl HS ?_)
 intro b6 W7 HS8
 refine seqK rfl (does_box (cs := (cl_State2 s2)) rfl (kv (.agg (cl_State2 s2))) rfl HS8 ?_)
 intro b10 W11 HS12
 refine seqK rfl (does_box (cs := #[.int .i64 p3.Az, .int .i64 p3.Alt]) rfl (kv (.agg #[.int .i64 p3.Az, .int .i64 p3.Alt])) rfl HS12 ?_)
 intro b14 W15 HS16
 refine seqK rfl (does_alloc (z := Value.agg (cm_State2 ⟨0, 0, 0, false⟩ ⟨0, 0, 0, false⟩ 0)) (cs := (cm_State2 ⟨0, 0, 0, false⟩ ⟨0, 0, 0, false⟩ 0)) rfl kr rfl HS16 ?_)
 intro b18 W19 HS20
 refine seqL1 kr ?_
 refine nl (hK5 _ _ ?_)
 refine wp_seq_k (fun K22 hK23 => ?_)
 refine wp_seq_k fun K24 hK25 => rl ?_
 refine seqK rfl (does_run (run_loadN (n := 10) rfl Try.underlying31 rfl kr (kv (pV b6 0)) (cs := (ll_Mount m1)) rfl (HS20.u3.cells 0 10 _ rfl)) ?_)
 refine seqK rfl (does_run (run_loadN (n := 9) rfl Try.underlying51 rfl kr (kv (pV b10 0)) (cs := (ll_State2 s2)) rfl (HS20.u2.cells 0 9 _ rfl)) ?_)
 replace h := bind_some h; obtain ⟨vt26, hc27, h⟩ := h
 refine seqK rfl (does_call kr (mount_Check.calls k m1 s2 HS20 vt26 hc27) ?_)
 rintro _ W30 ⟨f28, rfl, L29, HS31⟩
 refine ⟨_, rfl, ?_⟩
 refine seqL1 kr ?_
 refine nl (hK25 _ _ ?_)
 refine wp_seq_k fun K32 hK33 => rl ?_
 refine seqL2 kr ?_
 refine nl (hK33 _ _ ?_)
 replace h := ite_some h; rcases h with ⟨c35, h⟩ | ⟨c35, h⟩
 · have c35 : vt26 ≠ 0 := c35
   refine wpRwI 13 kr (bne_iff_ne.mpr c35) ?_
   refine condT kr ?_
   refine wp_seq_k (fun K36 hK37 => ?_)
   exact nomatch h
 have c35 : ¬ (vt26 ≠ 0) := c35
 refine wpRwI 13 (x := (vt26 != 0)) (v := false) kr (bne_eq_false_iff_eq.mpr (Decidable.of_not_not c35)) ?_
 refine condF kr ?_
 refine wp_skip ?_
 refine hK23 _ _ ?_
 refine wp_seq_k (fun K38 hK39 => ?_)
 refine wp_seq_k fun K40 hK41 => rl ?_
 refine seqL1 kr ?_
 refine seqK rfl (does_run (run_load rfl Try.underlying3 rfl (kv (pV b10 8)) (HS31.u2.cell 8)) ?_)
 refine seqL1 kr ?_
 refine nl (hK41 _ _ ?_)
 replace h := ite_some h; rcases h with ⟨c43, h⟩ | ⟨c43, h⟩
 · have c43 : s2.Mode ≠ 3 := c43
   refine wpRwI 18 kr (bne_iff_ne.mpr c43) ?_
   refine condT kr ?_
   refine wp_seq_k fun K44 hK45 => rl ?_
   refine seqL1 kr ?_
   refine seqK rfl (does_storeA (vs := (lm_State2 ⟨0, 0, 0, false⟩ ⟨0, 0, 0, false⟩ 0)) rfl kr kr kr rfl (ones rfl) HS31 kr ?_)
   intro W46 HS47
   refine seqL1 kr ?_
   refine nl (hK45 _ _ ?_)
   refine wp_ret ?_
   refine hret _ _ ?_
   refine ends (v := Value.tuple #[.agg (cm_State2 ⟨0, 0, 0, false⟩ ⟨0, 0, 0, false⟩ 0), .int .i64 10]) (results2 (q1 := .cell 6 51) (q2 := .tmp 7) kr (resN (n := 9) (cs := (lm_State2 ⟨0, 0, 0, false⟩ ⟨0, 0, 0, false⟩ 0)) (kv (pV b18 0)) Try.underlying51 rfl kr rfl (HS47.cells 0 9 _ rfl)) (resT (kv (.int .i64 10)))) kr ?_
   have HS87 := HS47.drop
   have HS88 := HS87.drop
   have HS89 := HS88.drop
   have HS90 := HS89.drop
   injection h with h
   injection h with h0_ h
   subst h0_ h
   exact ⟨f28, rfl, L29, HS90⟩
 have c43 : ¬ (s2.Mode ≠ 3) := c43
 refine wpRwI 18 (x := (s2.Mode != 3)) (v := false) kr (bne_eq_false_iff_eq.mpr (Decidable.of_not_not c43)) ?_
 refine condF kr ?_
 refine wp_skip ?_
 refine hK39 _ _ ?_
 refine wp_seq_k (fun K48 hK49 => ?_)
 refine wp_seq_k fun K50 hK51 => rl ?_
 refine seqL1 kr ?_
 refine seqK rfl (does_run (run_load rfl Try.underlying2 rfl (kv (pV b14 0)) (HS31.u1.cell 0)) ?_)
 refine seqL2 kr ?_
 refine seqK rfl (does_run (run_load rfl Try.underlying2 rfl (kv (pV b10 2)) (HS31.u2.cell 2)) ?_)
 replace h := bind_some h; obtain ⟨vt53, hc54, h⟩ := h
 refine seqK rfl (does_call kr (mount_far.calls k p3.Az s2.Az.Goal HS31 vt53 hc54) ?_)
 rintro _ W57 ⟨f55, rfl, L56, HS58⟩
 refine ⟨_, rfl, ?_⟩
 refine seqL1 kr ?_
 replace h := ite_some h; rcases h with ⟨c59, h⟩ | ⟨c59, h⟩
 · have c59 : vt53 = true := c59
   refine seqRwI 25 kr c59 ?_
   refine seqRwI 26 kr c59 ?_
   refine seqL7 kr ?_
   refine nl (hK51 _ _ ?_)
   refine condT kr ?_
   refine wp_seq_k fun K66 hK67 => rl ?_
   refine seqL1 kr ?_
   refine seqK rfl (does_storeA (vs := (lm_State2 ⟨0, 0, 0, false⟩ ⟨0, 0, 0, false⟩ 0)) rfl kr kr kr rfl (ones rfl) HS58 kr ?_)
   intro W68 HS69
   refine seqL1 kr ?_
   refine nl (hK67 _ _ ?_)
   refine wp_ret ?_
   refine hret _ _ ?_
   refine ends (v := Value.tuple #[.agg (cm_State2 ⟨0, 0, 0, false⟩ ⟨0, 0, 0, false⟩ 0), .int .i64 16]) (results2 (q1 := .cell 6 51) (q2 := .tmp 7) kr (resN (n := 9) (cs := (lm_State2 ⟨0, 0, 0, false⟩ ⟨0, 0, 0, false⟩ 0)) (kv (pV b18 0)) Try.underlying51 rfl kr rfl (HS69.cells 0 9 _ rfl)) (resT (kv (.int .i64 16)))) kr ?_
   have HS91 := HS69.drop
   have HS92 := HS91.drop
   have HS93 := HS92.drop
   have HS94 := HS93.drop
   injection h with h
   injection h with h0_ h
   subst h0_ h
   exact ⟨f55, rfl, (L29.trans L56), HS94⟩
 have c59 : ¬ (vt53 = true) := c59
 refine seqRwI 25 kr (Bool.eq_false_iff.mpr c59) ?_
 refine seqRwI 26 kr (Bool.eq_false_iff.mpr c59) ?_
 refine seqL1 kr ?_
 refine seqG kr (does_run (run_load rfl Try.underlying2 rfl (kv (pV b14 1)) (HS58.u1.cell 1)) ?_)
 refine seqL2 kr ?_
 refine seqG kr (does_run (run_load rfl Try.underlying2 rfl (kv (pV b10 6)) (HS58.u2.cell 6)) ?_)
 replace h := bind_some h; obtain ⟨vt60, hc61, h⟩ := h
 refine seqG kr (does_call kr (mount_far.calls k p3.Alt s2.Alt.Goal HS58 vt60 hc61) ?_)
 rintro _ W64 ⟨f62, rfl, L63, HS65⟩
 refine ⟨_, rfl, ?_⟩
 refine seqL1 kr ?_
 refine nl (hK51 _ _ ?_)
 replace h := ite_some h; rcases h with ⟨c71, h⟩ | ⟨c71, h⟩
 · have c71 : vt60 = true := c71
   refine wpRwI 32 kr c71 ?_
   refine wpRwI 33 kr c71 ?_
   refine condT kr ?_
   refine wp_seq_k fun K72 hK73 => rl ?_
   refine seqL1 kr ?_
   refine seqK rfl (does_storeA (vs := (lm_State2 ⟨0, 0, 0, false⟩ ⟨0, 0, 0, false⟩ 0)) rfl kr kr kr rfl (ones rfl) HS65 kr ?_)
   intro W74 HS75
   refine seqL1 kr ?_
   refine nl (hK73 _ _ ?_)
   refine wp_ret ?_
   refine hret _ _ ?_
   refine ends (v := Value.tuple #[.agg (cm_State2 ⟨0, 0, 0, false⟩ ⟨0, 0, 0, false⟩ 0), .int .i64 16]) (results2 (q1 := .cell 6 51) (q2 := .tmp 7) kr (resN (n := 9) (cs := (lm_State2 ⟨0, 0, 0, false⟩ ⟨0, 0, 0, false⟩ 0)) (kv (pV b18 0)) Try.underlying51 rfl kr rfl (HS75.cells 0 9 _ rfl)) (resT (kv (.int .i64 16)))) kr ?_
   have HS95 := HS75.drop
   have HS96 := HS95.drop
   have HS97 := HS96.drop
   have HS98 := HS97.drop
   injection h with h
   injection h with h0_ h
   subst h0_ h
   exact ⟨f62, rfl, (L29.trans (L56.trans L63)), HS98⟩
 have c71 : ¬ (vt60 = true) := c71
 refine wpRwI 32 kr (Bool.eq_false_iff.mpr c71) ?_
 refine wpRwI 33 kr (Bool.eq_false_iff.mpr c71) ?_
 refine condF kr ?_
 refine wp_skip ?_
 refine hK49 _ _ ?_
 refine wp_seq_k fun K76 hK77 => rl ?_
 refine seqK rfl (does_run (run_loadN (n := 10) rfl Try.underlying31 rfl kr (kv (pV b6 0)) (cs := (ll_Mount m1)) rfl (HS65.u3.cells 0 10 _ rfl)) ?_)
 refine seqK rfl (does_run (run_loadN (n := 9) rfl Try.underlying51 rfl kr (kv (pV b10 0)) (cs := (ll_State2 s2)) rfl (HS65.u2.cells 0 9 _ rfl)) ?_)
 refine seqK rfl (does_run (run_loadN (n := 2) rfl Try.underlying29 rfl kr (kv (pV b14 0)) (cs := [.int .i64 p3.Az, .int .i64 p3.Alt]) rfl (HS65.u1.cells 0 2 _ rfl)) ?_)
 replace h := bind_some h; obtain ⟨⟨vt78, vt79⟩, hc80, h⟩ := h
 refine seqK rfl (does_call kr (mount_send.calls k m1 s2 p3 3 HS65 vt78 vt79 hc80) ?_)
 rintro _ W83 ⟨f81, rfl, L82, HS84⟩
 refine ⟨_, rfl, ?_⟩
 refine seqL2 kr ?_
 refine seqK rfl (does_storeA (vs := (ll_State2 vt78)) rfl kr kr kr rfl (ones rfl) HS84 kr ?_)
 intro W85 HS86
 refine seqL1 kr ?_
 refine nl (hK77 _ _ ?_)
 refine wp_ret ?_
 refine hret _ _ ?_
 refine ends (v := Value.tuple #[.agg (cl_State2 vt78), .int .i64 vt79]) (results2 (q1 := .cell 6 51) (q2 := .tmp 7) kr (resN (n := 9) (cs := (ll_State2 vt78)) (kv (pV b18 0)) Try.underlying51 rfl kr rfl (HS86.cells 0 9 _ rfl)) (resT (kv (.int .i64 vt79)))) kr ?_
 have HS99 := HS86.drop
 have HS100 := HS99.drop
 have HS101 := HS100.drop
 have HS102 := HS101.drop
 injection h with h
 injection h with h0_ h
 subst h0_ h
 exact ⟨f81, rfl, (L29.trans (L56.trans (L63.trans L82))), HS102⟩

set_option maxRecDepth 100000 in
set_option maxHeartbeats 4000000 in
theorem mount_Park.calls (k : Nat)  (m1 : S_Mount) (s2 : S_State2) {t w : World} {f : FM} {H : List Seg} (HS : St t w f (H)) (rr1 : S_State2) (rr2 : Int) (h : mount_Park k m1 s2 = some (rr1, rr2)) :
    Calls Try.prog 53 #[.agg (cl_Mount m1), .agg (cl_State2 s2)] w (fun e w' => ∃ (g : FM), e = .returned (Value.tuple #[.agg (cl_State2 rr1), .int .i64 rr2]) ∧ FM.le f g ∧ St t w' g (H)) := by
 unfold mount_Park at h
 refine enter Try.func53 rfl (tm := ⟨[(ag_Mount m1), (ag_State2 s2)] ++ (un 23 [])⟩) kr ?_
 intro B hret hnor hnp
 refine wp_seq_k fun K3 hK4 => rl ?_
 refine seqK rfl (does_box (cs := (cl_Mount m1)) rfl (kv (.agg (cl_Mount m1))) rfl HS ?_)
 intro b5 W6 HS7
 refine seqK rfl (does_box (cs := (cl_State2 s2)) rfl (kv (.agg (cl_State2 s2))) rfl HS7 ?_)
 intro b9 W10 HS11
 refine seqK rfl (does_alloc (z := Value.agg (cm_State2 ⟨0, 0, 0, false⟩ ⟨0, 0, 0, false⟩ 0)) (cs := (cm_State2 ⟨0, 0, 0, false⟩ ⟨0, 0, 0, false⟩ 0)) rfl kr rfl HS11 ?_)
 intro b13 W14 HS15
 refine seqL1 kr ?_
 refine nl (hK4 _ _ ?_)
 refine wp_seq_k (fun K17 hK18 => ?_)
 refine wp_seq_k fun K19 hK20 => rl ?_
 refine seqK rfl (does_run (run_loadN (n := 10) rfl Try.underlying31 rfl kr (kv (pV b5 0)) (cs := (ll_Mount m1)) rfl (HS15.u2.cells 0 10 _ rfl)) ?_)
 refine seqK rfl (does_run (run_loadN (n := 9) rfl Try.underlying51 rfl kr (kv (pV b9 0)) (cs := (ll_State2 s2)) rfl (HS15.u1.cells 0 9 _ rfl)) ?_)
 replace h := bind_some h; obtain ⟨vt21, hc22, h⟩ := h
 refine seqK rfl (does_call kr (mount_Check.calls k m1 s2 HS15 vt21 hc22) ?_)
 rintro _ W25 ⟨f23, rfl, L24, HS26⟩
 refine ⟨_, rfl, ?_⟩
 refine seqL1 kr ?_
 refine nl (hK20 _ _ ?_)
 refine wp_seq_k fun K27 hK28 => rl ?_
 refine seqL2 kr ?_
 refine nl (hK28 _ _ ?_)
 replace h := ite_some h; rcases h with ⟨c30, h⟩ | ⟨c30, h⟩
 · have c30 : vt21 ≠ 0 := c30
   refine wpRwI 11 kr (bne_iff_ne.mpr c30) ?_
   refine condT kr ?_
   refine wp_seq_k (fun K31 hK32 => ?_)
   exact nomatch h
 have c30 : ¬ (vt21 ≠ 0) := c30
 refine wpRwI 11 (x := (vt21 != 0)) (v := false) kr (bne_eq_false_iff_eq.mpr (Decidable.of_not_not c30)) ?_
 refine condF kr ?_
 refine wp_skip ?_
 refine hK18 _ _ ?_
 refine wp_seq_k (fun K33 hK34 => ?_)
 refine wp_seq_k fun K35 hK36 => rl ?_
 refine seqL1 kr ?_
 refine seqK rfl (does_run (run_load rfl Try.underlying3 rfl (kv (pV b9 8)) (HS26.u1.cell 8)) ?_)
 refine seqL1 kr ?_
 refine nl (hK36 _ _ ?_)
 replace h := ite_some h; rcases h with ⟨c38, h⟩ | ⟨c38, h⟩
 · have c38 : s2.Mode = 5 := c38
   refine wpRwI 16 kr (beq_iff_eq.mpr c38) ?_
   refine condT kr ?_
   refine wp_seq_k fun K39 hK40 => rl ?_
   refine seqL1 kr ?_
   refine seqK rfl (does_storeA (vs := (lm_State2 ⟨0, 0, 0, false⟩ ⟨0, 0, 0, false⟩ 0)) rfl kr kr kr rfl (ones rfl) HS26 kr ?_)
   intro W41 HS42
   refine seqL1 kr ?_
   refine nl (hK40 _ _ ?_)
   refine wp_ret ?_
   refine hret _ _ ?_
   refine ends (v := Value.tuple #[.agg (cm_State2 ⟨0, 0, 0, false⟩ ⟨0, 0, 0, false⟩ 0), .int .i64 10]) (results2 (q1 := .cell 4 51) (q2 := .tmp 5) kr (resN (n := 9) (cs := (lm_State2 ⟨0, 0, 0, false⟩ ⟨0, 0, 0, false⟩ 0)) (kv (pV b13 0)) Try.underlying51 rfl kr rfl (HS42.cells 0 9 _ rfl)) (resT (kv (.int .i64 10)))) kr ?_
   have HS54 := HS42.drop
   have HS55 := HS54.drop
   have HS56 := HS55.drop
   injection h with h
   injection h with h0_ h
   subst h0_ h
   exact ⟨f23, rfl, L24, HS56⟩
 have c38 : ¬ (s2.Mode = 5) := c38
 refine wpRwI 16 kr (beq_eq_false_iff_ne.mpr c38) ?_
 refine condF kr ?_
 refine wp_skip ?_
 refine hK34 _ _ ?_
 refine wp_seq_k fun K43 hK44 => rl ?_
 refine seqK rfl (does_run (run_loadN (n := 10) rfl Try.underlying31 rfl kr (kv (pV b5 0)) (cs := (ll_Mount m1)) rfl (HS26.u2.cells 0 10 _ rfl)) ?_)
 refine seqK rfl (does_run (run_loadN (n := 9) rfl Try.underlying51 rfl kr (kv (pV b9 0)) (cs := (ll_State2 s2)) rfl (HS26.u1.cells 0 9 _ rfl)) ?_)
 refine seqL1 kr ?_
 refine seqK rfl (does_run (run_loadN (n := 2) rfl Try.underlying29 rfl kr (kv (pV b5 8)) (cs := [.int .i64 m1.Park.Az, .int .i64 m1.Park.Alt]) rfl (HS26.u2.cells 8 2 _ rfl)) ?_)
 replace h := bind_some h; obtain ⟨⟨vt45, vt46⟩, hc47, h⟩ := h
 refine seqK rfl (does_call kr (mount_send.calls k m1 s2 (⟨m1.Park.Az, m1.Park.Alt⟩ : S_Pose) 4 HS26 vt45 vt46 hc47) ?_)
 rintro _ W50 ⟨f48, rfl, L49, HS51⟩
 refine ⟨_, rfl, ?_⟩
 refine seqL2 kr ?_
 refine seqK rfl (does_storeA (vs := (ll_State2 vt45)) rfl kr kr kr rfl (ones rfl) HS51 kr ?_)
 intro W52 HS53
 refine seqL1 kr ?_
 refine nl (hK44 _ _ ?_)
 refine wp_ret ?_
 refine hret _ _ ?_
 refine ends (v := Value.tuple #[.agg (cl_State2 vt45), .int .i64 vt46]) (results2 (q1 := .cell 4 51) (q2 := .tmp 5) kr (resN (n := 9) (cs := (ll_State2 vt45)) (kv (pV b13 0)) Try.underlying51 rfl kr rfl (HS53.cells 0 9 _ rfl)) (resT (kv (.int .i64 vt46)))) kr ?_
 have HS57 := HS53.drop
 have HS58 := HS57.drop
 have HS59 := HS58.drop
 injection h with h
 injection h with h0_ h
 subst h0_ h
 exact ⟨f48, rfl, (L24.trans L49), HS59⟩

set_option maxRecDepth 100000 in
set_option maxHeartbeats 4000000 in
theorem axis_Brake.calls (k : Nat)  (a1 : S_Axis) (s2 : S_State) {t w : World} {f : FM} {H : List Seg} (HS : St t w f (H)) (rr1 : S_State) (rr2 : Int) (h : axis_Brake k a1 s2 = some (rr1, rr2)) :
    Calls Try.prog 71 #[.agg (cl_Axis a1), .agg (cl_State s2)] w (fun e w' => ∃ (g : FM), e = .returned (Value.tuple #[.agg (cl_State rr1), .int .i64 rr2]) ∧ FM.le f g ∧ St t w' g (H)) := by
 unfold axis_Brake at h
 refine enter Try.func71 rfl (tm := ⟨[(ag_Axis a1), (ag_State s2)] ++ (un 14 [])⟩) kr ?_
 intro B hret hnor hnp
 refine wp_seq_k fun K3 hK4 => rl ?_
 refine seqK rfl (does_box (cs := (cl_Axis a1)) rfl (kv (.agg (cl_Axis a1))) rfl HS ?_)
 intro b5 W6 HS7
 refine seqK rfl (does_box (cs := (cl_State s2)) rfl (kv (.agg (cl_State s2))) rfl HS7 ?_)
 intro b9 W10 HS11
 refine seqK rfl (does_alloc (z := Value.agg (cm_State 0 0 0 false)) (cs := (cm_State 0 0 0 false)) rfl kr rfl HS11 ?_)
 intro b13 W14 HS15
 refine seqL1 kr ?_
 refine nl (hK4 _ _ ?_)
 refine wp_seq_k (fun K17 hK18 => ?_)
 refine wp_seq_k fun K19 hK20 => rl ?_
 refine seqK rfl (does_run (run_loadN (n := 4) rfl Try.underlying27 rfl kr (kv (pV b5 0)) (cs := (ll_Axis a1)) rfl (HS15.u2.cells 0 4 _ rfl)) ?_)
 refine seqK rfl (does_run (run_loadN (n := 4) rfl Try.underlying49 rfl kr (kv (pV b9 0)) (cs := (ll_State s2)) rfl (HS15.u1.cells 0 4 _ rfl)) ?_)
 replace h := bind_some h; obtain ⟨vt21, hc22, h⟩ := h
 refine seqK rfl (does_call kr (axis_Check.calls k a1 s2 HS15 vt21 hc22) ?_)
 rintro _ W25 ⟨f23, rfl, L24, HS26⟩
 refine ⟨_, rfl, ?_⟩
 refine seqL1 kr ?_
 refine nl (hK20 _ _ ?_)
 refine wp_seq_k fun K27 hK28 => rl ?_
 refine seqL2 kr ?_
 refine nl (hK28 _ _ ?_)
 replace h := ite_some h; rcases h with ⟨c30, h⟩ | ⟨c30, h⟩
 · have c30 : vt21 ≠ 0 := c30
   refine wpRwI 11 kr (bne_iff_ne.mpr c30) ?_
   refine condT kr ?_
   refine wp_seq_k (fun K31 hK32 => ?_)
   exact nomatch h
 have c30 : ¬ (vt21 ≠ 0) := c30
 refine wpRwI 11 (x := (vt21 != 0)) (v := false) kr (bne_eq_false_iff_eq.mpr (Decidable.of_not_not c30)) ?_
 refine condF kr ?_
 refine wp_skip ?_
 refine hK18 _ _ ?_
 refine wp_seq_k fun K33 hK34 => rl ?_
 have HS35 := HS26.u1
 refine seqL1 kr ?_
 refine seqK rfl (does_store (n := 1) (vs := [.bool true]) (cs' := (cm_State s2.At s2.Speed s2.Goal true)) rfl kr (kv (pV b9 3)) (kv (.bool true)) rfl rfl (ones rfl) HS35 (Nat.le_of_ble_eq_true rfl) kr ?_)
 intro W36 HS37
 refine nl (hK34 _ _ ?_)
 refine wp_seq_k fun K38 hK39 => rl ?_
 refine seqK rfl (does_run (run_loadN (n := 4) rfl Try.underlying49 rfl kr (kv (pV b9 0)) (cs := (lm_State s2.At s2.Speed s2.Goal true)) rfl (HS37.cells 0 4 _ rfl)) ?_)
 have HS40 := HS37.u1
 refine seqK rfl (does_storeA (vs := (lm_State s2.At s2.Speed s2.Goal true)) rfl kr kr kr rfl (ones rfl) HS40 kr ?_)
 intro W41 HS42
 refine seqL1 kr ?_
 refine nl (hK39 _ _ ?_)
 refine wp_ret ?_
 refine hret _ _ ?_
 refine ends (v := Value.tuple #[.agg (cm_State s2.At s2.Speed s2.Goal true), .int .i64 0]) (results2 (q1 := .cell 4 49) (q2 := .tmp 5) kr (resN (n := 4) (cs := (lm_State s2.At s2.Speed s2.Goal true)) (kv (pV b13 0)) Try.underlying49 rfl kr rfl (HS42.cells 0 4 _ rfl)) (resT (kv (.int .i64 0)))) kr ?_
 have HS43 := HS42.drop
 have HS44 := HS43.drop
 have HS45 := HS44.drop
 injection h with h
 injection h with h0_ h
 subst h0_ h
 exact ⟨f23, rfl, L24, HS45⟩

set_option maxRecDepth 100000 in
set_option maxHeartbeats 4000000 in
theorem mount_Stop.calls (k : Nat)  (m1 : S_Mount) (s2 : S_State2) {t w : World} {f : FM} {H : List Seg} (HS : St t w f (H)) (rr1 : S_State2) (rr2 : Int) (h : mount_Stop k m1 s2 = some (rr1, rr2)) :
    Calls Try.prog 54 #[.agg (cl_Mount m1), .agg (cl_State2 s2)] w (fun e w' => ∃ (g : FM), e = .returned (Value.tuple #[.agg (cl_State2 rr1), .int .i64 rr2]) ∧ FM.le f g ∧ St t w' g (H)) := by
 unfold mount_Stop at h
 refine enter Try.func54 rfl (tm := ⟨[(ag_Mount m1), (ag_State2 s2)] ++ (un 39 [])⟩) kr ?_
 intro B hret hnor hnp
 refine wp_seq_k fun K3 hK4 => rl ?_
 refine seqK rfl (does_box (cs := (cl_Mount m1)) rfl (kv (.agg (cl_Mount m1))) rfl HS ?_)
 intro b5 W6 HS7
 refine seqK rfl (does_box (cs := (cl_State2 s2)) rfl (kv (.agg (cl_State2 s2))) rfl HS7 ?_)
 intro b9 W10 HS11
 refine seqK rfl (does_alloc (z := Value.agg (cm_State2 ⟨0, 0, 0, false⟩ ⟨0, 0, 0, false⟩ 0)) (cs := (cm_State2 ⟨0, 0, 0, false⟩ ⟨0, 0, 0, false⟩ 0)) rfl kr rfl HS11 ?_)
 intro b13 W14 HS15
 refine seqL1 kr ?_
 refine nl (hK4 _ _ ?_)
 refine wp_seq_k (fun K17 hK18 => ?_)
 refine wp_seq_k fun K19 hK20 => rl ?_
 refine seqK rfl (does_run (run_loadN (n := 10) rfl Try.underlying31 rfl kr (kv (pV b5 0)) (cs := (ll_Mount m1)) rfl (HS15.u2.cells 0 10 _ rfl)) ?_)
 refine seqK rfl (does_run (run_loadN (n := 9) rfl Try.underlying51 rfl kr (kv (pV b9 0)) (cs := (ll_State2 s2)) rfl (HS15.u1.cells 0 9 _ rfl)) ?_)
 replace h := bind_some h; obtain ⟨vt21, hc22, h⟩ := h
 refine seqK rfl (does_call kr (mount_Check.calls k m1 s2 HS15 vt21 hc22) ?_)
 rintro _ W25 ⟨f23, rfl, L24, HS26⟩
 refine ⟨_, rfl, ?_⟩
 refine seqL1 kr ?_
 refine nl (hK20 _ _ ?_)
 refine wp_seq_k fun K27 hK28 => rl ?_
 refine seqL2 kr ?_
 refine nl (hK28 _ _ ?_)
 replace h := ite_some h; rcases h with ⟨c30, h⟩ | ⟨c30, h⟩
 · have c30 : vt21 ≠ 0 := c30
   refine wpRwI 15 kr (bne_iff_ne.mpr c30) ?_
   refine condT kr ?_
   refine wp_seq_k (fun K31 hK32 => ?_)
   exact nomatch h
 have c30 : ¬ (vt21 ≠ 0) := c30
 refine wpRwI 15 (x := (vt21 != 0)) (v := false) kr (bne_eq_false_iff_eq.mpr (Decidable.of_not_not c30)) ?_
 refine condF kr ?_
 refine wp_skip ?_
 refine hK18 _ _ ?_
 refine wp_seq_k (fun K33 hK34 => ?_)
 refine wp_seq_k fun K35 hK36 => rl ?_
 refine seqL1 kr ?_
 refine seqK rfl (does_run (run_load rfl Try.underlying3 rfl (kv (pV b9 8)) (HS26.u1.cell 8)) ?_)
 refine seqL1 kr ?_
 refine nl (hK36 _ _ ?_)
 replace h := ite_some h; rcases h with ⟨c38, h⟩ | ⟨c38, h⟩
 · have c38 : s2.Mode = 0 := c38
   refine wpRwI 20 kr (beq_iff_eq.mpr c38) ?_
   refine condT kr ?_
   refine wp_seq_k fun K39 hK40 => rl ?_
   refine seqK rfl (does_run (run_loadN (n := 9) rfl Try.underlying51 rfl kr (kv (pV b9 0)) (cs := (ll_State2 s2)) rfl (HS26.u1.cells 0 9 _ rfl)) ?_)
   refine seqK rfl (does_storeA (vs := (ll_State2 s2)) rfl kr kr kr rfl (ones rfl) HS26 kr ?_)
   intro W41 HS42
   refine seqL1 kr ?_
   refine nl (hK40 _ _ ?_)
   refine wp_ret ?_
   refine hret _ _ ?_
   refine ends (v := Value.tuple #[.agg (cl_State2 s2), .int .i64 0]) (results2 (q1 := .cell 4 51) (q2 := .tmp 5) kr (resN (n := 9) (cs := (ll_State2 s2)) (kv (pV b13 0)) Try.underlying51 rfl kr rfl (HS42.cells 0 9 _ rfl)) (resT (kv (.int .i64 0)))) kr ?_
   have HS78 := HS42.drop
   have HS79 := HS78.drop
   have HS80 := HS79.drop
   injection h with h
   injection h with h0_ h
   subst h0_ h
   exact ⟨f23, rfl, L24, HS80⟩
 have c38 : ¬ (s2.Mode = 0) := c38
 refine wpRwI 20 kr (beq_eq_false_iff_ne.mpr c38) ?_
 refine condF kr ?_
 refine wp_skip ?_
 refine hK34 _ _ ?_
 refine wp_seq_k fun K43 hK44 => rl ?_
 refine seqL1 kr ?_
 refine seqK rfl (does_run (run_loadN (n := 4) rfl Try.underlying27 rfl kr (kv (pV b5 0)) (cs := (ll_Axis m1.Az)) rfl (HS26.u2.cells 0 4 _ rfl)) ?_)
 refine seqL1 kr ?_
 refine seqK rfl (does_run (run_loadN (n := 4) rfl Try.underlying49 rfl kr (kv (pV b9 0)) (cs := (ll_State s2.Az)) rfl (HS26.u1.cells 0 4 _ rfl)) ?_)
 replace h := bind_some h; obtain ⟨⟨vt45, vt46⟩, hc47, h⟩ := h
 refine seqK rfl (does_call kr (axis_Brake.calls k m1.Az s2.Az HS26 vt45 vt46 hc47) ?_)
 rintro _ W50 ⟨f48, rfl, L49, HS51⟩
 refine ⟨_, rfl, ?_⟩
 refine seqL3 kr ?_
 refine seqK rfl (does_alloc (z := Value.agg (cm_State 0 0 0 false)) (cs := (cm_State 0 0 0 false)) rfl kr rfl HS51 ?_)
 intro b52 W53 HS54
 refine seqK rfl (does_storeA (vs := (ll_State vt45)) rfl kr kr kr rfl (ones rfl) HS54 kr ?_)
 intro W56 HS57
 refine seqL1 kr ?_
 refine nl (hK44 _ _ ?_)
 refine wp_seq_k fun K58 hK59 => rl ?_
 refine seqL1 kr ?_
 refine seqK rfl (does_run (run_loadN (n := 4) rfl Try.underlying27 rfl kr (kv (pV b5 4)) (cs := (ll_Axis m1.Alt)) rfl (HS57.u3.cells 4 4 _ rfl)) ?_)
 refine seqL1 kr ?_
 refine seqK rfl (does_run (run_loadN (n := 4) rfl Try.underlying49 rfl kr (kv (pV b9 4)) (cs := (ll_State s2.Alt)) rfl (HS57.u2.cells 4 4 _ rfl)) ?_)
 replace h := bind_some h; obtain ⟨⟨vt60, vt61⟩, hc62, h⟩ := h
 refine seqK rfl (does_call kr (axis_Brake.calls k m1.Alt s2.Alt HS57 vt60 vt61 hc62) ?_)
 rintro _ W65 ⟨f63, rfl, L64, HS66⟩
 refine ⟨_, rfl, ?_⟩
 refine seqL3 kr ?_
 refine seqK rfl (does_alloc (z := Value.agg (cm_State 0 0 0 false)) (cs := (cm_State 0 0 0 false)) rfl kr rfl HS66 ?_)
 intro b67 W68 HS69
 refine seqK rfl (does_storeA (vs := (ll_State vt60)) rfl kr kr kr rfl (ones rfl) HS69 kr ?_)
 intro W71 HS72
 refine seqL1 kr ?_
 refine nl (hK59 _ _ ?_)
 refine wp_seq_k fun K73 hK74 => rl ?_
 refine seqK rfl (does_run (run_loadN (n := 4) rfl Try.underlying49 rfl kr (kv (pV b52 0)) (cs := (ll_State vt45)) rfl (HS72.u1.cells 0 4 _ rfl)) ?_)
 refine seqK rfl (does_run (run_loadN (n := 4) rfl Try.underlying49 rfl kr (kv (pV b67 0)) (cs := (ll_State vt60)) rfl (HS72.cells 0 4 _ rfl)) ?_)
 have HS75 := HS72.u2
 refine seqL1 kr ?_
 refine seqK rfl (does_storeA (vs := (lm_State2 vt45 vt60 5)) rfl kr kr kr rfl (ones rfl) HS75 kr ?_)
 intro W76 HS77
 refine seqL1 kr ?_
 refine nl (hK74 _ _ ?_)
 refine wp_ret ?_
 refine hret _ _ ?_
 refine ends (v := Value.tuple #[.agg (cm_State2 vt45 vt60 5), .int .i64 0]) (results2 (q1 := .cell 4 51) (q2 := .tmp 5) kr (resN (n := 9) (cs := (lm_State2 vt45 vt60 5)) (kv (pV b13 0)) Try.underlying51 rfl kr rfl (HS77.cells 0 9 _ rfl)) (resT (kv (.int .i64 0)))) kr ?_
 have HS81 := HS77.drop
 have HS82 := HS81.drop
 have HS83 := HS82.drop
 have HS84 := HS83.drop
 have HS85 := HS84.drop
 injection h with h
 injection h with h0_ h
 subst h0_ h
 exact ⟨f63, rfl, (L24.trans (L49.trans L64)), HS85⟩

set_option maxRecDepth 100000 in
set_option maxHeartbeats 4000000 in
theorem dome_Brake.calls (k : Nat)  (s1 : S_State3) {t w : World} {f : FM} {H : List Seg} (HS : St t w f (H)) (rr1 : S_State3) (rr2 : Int) (h : dome_Brake k s1 = some (rr1, rr2)) :
    Calls Try.prog 55 #[.agg (cl_State3 s1)] w (fun e w' => ∃ (g : FM), e = .returned (Value.tuple #[.agg (cl_State3 rr1), .int .i64 rr2]) ∧ FM.le f g ∧ St t w' g (H)) := by
 unfold dome_Brake at h
 refine enter Try.func55 rfl (tm := ⟨[(ag_State3 s1)] ++ (un 19 [])⟩) kr ?_
 intro B hret hnor hnp
 refine wp_seq_k fun K2 hK3 => rl ?_
 refine seqK rfl (does_box (cs := (cl_State3 s1)) rfl (kv (.agg (cl_State3 s1))) rfl HS ?_)
 intro b4 W5 HS6
 refine seqK rfl (does_alloc (z := Value.agg (cm_State3 0 0 false false ⟨0, 0, 0, false⟩)) (cs := (cm_State3 0 0 false false ⟨0, 0, 0, false⟩)) rfl kr rfl HS6 ?_)
 intro b8 W9 HS10
 refine seqL1 kr ?_
 refine nl (hK3 _ _ ?_)
 refine wp_seq_k (fun K12 hK13 => ?_)
 refine wp_seq_k fun K14 hK15 => rl ?_
 refine seqK rfl (does_run (run_loadN (n := 8) rfl Try.underlying53 rfl kr (kv (pV b4 0)) (cs := (ll_State3 s1)) rfl (HS10.u1.cells 0 8 _ rfl)) ?_)
 replace h := bind_some h; obtain ⟨vt16, hc17, h⟩ := h
 refine seqK rfl (does_call kr (dome_Check.calls k s1 HS10 vt16 hc17) ?_)
 rintro _ W20 ⟨f18, rfl, L19, HS21⟩
 refine ⟨_, rfl, ?_⟩
 refine seqL1 kr ?_
 refine nl (hK15 _ _ ?_)
 refine wp_seq_k fun K22 hK23 => rl ?_
 refine seqL2 kr ?_
 refine nl (hK23 _ _ ?_)
 replace h := ite_some h; rcases h with ⟨c25, h⟩ | ⟨c25, h⟩
 · have c25 : vt16 ≠ 0 := c25
   refine wpRwI 8 kr (bne_iff_ne.mpr c25) ?_
   refine condT kr ?_
   refine wp_seq_k (fun K26 hK27 => ?_)
   exact nomatch h
 have c25 : ¬ (vt16 ≠ 0) := c25
 refine wpRwI 8 (x := (vt16 != 0)) (v := false) kr (bne_eq_false_iff_eq.mpr (Decidable.of_not_not c25)) ?_
 refine condF kr ?_
 refine wp_skip ?_
 refine hK13 _ _ ?_
 refine wp_seq_k (fun K28 hK29 => ?_)
 have HS30 := HS21.u1
 refine heldG (S := Sg t f18 ([(b8, .cells (cm_State3 0 0 false false ⟨0, 0, 0, false⟩) 53 (0, 0))] :: H) [(8, [(b4, .cells (cl_State3 s1) 53 (0, 0))])]) (n := 9) kr rfl HS30 ?_
 intro W31 HS32
 refine gL [1] (fuel := 8) (bA 9 2) rfl kr kr kr hnp (Sg.g1 (Sx.of [[(b4, .cells (cl_State3 s1) 53 (0, 0))]] fL HS32) (fun _ => St.only [] HS32 fL)) fun X33 => ?_
 refine gQs 2 8 rfl kr kr kr kr kr (.head _) kr hnp X33 (fun hl_ hS_ => run_loadN (n := 4) rfl Try.underlying49 rfl kr (kv (pV b4 4)) (cs := (ll_State s1.Turn)) rfl (hS_.cells 4 4 _ rfl)) fun X34 => ?_
 replace h := bind_some h; obtain ⟨vt35, hc36, h⟩ := h
 refine takeGE 0 kr rfl kr (does_call kr (dome_Axis.calls k  HS32 vt35 hc36) ?_)
 rintro _ W39 ⟨f37, rfl, L38, HS40⟩
 refine ⟨_, rfl, ?_⟩
 refine kB (Sg.g1 (Sx.of [[(b4, .cells (cl_State3 s1) 53 (0, 0))]] L38 HS40) (fun _ => St.only [] HS40 L38)) fun X41 => ?_
 replace h := bind_some h; obtain ⟨⟨vt42, vt43⟩, hc44, h⟩ := h
 refine takeGE 3 kr rfl kr (does_call kr (axis_Brake.calls k vt35 s1.Turn HS40 vt42 vt43 hc44) ?_)
 rintro _ W47 ⟨f45, rfl, L46, HS48⟩
 refine ⟨_, rfl, ?_⟩
 refine kB (Sg.g1 (Sx.of [[(b4, .cells (cl_State3 s1) 53 (0, 0))]] (L38.trans L46) HS48) (fun _ => St.only [] HS48 (L38.trans L46))) fun X49 => ?_
 refine gL [4, 5, 6, 7] (fuel := 1) (bA 9 255) rfl kr kr kr hnp X49 fun X50 => ?_
 refine takeGE 8 kr rfl kr (does_store (n := 4) (vs := (ll_State vt42)) (cs' := (cm_State3 s1.Shutter s1.Cover s1.Open s1.Lift vt42)) rfl kr (kv (pV b4 4)) (kv (.agg (cl_State vt42))) rfl rfl (ones rfl) HS48 (Nat.le_of_ble_eq_true rfl) kr ?_)
 intro W51 HS52
 refine kB (Sg.g1 (Sx.of [[(b4, .cells (cm_State3 s1.Shutter s1.Cover s1.Open s1.Lift vt42) 53 (0, 0))]] (L38.trans L46) HS52) (fun hl_ => Bool.noConfusion (show true = false from hl_))) fun X53 => ?_
 refine doneG kr ?_ _
 refine hK29 _ _ ?_
 refine wp_seq_k fun K54 hK55 => rl ?_
 refine seqK rfl (does_run (run_loadN (n := 8) rfl Try.underlying53 rfl kr (kv (pV b4 0)) (cs := (lm_State3 s1.Shutter s1.Cover s1.Open s1.Lift vt42)) rfl (HS52.cells 0 8 _ rfl)) ?_)
 have HS56 := HS52.u1
 refine seqK rfl (does_storeA (vs := (lm_State3 s1.Shutter s1.Cover s1.Open s1.Lift vt42)) rfl kr kr kr rfl (ones rfl) HS56 kr ?_)
 intro W57 HS58
 refine seqL1 kr ?_
 refine nl (hK55 _ _ ?_)
 refine wp_ret ?_
 refine hret _ _ ?_
 refine ends (v := Value.tuple #[.agg (cm_State3 s1.Shutter s1.Cover s1.Open s1.Lift vt42), .int .i64 0]) (results2 (q1 := .cell 2 53) (q2 := .tmp 3) kr (resN (n := 8) (cs := (lm_State3 s1.Shutter s1.Cover s1.Open s1.Lift vt42)) (kv (pV b8 0)) Try.underlying53 rfl kr rfl (HS58.cells 0 8 _ rfl)) (resT (kv (.int .i64 0)))) kr ?_
 have HS59 := HS58.drop
 have HS60 := HS59.drop
 injection h with h
 injection h with h0_ h
 subst h0_ h
 exact ⟨f45, rfl, (L19.trans (L38.trans L46)), HS60⟩

set_option maxRecDepth 100000 in
set_option maxHeartbeats 4000000 in
theorem dome_Set.calls (k : Nat)  (s1 : S_State3) (vopen2 : Bool) (lift3 : Bool) {t w : World} {f : FM} {H : List Seg} (HS : St t w f (H)) (rr1 : S_State3) (rr2 : Int) (h : dome_Set k s1 vopen2 lift3 = some (rr1, rr2)) :
    Calls Try.prog 56 #[.agg (cl_State3 s1), .bool vopen2, .bool lift3] w (fun e w' => ∃ (g : FM), e = .returned (Value.tuple #[.agg (cl_State3 rr1), .int .i64 rr2]) ∧ FM.le f g ∧ St t w' g (H)) := by
 unfold dome_Set at h
 refine enter Try.func56 rfl (tm := ⟨[(ag_State3 s1), .bool vopen2, .bool lift3] ++ (un 17 [])⟩) kr ?_
 intro B hret hnor hnp
 refine wp_seq_k fun K4 hK5 => rl ?_
 refine seqK rfl (does_box (cs := (cl_State3 s1)) rfl (kv (.agg (cl_State3 s1))) rfl HS ?_)
 intro b6 W7 HS8
 refine seqK rfl (does_alloc (z := Value.agg (cm_State3 0 0 false false ⟨0, 0, 0, false⟩)) (cs := (cm_State3 0 0 false false ⟨0, 0, 0, false⟩)) rfl kr rfl HS8 ?_)
 intro b10 W11 HS12
 refine seqL1 kr ?_
 refine nl (hK5 _ _ ?_)
 refine wp_seq_k (fun K14 hK15 => ?_)
 refine wp_seq_k fun K16 hK17 => rl ?_
 refine seqK rfl (does_run (run_loadN (n := 8) rfl Try.underlying53 rfl kr (kv (pV b6 0)) (cs := (ll_State3 s1)) rfl (HS12.u1.cells 0 8 _ rfl)) ?_)
 replace h := bind_some h; obtain ⟨vt18, hc19, h⟩ := h
 refine seqK rfl (does_call kr (dome_Check.calls k s1 HS12 vt18 hc19) ?_)
 rintro _ W22 ⟨f20, rfl, L21, HS23⟩
 refine ⟨_, rfl, ?_⟩
 refine seqL1 kr ?_
 refine nl (hK17 _ _ ?_)
 refine wp_seq_k fun K24 hK25 => rl ?_
 refine seqL2 kr ?_
 refine nl (hK25 _ _ ?_)
 replace h := ite_some h; rcases h with ⟨c27, h⟩ | ⟨c27, h⟩
 · have c27 : vt18 ≠ 0 := c27
   refine wpRwI 12 kr (bne_iff_ne.mpr c27) ?_
   refine condT kr ?_
   refine wp_seq_k (fun K28 hK29 => ?_)
   exact nomatch h
 have c27 : ¬ (vt18 ≠ 0) := c27
 refine wpRwI 12 (x := (vt18 != 0)) (v := false) kr (bne_eq_false_iff_eq.mpr (Decidable.of_not_not c27)) ?_
 refine condF kr ?_
 refine wp_skip ?_
 refine hK15 _ _ ?_
 refine wp_seq_k fun K30 hK31 => rl ?_
 have HS32 := HS23.u1
 refine seqL3 kr ?_
 refine seqK rfl (does_store (n := 1) (vs := [.bool vopen2]) (cs' := (cm_State3 s1.Shutter s1.Cover vopen2 s1.Lift s1.Turn)) rfl kr (kv (pV b6 2)) (kv (.bool vopen2)) rfl rfl (ones rfl) HS32 (Nat.le_of_ble_eq_true rfl) kr ?_)
 intro W33 HS34
 refine seqL1 kr ?_
 refine seqK rfl (does_store (n := 1) (vs := [.bool lift3]) (cs' := (cm_State3 s1.Shutter s1.Cover vopen2 lift3 s1.Turn)) rfl kr (kv (pV b6 3)) (kv (.bool lift3)) rfl rfl (ones rfl) HS34 (Nat.le_of_ble_eq_true rfl) kr ?_)
 intro W35 HS36
 refine nl (hK31 _ _ ?_)
 refine wp_seq_k fun K37 hK38 => rl ?_
 refine seqK rfl (does_run (run_loadN (n := 8) rfl Try.underlying53 rfl kr (kv (pV b6 0)) (cs := (lm_State3 s1.Shutter s1.Cover vopen2 lift3 s1.Turn)) rfl (HS36.cells 0 8 _ rfl)) ?_)
 have HS39 := HS36.u1
 refine seqK rfl (does_storeA (vs := (lm_State3 s1.Shutter s1.Cover vopen2 lift3 s1.Turn)) rfl kr kr kr rfl (ones rfl) HS39 kr ?_)
 intro W40 HS41
 refine seqL1 kr ?_
 refine nl (hK38 _ _ ?_)
 refine wp_ret ?_
 refine hret _ _ ?_
 refine ends (v := Value.tuple #[.agg (cm_State3 s1.Shutter s1.Cover vopen2 lift3 s1.Turn), .int .i64 0]) (results2 (q1 := .cell 6 53) (q2 := .tmp 7) kr (resN (n := 8) (cs := (lm_State3 s1.Shutter s1.Cover vopen2 lift3 s1.Turn)) (kv (pV b10 0)) Try.underlying53 rfl kr rfl (HS41.cells 0 8 _ rfl)) (resT (kv (.int .i64 0)))) kr ?_
 have HS42 := HS41.drop
 have HS43 := HS42.drop
 injection h with h
 injection h with h0_ h
 subst h0_ h
 exact ⟨f20, rfl, L21, HS43⟩

set_option maxRecDepth 100000 in
set_option maxHeartbeats 4000000 in
theorem slew_mod.calls (k : Nat)  (x1 : Int) {t w : World} {f : FM} {H : List Seg} (HS : St t w f (H)) (rr1 : Int) (h : slew_mod k x1 = some rr1) :
    Calls Try.prog 85 #[.int .i64 x1] w (fun e w' => ∃ (g : FM), e = .returned (Value.int .i64 rr1) ∧ FM.le f g ∧ St t w' g (H)) := by
 unfold slew_mod at h
 refine enter Try.func85 rfl (tm := ⟨[iV x1] ++ (un 9 [])⟩) kr ?_
 intro B hret hnor hnp
 refine wp_seq_k fun K2 hK3 => rl ?_
 refine seqL1 kr ?_
 refine nl (hK3 _ _ ?_)
 refine wp_seq_k fun K4 hK5 => rl ?_
 refine seqL3 kr ?_
 refine nl (hK5 _ _ ?_)
 refine wp_seq_k (fun K6 hK7 => ?_)
 refine wp_seq_k fun K8 hK9 => rl ?_
 refine seqL2 kr ?_
 refine nl (hK9 _ _ ?_)
 replace h := ite_some h; rcases h with ⟨c11, h⟩ | ⟨c11, h⟩
 · have c11 : (Int.tmod x1 4294967296) < 0 := c11
   refine wpRwI 6 kr (decide_eq_true c11) ?_
   refine condT kr ?_
   refine rl ?_
   refine seqL3 kr ?_
   refine nl (hK7 _ _ ?_)
   refine wp_seq_k fun K12 hK13 => rl ?_
   refine seqL2 kr ?_
   refine nl (hK13 _ _ ?_)
   refine wp_ret ?_
   refine hret _ _ ?_
   refine ends_still (v := Value.int .i64 (w64 ((Int.tmod x1 4294967296) + 4294967296))) kr kr ?_
   injection h with h
   subst h
   exact ⟨f, rfl, FM.le.refl _, HS⟩
 have c11 : ¬ ((Int.tmod x1 4294967296) < 0) := c11
 refine wpRwI 6 kr (decide_eq_false c11) ?_
 refine condF kr ?_
 refine wp_skip ?_
 refine hK7 _ _ ?_
 refine wp_seq_k fun K14 hK15 => rl ?_
 refine seqL2 kr ?_
 refine nl (hK15 _ _ ?_)
 refine wp_ret ?_
 refine hret _ _ ?_
 refine ends_still (v := Value.int .i64 (Int.tmod x1 4294967296)) kr kr ?_
 injection h with h
 subst h
 exact ⟨f, rfl, FM.le.refl _, HS⟩

set_option maxRecDepth 100000 in
set_option maxHeartbeats 4000000 in
theorem slew_abs.calls (k : Nat)  (x1 : Int) {t w : World} {f : FM} {H : List Seg} (HS : St t w f (H)) (rr1 : Int) (h : slew_abs k x1 = some rr1) :
    Calls Try.prog 86 #[.int .i64 x1] w (fun e w' => ∃ (g : FM), e = .returned (Value.int .i64 rr1) ∧ FM.le f g ∧ St t w' g (H)) := by
 unfold slew_abs at h
 refine enter Try.func86 rfl (tm := ⟨[iV x1] ++ (un 6 [])⟩) kr ?_
 intro B hret hnor hnp
 refine wp_seq_k fun K2 hK3 => rl ?_
 refine seqL1 kr ?_
 refine nl (hK3 _ _ ?_)
 refine wp_seq_k fun K4 hK5 => rl ?_
 refine seqL5 kr ?_
 refine nl (hK5 _ _ ?_)
 refine wp_ret ?_
 refine hret _ _ ?_
 refine ends_still (v := Value.int .i64 (mx x1 (w64 (0 - x1)))) kr kr ?_
 injection h with h
 subst h
 exact ⟨f, rfl, FM.le.refl _, HS⟩

end Go.Sp.S4
