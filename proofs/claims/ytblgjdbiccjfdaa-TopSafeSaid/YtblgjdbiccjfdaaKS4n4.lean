import Derived.Test.YtblgjdbiccjfdaaProg
import Derived.Test.YtblgjdbiccjfdaaSpCopy
import Derived.Test.YtblgjdbiccjfdaaFS4
import Derived.Test.YtblgjdbiccjfdaaSpTake
import Derived.Test.YtblgjdbiccjfdaaKS4n0
import Derived.Test.YtblgjdbiccjfdaaKS4n1
import Derived.Test.YtblgjdbiccjfdaaKS4n2
import Derived.Test.YtblgjdbiccjfdaaKS4n3
namespace Go.Sp.S4
open Go Go.Sp Go.Proofs
set_option linter.unusedVariables false
attribute [local irreducible] wpList AnyL Code.wp Calls Does
set_option maxRecDepth 100000 in
set_option maxHeartbeats 4000000 in
theorem slew_CheckAxis.calls (k : Nat)  (a1 : S_Axis) {t w : World} {f : FM} {H : List Seg} (HS : St t w f (H)) (rr1 : Int) (h : slew_CheckAxis k a1 = some rr1) :
    Calls Try.prog 82 #[.agg (cl_Axis a1)] w (fun e w' => ∃ (g : FM), e = .returned (Value.int .i64 rr1) ∧ FM.le f g ∧ St t w' g (H)) := by
 unfold slew_CheckAxis at h
 refine enter Try.func82 rfl (tm := ⟨[(ag_Axis a1)] ++ (un 43 [])⟩) kr ?_
 intro B hret hnor hnp
 refine wp_seq_k fun K2 hK3 => rl ?_
 refine seqK rfl (does_box (cs := (cl_Axis a1)) rfl (kv (.agg (cl_Axis a1))) rfl HS ?_)
 intro b4 W5 HS6
 refine seqL1 kr ?_
 refine nl (hK3 _ _ ?_)
 refine wp_seq_k (fun K8 hK9 => ?_)
 refine wp_seq_k (fun K10 hK11 => ?_)
 replace h := bind_some h; obtain ⟨v12, hv20, h⟩ := h
 have J21 : ∀ (f14 : FM) (x19 : Bool) (j18 : Nat → Value) (W16 : World) (a_ : Act), FM.le f f14 → some (x19) = some v12 → St t W16 f14 ([(b4, .cells (cl_Axis a1) 27 (0, 0))] :: H) → a_ = ⟨⟨[(ag_Axis a1), pV b4 0, iV 0] ++ (jr j18 0 7 ([.bool x19] ++ (un 33 [])))⟩, []⟩ → K10 a_ W16 := by
  intro f14 x19 j18 W16 a_ L15 hj22 HS17  hfr_; subst hfr_
  injection hj22 with hj22; subst hj22; try dsimp only at h
  refine hK11 _ _ ?_
  replace h := ite_some h; rcases h with ⟨c24, h⟩ | ⟨c24, h⟩
  · have c24 : x19 = true := c24
    refine wpRwI 10 kr c24 ?_
    refine condT kr ?_
    refine wp_seq_k (fun K25 hK26 => ?_)
    exact nomatch h
  have c24 : ¬ (x19 = true) := c24
  refine wpRwI 10 kr (Bool.eq_false_iff.mpr c24) ?_
  refine condF kr ?_
  refine wp_skip ?_
  refine hK9 _ _ ?_
  refine wp_seq_k (fun K27 hK28 => ?_)
  refine wp_seq_k fun K29 hK30 => rl ?_
  refine seqL1 kr ?_
  refine seqK rfl (does_run (run_load rfl Try.underlying2 rfl (kv (pV b4 0)) (HS17.cell 0)) ?_)
  refine seqL1 kr ?_
  refine seqK rfl (does_run (run_load rfl Try.underlying2 rfl (kv (pV b4 1)) (HS17.cell 1)) ?_)
  refine seqL1 kr ?_
  refine nl (hK30 _ _ ?_)
  replace h := ite_some h; rcases h with ⟨c32, h⟩ | ⟨c32, h⟩
  · have c32 : a1.Min > a1.Max := c32
    refine wpRwI 15 kr (decide_eq_true c32) ?_
    refine condT kr ?_
    refine wp_seq_k (fun K33 hK34 => ?_)
    exact nomatch h
  have c32 : ¬ (a1.Min > a1.Max) := c32
  refine wpRwI 15 kr (decide_eq_false c32) ?_
  refine condF kr ?_
  refine wp_skip ?_
  refine hK28 _ _ ?_
  refine wp_seq_k (fun K35 hK36 => ?_)
  refine wp_seq_k (fun K37 hK38 => ?_)
  replace h := bind_some h; obtain ⟨v39, hv50, h⟩ := h
  have J51 : ∀ (f44 : FM) (x49 : Bool) (j48 : Nat → Value) (W46 : World) (a_ : Act), FM.le f14 f44 → some (x49) = some v39 → St t W46 f44 ([(b4, .cells (cl_Axis a1) 27 (0, 0))] :: H) → a_ = ⟨⟨[(ag_Axis a1), pV b4 0, iV 0] ++ (jr j18 0 7 ([fV, pV b4 0, iV a1.Min, pV b4 1, iV a1.Max, fV] ++ (jr j48 0 27 [.bool x49])))⟩, []⟩ → K37 a_ W46 := by
   intro f44 x49 j48 W46 a_ L45 hj52 HS47  hfr_; subst hfr_
   injection hj52 with hj52; subst hj52; try dsimp only at h
   refine hK38 _ _ ?_
   replace h := ite_some h; rcases h with ⟨c54, h⟩ | ⟨c54, h⟩
   · have c54 : x49 = true := c54
     refine wpRwI 43 kr c54 ?_
     refine condT kr ?_
     refine wp_seq_k (fun K55 hK56 => ?_)
     exact nomatch h
   have c54 : ¬ (x49 = true) := c54
   refine wpRwI 43 kr (Bool.eq_false_iff.mpr c54) ?_
   refine condF kr ?_
   refine wp_skip ?_
   refine hK36 _ _ ?_
   refine wp_seq_k fun K57 hK58 => rl ?_
   refine seqL1 kr ?_
   refine nl (hK58 _ _ ?_)
   refine wp_ret ?_
   refine hret _ _ ?_
   refine ends_still (v := Value.int .i64 0) kr kr ?_
   have HS59 := HS47.drop
   injection h with h
   subst h
   exact ⟨f44, rfl, (L15.trans L45), HS59⟩
  clear h; have h := hv50; clear hv50
  refine rl ?_
  refine seqL1 kr ?_
  refine seqK rfl (does_run (run_load rfl Try.underlying2 rfl (kv (pV b4 2)) (HS17.cell 2)) ?_)
  refine seqL2 kr ?_
  replace h := ite_some h; rcases h with ⟨c40, h⟩ | ⟨c40, h⟩
  · have c40 : a1.Speed < 16777216 := c40
    refine seqRwI 18 kr (decide_eq_true c40) ?_
    refine seqRwI 19 kr (decide_eq_true c40) ?_
    refine seqL24 kr ?_
    refine nl ?_
    exact J51 f14 true (jL [pV b4 2, iV a1.Speed, tV, tV, uV, uV, uV, tV, tV, uV, uV, uV, uV, uV, tV, tV, uV, uV, uV, tV, tV]) W16 _ fL h HS17 kr
  have c40 : ¬ (a1.Speed < 16777216) := c40
  refine seqRwI 18 kr (decide_eq_false c40) ?_
  refine seqRwI 19 kr (decide_eq_false c40) ?_
  refine seqL1 kr ?_
  refine seqG kr (does_run (run_load rfl Try.underlying2 rfl (kv (pV b4 2)) (HS17.cell 2)) ?_)
  refine seqL3 kr ?_
  replace h := ite_some h; rcases h with ⟨c41, h⟩ | ⟨c41, h⟩
  · have c41 : a1.Speed > 1073741824 := c41
    refine seqRwI 22 kr (decide_eq_true c41) ?_
    refine seqRwI 23 kr (decide_eq_true c41) ?_
    refine seqRwI 24 kr (decide_eq_true c41) ?_
    refine seqL19 kr ?_
    refine nl ?_
    exact J51 f14 true (jL [pV b4 2, iV a1.Speed, fV, fV, pV b4 2, iV a1.Speed, tV, tV, tV, uV, uV, uV, uV, uV, tV, tV, uV, uV, uV, tV, tV]) W16 _ fL h HS17 kr
  have c41 : ¬ (a1.Speed > 1073741824) := c41
  refine seqRwI 22 kr (decide_eq_false c41) ?_
  refine seqRwI 23 kr (decide_eq_false c41) ?_
  refine seqRwI 24 kr (decide_eq_false c41) ?_
  refine seqL1 kr ?_
  refine seqG kr (does_run (run_load rfl Try.underlying2 rfl (kv (pV b4 3)) (HS17.cell 3)) ?_)
  refine seqL1 kr ?_
  refine seqG kr (does_run (run_load rfl Try.underlying2 rfl (kv (pV b4 2)) (HS17.cell 2)) ?_)
  refine seqL3 kr ?_
  replace h := ite_some h; rcases h with ⟨c42, h⟩ | ⟨c42, h⟩
  · have c42 : a1.Accel > a1.Speed := c42
    refine seqRwI 29 kr (decide_eq_true c42) ?_
    refine seqRwI 30 kr (decide_eq_true c42) ?_
    refine seqRwI 31 kr (decide_eq_true c42) ?_
    refine seqL12 kr ?_
    refine nl ?_
    exact J51 f14 true (jL [pV b4 2, iV a1.Speed, fV, fV, pV b4 2, iV a1.Speed, fV, fV, fV, pV b4 3, iV a1.Accel, pV b4 2, iV a1.Speed, tV, tV, tV, uV, uV, uV, tV, tV]) W16 _ fL h HS17 kr
  have c42 : ¬ (a1.Accel > a1.Speed) := c42
  refine seqRwI 29 kr (decide_eq_false c42) ?_
  refine seqRwI 30 kr (decide_eq_false c42) ?_
  refine seqRwI 31 kr (decide_eq_false c42) ?_
  refine seqL1 kr ?_
  refine seqG kr (does_run (run_load rfl Try.underlying2 rfl (kv (pV b4 3)) (HS17.cell 3)) ?_)
  refine seqL3 kr ?_
  replace h := ite_some h; rcases h with ⟨c43, h⟩ | ⟨c43, h⟩
  · have c43 : a1.Accel < 1 := c43
    refine seqRwI 34 kr (decide_eq_true c43) ?_
    refine seqRwI 35 kr (decide_eq_true c43) ?_
    refine seqRwI 36 kr (decide_eq_true c43) ?_
    refine seqL7 kr ?_
    refine nl ?_
    exact J51 f14 true (jL [pV b4 2, iV a1.Speed, fV, fV, pV b4 2, iV a1.Speed, fV, fV, fV, pV b4 3, iV a1.Accel, pV b4 2, iV a1.Speed, fV, fV, fV, pV b4 3, iV a1.Accel, tV, tV, tV]) W16 _ fL h HS17 kr
  have c43 : ¬ (a1.Accel < 1) := c43
  refine seqRwI 34 kr (decide_eq_false c43) ?_
  refine seqRwI 35 kr (decide_eq_false c43) ?_
  refine seqRwI 36 kr (decide_eq_false c43) ?_
  refine seqL1 kr ?_
  refine seqG kr (does_run (run_load rfl Try.underlying2 rfl (kv (pV b4 3)) (HS17.cell 3)) ?_)
  refine seqL2 kr ?_
  refine seqG kr (does_run (run_load rfl Try.underlying2 rfl (kv (pV b4 2)) (HS17.cell 2)) ?_)
  refine seqL2 kr ?_
  refine nl ?_
  exact J51 f14 (decide ((w64 (a1.Accel * 64)) < a1.Speed)) (jL [pV b4 2, iV a1.Speed, fV, fV, pV b4 2, iV a1.Speed, fV, fV, fV, pV b4 3, iV a1.Accel, pV b4 2, iV a1.Speed, fV, fV, fV, pV b4 3, iV a1.Accel, fV, fV, fV, pV b4 3, iV a1.Accel, iV (w64 (a1.Accel * 64)), pV b4 2, iV a1.Speed, .bool (decide ((w64 (a1.Accel * 64)) < a1.Speed))]) W16 _ fL h HS17 kr
 clear h; have h := hv20; clear hv20
 refine rl ?_
 refine seqL1 kr ?_
 refine seqK rfl (does_run (run_load rfl Try.underlying2 rfl (kv (pV b4 0)) (HS6.cell 0)) ?_)
 refine seqL2 kr ?_
 replace h := ite_some h; rcases h with ⟨c13, h⟩ | ⟨c13, h⟩
 · have c13 : a1.Min < (-17179869184) := c13
   refine seqRwI 5 kr (decide_eq_true c13) ?_
   refine seqRwI 6 kr (decide_eq_true c13) ?_
   refine seqL4 kr ?_
   refine nl ?_
   exact J21 f true (jL [pV b4 0, iV a1.Min, tV, tV]) W5 _ fL h HS6 kr
 have c13 : ¬ (a1.Min < (-17179869184)) := c13
 refine seqRwI 5 kr (decide_eq_false c13) ?_
 refine seqRwI 6 kr (decide_eq_false c13) ?_
 refine seqL1 kr ?_
 refine seqG kr (does_run (run_load rfl Try.underlying2 rfl (kv (pV b4 1)) (HS6.cell 1)) ?_)
 refine seqL2 kr ?_
 refine nl ?_
 exact J21 f (decide (a1.Max > 17179869184)) (jL [pV b4 0, iV a1.Min, fV, fV, pV b4 1, iV a1.Max, .bool (decide (a1.Max > 17179869184))]) W5 _ fL h HS6 kr

set_option maxRecDepth 100000 in
set_option maxHeartbeats 4000000 in
theorem slew_In.calls (k : Nat)  (a1 : S_Axis) (p2 : Int) {t w : World} {f : FM} {H : List Seg} (HS : St t w f (H)) (rr1 : Bool) (h : slew_In k a1 p2 = some rr1) :
    Calls Try.prog 83 #[.agg (cl_Axis a1), .int .i64 p2] w (fun e w' => ∃ (g : FM), e = .returned (Value.bool rr1) ∧ FM.le f g ∧ St t w' g (H)) := by
 unfold slew_In at h
 refine enter Try.func83 rfl (tm := ⟨[(ag_Axis a1), iV p2] ++ (un 13 [])⟩) kr ?_
 intro B hret hnor hnp
 refine wp_seq_k fun K3 hK4 => rl ?_
 refine seqK rfl (does_box (cs := (cl_Axis a1)) rfl (kv (.agg (cl_Axis a1))) rfl HS ?_)
 intro b5 W6 HS7
 refine seqL1 kr ?_
 refine nl (hK4 _ _ ?_)
 refine wp_seq_k fun K9 hK10 => rl ?_
 refine seqL1 kr ?_
 refine seqK rfl (does_run (run_load rfl Try.underlying2 rfl (kv (pV b5 0)) (HS7.cell 0)) ?_)
 refine seqL3 kr ?_
 replace h := ite_some h; rcases h with ⟨c12, h⟩ | ⟨c12, h⟩
 · have c12 : a1.Min ≤ p2 := c12
   refine seqRwI 8 kr (decide_eq_true c12) ?_
   refine seqRwI 9 kr (decide_eq_true c12) ?_
   refine seqL2 kr ?_
   refine seqG kr (does_run (run_load rfl Try.underlying2 rfl (kv (pV b5 1)) (HS7.cell 1)) ?_)
   refine seqL3 kr ?_
   refine nl (hK10 _ _ ?_)
   refine wp_ret ?_
   refine hret _ _ ?_
   refine ends_still (v := Value.bool (decide (p2 ≤ a1.Max))) kr kr ?_
   have HS13 := HS7.drop
   injection h with h
   subst h
   exact ⟨f, rfl, FM.le.refl _, HS13⟩
 have c12 : ¬ (a1.Min ≤ p2) := c12
 refine seqRwI 8 kr (decide_eq_false c12) ?_
 refine seqRwI 9 kr (decide_eq_false c12) ?_
 refine seqL6 kr ?_
 refine nl (hK10 _ _ ?_)
 refine wp_ret ?_
 refine hret _ _ ?_
 refine ends_still (v := Value.bool false) kr kr ?_
 have HS14 := HS7.drop
 injection h with h
 subst h
 exact ⟨f, rfl, FM.le.refl _, HS14⟩

set_option maxRecDepth 100000 in
set_option maxHeartbeats 4000000 in
theorem slew_CheckMount.calls (k : Nat)  (m1 : S_Mount) {t w : World} {f : FM} {H : List Seg} (HS : St t w f (H)) (rr1 : Int) (h : slew_CheckMount k m1 = some rr1) :
    Calls Try.prog 67 #[.agg (cl_Mount m1)] w (fun e w' => ∃ (g : FM), e = .returned (Value.int .i64 rr1) ∧ FM.le f g ∧ St t w' g (H)) := by
 unfold slew_CheckMount at h
 refine enter Try.func67 rfl (tm := ⟨[(ag_Mount m1)] ++ (un 32 [])⟩) kr ?_
 intro B hret hnor hnp
 refine wp_seq_k fun K2 hK3 => rl ?_
 refine seqK rfl (does_box (cs := (cl_Mount m1)) rfl (kv (.agg (cl_Mount m1))) rfl HS ?_)
 intro b4 W5 HS6
 refine seqL1 kr ?_
 refine nl (hK3 _ _ ?_)
 refine wp_seq_k (fun K8 hK9 => ?_)
 refine wp_seq_k fun K10 hK11 => rl ?_
 refine seqL1 kr ?_
 refine seqK rfl (does_run (run_loadN (n := 4) rfl Try.underlying27 rfl kr (kv (pV b4 0)) (cs := (ll_Axis m1.Az)) rfl (HS6.cells 0 4 _ rfl)) ?_)
 replace h := bind_some h; obtain ⟨vt12, hc13, h⟩ := h
 refine seqK rfl (does_call kr (slew_CheckAxis.calls k m1.Az HS6 vt12 hc13) ?_)
 rintro _ W16 ⟨f14, rfl, L15, HS17⟩
 refine ⟨_, rfl, ?_⟩
 refine seqL1 kr ?_
 refine nl (hK11 _ _ ?_)
 refine wp_seq_k fun K18 hK19 => rl ?_
 refine seqL2 kr ?_
 refine nl (hK19 _ _ ?_)
 replace h := ite_some h; rcases h with ⟨c21, h⟩ | ⟨c21, h⟩
 · have c21 : vt12 ≠ 0 := c21
   refine wpRwI 9 kr (bne_iff_ne.mpr c21) ?_
   refine condT kr ?_
   refine wp_seq_k (fun K22 hK23 => ?_)
   exact nomatch h
 have c21 : ¬ (vt12 ≠ 0) := c21
 refine wpRwI 9 (x := (vt12 != 0)) (v := false) kr (bne_eq_false_iff_eq.mpr (Decidable.of_not_not c21)) ?_
 refine condF kr ?_
 refine wp_skip ?_
 refine hK9 _ _ ?_
 refine wp_seq_k (fun K24 hK25 => ?_)
 refine wp_seq_k fun K26 hK27 => rl ?_
 refine seqL1 kr ?_
 refine seqK rfl (does_run (run_loadN (n := 4) rfl Try.underlying27 rfl kr (kv (pV b4 4)) (cs := (ll_Axis m1.Alt)) rfl (HS17.cells 4 4 _ rfl)) ?_)
 replace h := bind_some h; obtain ⟨vt28, hc29, h⟩ := h
 refine seqK rfl (does_call kr (slew_CheckAxis.calls k m1.Alt HS17 vt28 hc29) ?_)
 rintro _ W32 ⟨f30, rfl, L31, HS33⟩
 refine ⟨_, rfl, ?_⟩
 refine seqL1 kr ?_
 refine nl (hK27 _ _ ?_)
 refine wp_seq_k fun K34 hK35 => rl ?_
 refine seqL2 kr ?_
 refine nl (hK35 _ _ ?_)
 replace h := ite_some h; rcases h with ⟨c37, h⟩ | ⟨c37, h⟩
 · have c37 : vt28 ≠ 0 := c37
   refine wpRwI 15 kr (bne_iff_ne.mpr c37) ?_
   refine condT kr ?_
   refine wp_seq_k (fun K38 hK39 => ?_)
   exact nomatch h
 have c37 : ¬ (vt28 ≠ 0) := c37
 refine wpRwI 15 (x := (vt28 != 0)) (v := false) kr (bne_eq_false_iff_eq.mpr (Decidable.of_not_not c37)) ?_
 refine condF kr ?_
 refine wp_skip ?_
 refine hK25 _ _ ?_
 refine wp_seq_k (fun K40 hK41 => ?_)
 refine wp_seq_k fun K42 hK43 => rl ?_
 refine seqL1 kr ?_
 refine seqK rfl (does_run (run_loadN (n := 4) rfl Try.underlying27 rfl kr (kv (pV b4 0)) (cs := (ll_Axis m1.Az)) rfl (HS33.cells 0 4 _ rfl)) ?_)
 refine seqL2 kr ?_
 refine seqK rfl (does_run (run_load rfl Try.underlying2 rfl (kv (pV b4 8)) (HS33.cell 8)) ?_)
 replace h := bind_some h; obtain ⟨vt45, hc46, h⟩ := h
 refine seqK rfl (does_call kr (slew_In.calls k m1.Az m1.Park.Az HS33 vt45 hc46) ?_)
 rintro _ W49 ⟨f47, rfl, L48, HS50⟩
 refine ⟨_, rfl, ?_⟩
 refine seqL2 kr ?_
 replace h := ite_some h; rcases h with ⟨c51, h⟩ | ⟨c51, h⟩
 · have c51 : ¬ (vt45 = true) := c51
   refine seqRwI 23 kr (congrArg (fun b_ => !b_) (show vt45 = false from (Bool.eq_false_iff.mpr c51)) : (!vt45) = true) ?_
   refine seqRwI 24 kr (congrArg (fun b_ => !b_) (show vt45 = false from (Bool.eq_false_iff.mpr c51)) : (!vt45) = true) ?_
   refine seqL8 kr ?_
   refine nl (hK43 _ _ ?_)
   refine condT kr ?_
   refine wp_seq_k (fun K58 hK59 => ?_)
   exact nomatch h
 have c51 : ¬ (¬ (vt45 = true)) := c51
 refine seqRwI 23 (x := (!vt45)) (v := false) kr (congrArg (fun b_ => !b_) (show vt45 = true from (Decidable.of_not_not c51)) : (!vt45) = false) ?_
 refine seqRwI 24 (x := (!vt45)) (v := false) kr (congrArg (fun b_ => !b_) (show vt45 = true from (Decidable.of_not_not c51)) : (!vt45) = false) ?_
 refine seqL1 kr ?_
 refine seqG kr (does_run (run_loadN (n := 4) rfl Try.underlying27 rfl kr (kv (pV b4 4)) (cs := (ll_Axis m1.Alt)) rfl (HS50.cells 4 4 _ rfl)) ?_)
 refine seqL2 kr ?_
 refine seqG kr (does_run (run_load rfl Try.underlying2 rfl (kv (pV b4 9)) (HS50.cell 9)) ?_)
 replace h := bind_some h; obtain ⟨vt52, hc53, h⟩ := h
 refine seqG kr (does_call kr (slew_In.calls k m1.Alt m1.Park.Alt HS50 vt52 hc53) ?_)
 rintro _ W56 ⟨f54, rfl, L55, HS57⟩
 refine ⟨_, rfl, ?_⟩
 refine seqL2 kr ?_
 refine nl (hK43 _ _ ?_)
 replace h := ite_some h; rcases h with ⟨c61, h⟩ | ⟨c61, h⟩
 · have c61 : ¬ (vt52 = true) := c61
   refine wpRwI 31 kr (congrArg (fun b_ => !b_) (show vt52 = false from (Bool.eq_false_iff.mpr c61)) : (!vt52) = true) ?_
   refine wpRwI 32 kr (congrArg (fun b_ => !b_) (show vt52 = false from (Bool.eq_false_iff.mpr c61)) : (!vt52) = true) ?_
   refine condT kr ?_
   refine wp_seq_k (fun K62 hK63 => ?_)
   exact nomatch h
 have c61 : ¬ (¬ (vt52 = true)) := c61
 refine wpRwI 31 (x := (!vt52)) (v := false) kr (congrArg (fun b_ => !b_) (show vt52 = true from (Decidable.of_not_not c61)) : (!vt52) = false) ?_
 refine wpRwI 32 (x := (!vt52)) (v := false) kr (congrArg (fun b_ => !b_) (show vt52 = true from (Decidable.of_not_not c61)) : (!vt52) = false) ?_
 refine condF kr ?_
 refine wp_skip ?_
 refine hK41 _ _ ?_
 refine wp_seq_k fun K64 hK65 => rl ?_
 refine seqL1 kr ?_
 refine nl (hK65 _ _ ?_)
 refine wp_ret ?_
 refine hret _ _ ?_
 refine ends_still (v := Value.int .i64 0) kr kr ?_
 have HS66 := HS57.drop
 injection h with h
 subst h
 exact ⟨f54, rfl, (L15.trans (L31.trans (L48.trans L55))), HS66⟩

set_option maxRecDepth 100000 in
set_option maxHeartbeats 4000000 in
theorem axis_Stop.calls (k : Nat)  (a1 : S_Axis) (v2 : Int) {t w : World} {f : FM} {H : List Seg} (HS : St t w f (H)) (rr1 : Int) (h : axis_Stop k a1 v2 = some rr1) :
    Calls Try.prog 84 #[.agg (cl_Axis a1), .int .i64 v2] w (fun e w' => ∃ (g : FM), e = .returned (Value.int .i64 rr1) ∧ FM.le f g ∧ St t w' g (H)) := by
 unfold axis_Stop at h
 refine enter Try.func84 rfl (tm := ⟨[(ag_Axis a1), iV v2] ++ (un 38 [])⟩) kr ?_
 intro B hret hnor hnp
 refine wp_seq_k fun K3 hK4 => rl ?_
 refine seqK rfl (does_box (cs := (cl_Axis a1)) rfl (kv (.agg (cl_Axis a1))) rfl HS ?_)
 intro b5 W6 HS7
 refine seqL1 kr ?_
 refine nl (hK4 _ _ ?_)
 refine wp_seq_k (fun K9 hK10 => ?_)
 refine wp_seq_k (fun K11 hK12 => ?_)
 replace h := bind_some h; obtain ⟨v13, hv28, h⟩ := h
 have J29 : ∀ (f22 : FM) (x27 : Bool) (j26 : Nat → Value) (W24 : World) (a_ : Act), FM.le f f22 → some (x27) = some v13 → St t W24 f22 ([(b5, .cells (cl_Axis a1) 27 (0, 0))] :: H) → a_ = ⟨⟨[(ag_Axis a1), iV v2, pV b5 0, uV, iV 0, uV] ++ (jr j26 0 15 ([.bool x27] ++ (un 18 [])))⟩, []⟩ → K11 a_ W24 := by
  intro f22 x27 j26 W24 a_ L23 hj30 HS25  hfr_; subst hfr_
  injection hj30 with hj30; subst hj30; try dsimp only at h
  refine hK12 _ _ ?_
  replace h := ite_some h; rcases h with ⟨c32, h⟩ | ⟨c32, h⟩
  · have c32 : x27 = true := c32
    refine wpRwI 21 kr c32 ?_
    refine condT kr ?_
    refine wp_seq_k (fun K33 hK34 => ?_)
    exact nomatch h
  have c32 : ¬ (x27 = true) := c32
  refine wpRwI 21 kr (Bool.eq_false_iff.mpr c32) ?_
  refine condF kr ?_
  refine wp_skip ?_
  refine hK10 _ _ ?_
  refine wp_seq_k fun K35 hK36 => rl ?_
  refine seqL5 kr ?_
  refine nl (hK36 _ _ ?_)
  refine wp_seq_k fun K37 hK38 => rl ?_
  refine seqL1 kr ?_
  refine nl (hK38 _ _ ?_)
  refine wp_seq_k (fun K39 hK40 => ?_)
  refine wp_seq_k fun K41 hK42 => rl ?_
  refine seqL2 kr ?_
  refine seqK rfl (does_run (run_load rfl Try.underlying2 rfl (kv (pV b5 3)) (HS25.cell 3)) ?_)
  refine seqL2 kr ?_
  refine nl (hK42 _ _ ?_)
  refine blockK (fun B43 hx44 hn45 hr46 ho47 hp48 => ?_)
  replace h := bind_some h; obtain ⟨o49, hv81, h⟩ := h
  have J82 : ∀ (f75 : FM) (sum80 : Int) (j79 : Nat → Value) (W77 : World) (a_ : Act), FM.le f22 f75 → some (sum80) = some o49 → St t W77 f75 ([(b5, .cells (cl_Axis a1) 27 (0, 0))] :: H) → a_ = ⟨⟨[(ag_Axis a1), (j79 0), pV b5 0, uV, iV 0, iV sum80] ++ (jr j26 0 15 ([fV, iV v2, iV v2, iV (w64 (0 - v2)), iV (mx v2 (w64 (0 - v2))), iV (mx v2 (w64 (0 - v2))), pV b5 3, iV a1.Accel, iV (w64 ((mx v2 (w64 (0 - v2))) - a1.Accel))] ++ (jr j79 1 9 [uV])))⟩, []⟩ → K39 a_ W77 := by
   intro f75 sum80 j79 W77 a_ L76 hj83 HS78  hfr_; subst hfr_
   injection hj83 with hj83; subst hj83; try dsimp only at h
   refine hK40 _ _ ?_
   refine wp_seq_k fun K84 hK85 => rl ?_
   refine seqL2 kr ?_
   refine nl (hK85 _ _ ?_)
   refine wp_ret ?_
   refine hret _ _ ?_
   refine ends_still (v := Value.int .i64 sum80) kr kr ?_
   have HS86 := HS78.drop
   injection h with h
   subst h
   exact ⟨f75, rfl, (L23.trans L76), HS86⟩
  clear h; have h := hv81; clear hv81
  refine loopK (fun n_ a_ w_ => ∃ (f53 : FM) (v58 : Int) (sum59 : Int) (j57 : Nat → Value), FM.le f22 f53 ∧ St t w_ f53 ([(b5, .cells (cl_Axis a1) 27 (0, 0))] :: H) ∧ axis_Stop.l0 k a1 n_ v58 sum59 = some o49 ∧ a_ = ⟨⟨[(ag_Axis a1), iV v58, pV b5 0, uV, iV 0, iV sum59] ++ (jr j26 0 15 ([fV, iV v2, iV v2, iV (w64 (0 - v2)), iV (mx v2 (w64 (0 - v2))), iV (mx v2 (w64 (0 - v2))), pV b5 3, iV a1.Accel, iV (w64 ((mx v2 (w64 (0 - v2))) - a1.Accel))] ++ (jr j57 0 9 [uV])))⟩, []⟩) k ⟨f22, (w64 ((mx v2 (w64 (0 - v2))) - a1.Accel)), 0, (jL []), fL, HS25, h, kr⟩ ?_
  clear h
  rintro n52 _ W55 ⟨f53, v58, sum59, j57, L54, HS56, h, rfl⟩ K50 hK51
  obtain _ | n52 := n52
  · exact nomatch h
  simp only [axis_Stop.l0] at h
  refine wp_seq_k (fun K60 hK61 => ?_)
  refine wp_seq_k fun K62 hK63 => rl ?_
  refine seqL2 kr ?_
  refine nl (hK63 _ _ ?_)
  replace h := ite_some h; rcases h with ⟨c65, h⟩ | ⟨c65, h⟩
  rotate_left
  · have c65 : ¬ (v58 > 0) := c65
    refine wpRwI 31 kr (decide_eq_false c65) ?_
    refine condF kr ?_
    refine wp_exit ?_
    refine hx44 _ _ ?_
    exact J82 f53 sum59 (jL [iV v58, iV v58, fV, (j57 2), (j57 3), (j57 4), (j57 5), (j57 6), (j57 7), (j57 8)]) W55 _ L54 h HS56 kr
  have c65 : v58 > 0 := c65
  refine wpRwI 31 kr (decide_eq_true c65) ?_
  refine condT kr ?_
  refine wp_skip ?_
  refine hK61 _ _ ?_
  refine wp_seq_k (fun K66 hK67 => ?_)
  refine blockK (fun B68 hx69 hn70 hr71 ho72 hp73 => ?_)
  refine rl ?_
  refine seqL4 kr ?_
  refine nl ?_
  refine hn70 _ _ ?_
  refine hK67 _ _ ?_
  refine rl ?_
  refine seqL2 kr ?_
  refine seqK rfl (does_run (run_load rfl Try.underlying2 rfl (kv (pV b5 3)) (HS56.cell 3)) ?_)
  refine seqL2 kr ?_
  refine nl ?_
  refine hK51 n52 _ _ (Nat.lt_succ_self _) ?_
  exact ⟨f53, (w64 (v58 - a1.Accel)), (w64 (sum59 + v58)), (jL [iV v58, tV, iV v58, pV b5 3, iV a1.Accel, iV (w64 (v58 - a1.Accel)), iV sum59, iV v58, iV (w64 (sum59 + v58))]), L54, HS56, h, kr⟩
 clear h; have h := hv28; clear hv28
 refine rl ?_
 refine seqK rfl (does_run (run_loadN (n := 4) rfl Try.underlying27 rfl kr (kv (pV b5 0)) (cs := (ll_Axis a1)) rfl (HS7.cells 0 4 _ rfl)) ?_)
 replace h := bind_some h; obtain ⟨vt14, hc15, h⟩ := h
 refine seqK rfl (does_call kr (slew_CheckAxis.calls k a1 HS7 vt14 hc15) ?_)
 rintro _ W18 ⟨f16, rfl, L17, HS19⟩
 refine ⟨_, rfl, ?_⟩
 refine seqL2 kr ?_
 replace h := ite_some h; rcases h with ⟨c20, h⟩ | ⟨c20, h⟩
 · have c20 : vt14 ≠ 0 := c20
   refine seqRwI 8 kr (bne_iff_ne.mpr c20) ?_
   refine seqRwI 9 kr (bne_iff_ne.mpr c20) ?_
   refine seqL12 kr ?_
   refine nl ?_
   exact J29 f16 true (jL [(ag_Axis a1), iV vt14, tV, tV, uV, uV, uV, uV, uV, tV, tV]) W18 _ L17 h HS19 kr
 have c20 : ¬ (vt14 ≠ 0) := c20
 refine seqRwI 8 (x := (vt14 != 0)) (v := false) kr (bne_eq_false_iff_eq.mpr (Decidable.of_not_not c20)) ?_
 refine seqRwI 9 (x := (vt14 != 0)) (v := false) kr (bne_eq_false_iff_eq.mpr (Decidable.of_not_not c20)) ?_
 refine seqL2 kr ?_
 refine seqG kr (does_run (run_load rfl Try.underlying2 rfl (kv (pV b5 2)) (HS19.cell 2)) ?_)
 refine seqL4 kr ?_
 replace h := ite_some h; rcases h with ⟨c21, h⟩ | ⟨c21, h⟩
 · have c21 : v2 < (w64 (0 - a1.Speed)) := c21
   refine seqRwI 14 kr (decide_eq_true c21) ?_
   refine seqRwI 15 kr (decide_eq_true c21) ?_
   refine seqRwI 16 kr (decide_eq_true c21) ?_
   refine seqL5 kr ?_
   refine nl ?_
   exact J29 f16 true (jL [(ag_Axis a1), iV vt14, fV, fV, iV v2, pV b5 2, iV a1.Speed, iV (w64 (0 - a1.Speed)), tV, tV, tV]) W18 _ L17 h HS19 kr
 have c21 : ¬ (v2 < (w64 (0 - a1.Speed))) := c21
 refine seqRwI 14 kr (decide_eq_false c21) ?_
 refine seqRwI 15 kr (decide_eq_false c21) ?_
 refine seqRwI 16 kr (decide_eq_false c21) ?_
 refine seqL2 kr ?_
 refine seqG kr (does_run (run_load rfl Try.underlying2 rfl (kv (pV b5 2)) (HS19.cell 2)) ?_)
 refine seqL2 kr ?_
 refine nl ?_
 exact J29 f16 (decide (v2 > a1.Speed)) (jL [(ag_Axis a1), iV vt14, fV, fV, iV v2, pV b5 2, iV a1.Speed, iV (w64 (0 - a1.Speed)), fV, fV, fV, iV v2, pV b5 2, iV a1.Speed, .bool (decide (v2 > a1.Speed))]) W18 _ L17 h HS19 kr

set_option maxRecDepth 100000 in
set_option maxHeartbeats 4000000 in
theorem axis_Check.calls (k : Nat)  (a1 : S_Axis) (s2 : S_State) {t w : World} {f : FM} {H : List Seg} (HS : St t w f (H)) (rr1 : Int) (h : axis_Check k a1 s2 = some rr1) :
    Calls Try.prog 68 #[.agg (cl_Axis a1), .agg (cl_State s2)] w (fun e w' => ∃ (g : FM), e = .returned (Value.int .i64 rr1) ∧ FM.le f g ∧ St t w' g (H)) := by
 unfold axis_Check at h
 refine enter Try.func68 rfl (tm := ⟨[(ag_Axis a1), (ag_State s2)] ++ (un 58 [])⟩) kr ?_
 intro B hret hnor hnp
 refine wp_seq_k fun K3 hK4 => rl ?_
 refine seqK rfl (does_box (cs := (cl_Axis a1)) rfl (kv (.agg (cl_Axis a1))) rfl HS ?_)
 intro b5 W6 HS7
 refine seqK rfl (does_box (cs := (cl_State s2)) rfl (kv (.agg (cl_State s2))) rfl HS7 ?_)
 intro b9 W10 HS11
 refine seqL1 kr ?_
 refine nl (hK4 _ _ ?_)
 refine wp_seq_k (fun K13 hK14 => ?_)
 refine wp_seq_k fun K15 hK16 => rl ?_
 refine seqK rfl (does_run (run_loadN (n := 4) rfl Try.underlying27 rfl kr (kv (pV b5 0)) (cs := (ll_Axis a1)) rfl (HS11.u1.cells 0 4 _ rfl)) ?_)
 replace h := bind_some h; obtain ⟨vt17, hc18, h⟩ := h
 refine seqK rfl (does_call kr (slew_CheckAxis.calls k a1 HS11 vt17 hc18) ?_)
 rintro _ W21 ⟨f19, rfl, L20, HS22⟩
 refine ⟨_, rfl, ?_⟩
 refine seqL1 kr ?_
 refine nl (hK16 _ _ ?_)
 refine wp_seq_k fun K23 hK24 => rl ?_
 refine seqL2 kr ?_
 refine nl (hK24 _ _ ?_)
 replace h := ite_some h; rcases h with ⟨c26, h⟩ | ⟨c26, h⟩
 · have c26 : vt17 ≠ 0 := c26
   refine wpRwI 10 kr (bne_iff_ne.mpr c26) ?_
   refine condT kr ?_
   refine wp_seq_k (fun K27 hK28 => ?_)
   exact nomatch h
 have c26 : ¬ (vt17 ≠ 0) := c26
 refine wpRwI 10 (x := (vt17 != 0)) (v := false) kr (bne_eq_false_iff_eq.mpr (Decidable.of_not_not c26)) ?_
 refine condF kr ?_
 refine wp_skip ?_
 refine hK14 _ _ ?_
 refine wp_seq_k (fun K29 hK30 => ?_)
 refine wp_seq_k (fun K31 hK32 => ?_)
 replace h := bind_some h; obtain ⟨v33, hv55, h⟩ := h
 have J56 : ∀ (f49 : FM) (x54 : Bool) (j53 : Nat → Value) (W51 : World) (a_ : Act), FM.le f19 f49 → some (x54) = some v33 → St t W51 f49 ([(b9, .cells (cl_State s2) 49 (0, 0))] :: [(b5, .cells (cl_Axis a1) 27 (0, 0))] :: H) → a_ = ⟨⟨[(ag_Axis a1), (ag_State s2), pV b5 0, pV b9 0, iV 0, iV vt17, uV, (ag_Axis a1), iV vt17, iV vt17, fV, uV] ++ (jr j53 0 26 ([.bool x54] ++ (un 21 [])))⟩, []⟩ → K31 a_ W51 := by
  intro f49 x54 j53 W51 a_ L50 hj57 HS52  hfr_; subst hfr_
  injection hj57 with hj57; subst hj57; try dsimp only at h
  refine hK32 _ _ ?_
  replace h := ite_some h; rcases h with ⟨c59, h⟩ | ⟨c59, h⟩
  · have c59 : x54 = true := c59
    refine wpRwI 38 kr c59 ?_
    refine condT kr ?_
    refine wp_seq_k (fun K60 hK61 => ?_)
    exact nomatch h
  have c59 : ¬ (x54 = true) := c59
  refine wpRwI 38 kr (Bool.eq_false_iff.mpr c59) ?_
  refine condF kr ?_
  refine wp_skip ?_
  refine hK30 _ _ ?_
  refine wp_seq_k (fun K62 hK63 => ?_)
  refine heldG (S := Sg t f49 ([(b9, .cells (cl_State s2) 49 (0, 0))] :: [(b5, .cells (cl_Axis a1) 27 (0, 0))] :: H) []) (n := 8) kr rfl HS52 ?_
  intro W64 HS65
  refine gL [0] (fuel := 7) (bA 8 1) rfl kr kr kr hnp (Sg.g0 (Sx.of [] fL HS65)) fun X66 => ?_
  refine gQ 1 rfl kr kr kr kr kr hnp X66 (fun hl_ hS_ => run_load rfl Try.underlying2 rfl (kv (pV b9 0)) (hS_.cell 0)) fun X67 => ?_
  refine gQ 2 rfl kr kr kr kr kr hnp X67 (fun hl_ hS_ => run_loadN (n := 4) rfl Try.underlying27 rfl kr (kv (pV b5 0)) (cs := (ll_Axis a1)) rfl (hS_.u1.cells 0 4 _ rfl)) fun X68 => ?_
  refine gL [3] (fuel := 4) (bA 8 15) rfl kr kr kr hnp X68 fun X69 => ?_
  refine gQ 4 rfl kr kr kr kr kr hnp X69 (fun hl_ hS_ => run_load rfl Try.underlying2 rfl (kv (pV b9 1)) (hS_.cell 1)) fun X70 => ?_
  replace h := bind_some h; obtain ⟨vt71, hc72, h⟩ := h
  refine takeGE 5 kr rfl kr (does_call kr (axis_Stop.calls k a1 s2.Speed HS65 vt71 hc72) ?_)
  rintro _ W75 ⟨f73, rfl, L74, HS76⟩
  refine ⟨_, rfl, ?_⟩
  refine kB (Sg.g0 (Sx.of [] L74 HS76)) fun X77 => ?_
  refine gL [6, 7] (fuel := 0) (bA 8 255) rfl kr kr kr hnp X77 fun X78 => ?_
  refine doneG kr ?_ _
  refine hK63 _ _ ?_
  refine wp_seq_k (fun K79 hK80 => ?_)
  refine wp_seq_k fun K81 hK82 => rl ?_
  refine seqL1 kr ?_
  refine seqK rfl (does_run (run_load rfl Try.underlying2 rfl (kv (pV b9 1)) (HS76.cell 1)) ?_)
  refine seqL1 kr ?_
  refine nl (hK82 _ _ ?_)
  replace h := bind_some h; obtain ⟨v83, hv106, h⟩ := h
  have J107 : ∀ (f100 : FM) (vend105 : Int) (j104 : Nat → Value) (W102 : World) (a_ : Act), FM.le f73 f100 → some (vend105) = some v83 → St t W102 f100 ([(b9, .cells (cl_State s2) 49 (0, 0))] :: [(b5, .cells (cl_Axis a1) 27 (0, 0))] :: H) → a_ = ⟨⟨[(ag_Axis a1), (ag_State s2), pV b5 0, pV b9 0, iV 0, iV vt17, iV vend105, (ag_Axis a1), iV vt17, iV vt17, fV, uV] ++ (jr j53 0 26 ([fV, pV b9 0, iV s2.At, (ag_Axis a1), pV b9 1, iV s2.Speed, iV vt71, iV (w64 (s2.At + vt71)), pV b9 1, iV s2.Speed, .bool (decide (s2.Speed < 0))] ++ (jr j104 0 7 (un 4 []))))⟩, []⟩ → K79 a_ W102 := by
   intro f100 vend105 j104 W102 a_ L101 hj108 HS103  hfr_; subst hfr_
   injection hj108 with hj108; subst hj108; try dsimp only at h
   refine hK80 _ _ ?_
   refine wp_seq_k (fun K109 hK110 => ?_)
   refine wp_seq_k fun K111 hK112 => rl ?_
   refine seqK rfl (does_run (run_loadN (n := 4) rfl Try.underlying27 rfl kr (kv (pV b5 0)) (cs := (ll_Axis a1)) rfl (HS103.u1.cells 0 4 _ rfl)) ?_)
   replace h := bind_some h; obtain ⟨vt113, hc114, h⟩ := h
   refine seqL1 kr ?_
   refine seqK rfl (does_call kr (slew_In.calls k a1 vend105 HS103 vt113 hc114) ?_)
   rintro _ W117 ⟨f115, rfl, L116, HS118⟩
   refine ⟨_, rfl, ?_⟩
   refine seqL1 kr ?_
   refine nl (hK112 _ _ ?_)
   replace h := ite_some h; rcases h with ⟨c120, h⟩ | ⟨c120, h⟩
   · have c120 : ¬ (vt113 = true) := c120
     refine wpRwI 59 kr (congrArg (fun b_ => !b_) (show vt113 = false from (Bool.eq_false_iff.mpr c120)) : (!vt113) = true) ?_
     refine condT kr ?_
     refine wp_seq_k (fun K121 hK122 => ?_)
     exact nomatch h
   have c120 : ¬ (¬ (vt113 = true)) := c120
   refine wpRwI 59 (x := (!vt113)) (v := false) kr (congrArg (fun b_ => !b_) (show vt113 = true from (Decidable.of_not_not c120)) : (!vt113) = false) ?_
   refine condF kr ?_
   refine wp_skip ?_
   refine hK110 _ _ ?_
   refine wp_seq_k fun K123 hK124 => rl ?_
   refine seqL1 kr ?_
   refine nl (hK124 _ _ ?_)
   refine wp_ret ?_
   refine hret _ _ ?_
   refine ends_still (v := Value.int .i64 0) kr kr ?_
   have HS125 := HS118.drop
   have HS126 := HS125.drop
   injection h with h
   subst h
   exact ⟨f115, rfl, (L20.trans (L50.trans (L74.trans (L101.trans L116)))), HS126⟩
  clear h; have h := hv106; clear hv106
  replace h := ite_some h; rcases h with ⟨c84, h⟩ | ⟨c84, h⟩
  rotate_left
  · have c84 : ¬ (s2.Speed < 0) := c84
    refine wpRwI 48 kr (decide_eq_false c84) ?_
    refine condF kr ?_
    refine wp_skip ?_
    refine fnRwI (F := K79) 48 (x := false) (v := (decide (s2.Speed < 0))) kr (Eq.symm (decide_eq_false c84)) ?_
    exact J107 f73 (w64 (s2.At + vt71)) (jL []) W75 _ fL h HS76 kr
  have c84 : s2.Speed < 0 := c84
  refine wpRwI 48 kr (decide_eq_true c84) ?_
  refine condT kr ?_
  refine heldG (S := Sg t f73 ([(b9, .cells (cl_State s2) 49 (0, 0))] :: [(b5, .cells (cl_Axis a1) 27 (0, 0))] :: H) []) (n := 8) kr rfl HS76 ?_
  intro W85 HS86
  refine gL [0] (fuel := 7) (bA 8 1) rfl kr kr kr hnp (Sg.g0 (Sx.of [] fL HS86)) fun X87 => ?_
  refine gQ 1 rfl kr kr kr kr kr hnp X87 (fun hl_ hS_ => run_load rfl Try.underlying2 rfl (kv (pV b9 0)) (hS_.cell 0)) fun X88 => ?_
  refine gQ 2 rfl kr kr kr kr kr hnp X88 (fun hl_ hS_ => run_loadN (n := 4) rfl Try.underlying27 rfl kr (kv (pV b5 0)) (cs := (ll_Axis a1)) rfl (hS_.u1.cells 0 4 _ rfl)) fun X89 => ?_
  refine gL [3] (fuel := 4) (bA 8 15) rfl kr kr kr hnp X89 fun X90 => ?_
  refine gQ 4 rfl kr kr kr kr kr hnp X90 (fun hl_ hS_ => run_load rfl Try.underlying2 rfl (kv (pV b9 1)) (hS_.cell 1)) fun X91 => ?_
  replace h := bind_some h; obtain ⟨vt92, hc93, h⟩ := h
  refine takeGE 5 kr rfl kr (does_call kr (axis_Stop.calls k a1 s2.Speed HS86 vt92 hc93) ?_)
  rintro _ W96 ⟨f94, rfl, L95, HS97⟩
  refine ⟨_, rfl, ?_⟩
  refine kB (Sg.g0 (Sx.of [] L95 HS97)) fun X98 => ?_
  refine gL [6, 7] (fuel := 0) (bA 8 255) rfl kr kr kr hnp X98 fun X99 => ?_
  refine doneG kr ?_ _
  refine fnRwI (F := K79) 48 (x := true) (v := (decide (s2.Speed < 0))) kr (Eq.symm (decide_eq_true c84)) ?_
  exact J107 f94 (w64 (s2.At - vt92)) (jL [pV b9 0, iV s2.At, (ag_Axis a1), pV b9 1, iV s2.Speed, iV vt92, iV (w64 (s2.At - vt92))]) W96 _ L95 h HS97 kr
 clear h; have h := hv55; clear hv55
 refine rl ?_
 refine seqK rfl (does_run (run_loadN (n := 4) rfl Try.underlying27 rfl kr (kv (pV b5 0)) (cs := (ll_Axis a1)) rfl (HS22.u1.cells 0 4 _ rfl)) ?_)
 refine seqL1 kr ?_
 refine seqK rfl (does_run (run_load rfl Try.underlying2 rfl (kv (pV b9 0)) (HS22.cell 0)) ?_)
 replace h := bind_some h; obtain ⟨vt34, hc35, h⟩ := h
 refine seqK rfl (does_call kr (slew_In.calls k a1 s2.At HS22 vt34 hc35) ?_)
 rintro _ W38 ⟨f36, rfl, L37, HS39⟩
 refine ⟨_, rfl, ?_⟩
 refine seqL2 kr ?_
 replace h := ite_some h; rcases h with ⟨c40, h⟩ | ⟨c40, h⟩
 · have c40 : ¬ (vt34 = true) := c40
   refine seqRwI 16 kr (congrArg (fun b_ => !b_) (show vt34 = false from (Bool.eq_false_iff.mpr c40)) : (!vt34) = true) ?_
   refine seqRwI 17 kr (congrArg (fun b_ => !b_) (show vt34 = false from (Bool.eq_false_iff.mpr c40)) : (!vt34) = true) ?_
   refine seqL21 kr ?_
   refine nl ?_
   exact J56 f36 true (jL [(ag_Axis a1), pV b9 0, iV s2.At, .bool vt34, tV, tV, uV, uV, uV, uV, uV, tV, tV, uV, uV, uV, uV, uV, uV, tV, tV]) W38 _ L37 h HS39 kr
 have c40 : ¬ (¬ (vt34 = true)) := c40
 refine seqRwI 16 (x := (!vt34)) (v := false) kr (congrArg (fun b_ => !b_) (show vt34 = true from (Decidable.of_not_not c40)) : (!vt34) = false) ?_
 refine seqRwI 17 (x := (!vt34)) (v := false) kr (congrArg (fun b_ => !b_) (show vt34 = true from (Decidable.of_not_not c40)) : (!vt34) = false) ?_
 refine seqG kr (does_run (run_loadN (n := 4) rfl Try.underlying27 rfl kr (kv (pV b5 0)) (cs := (ll_Axis a1)) rfl (HS39.u1.cells 0 4 _ rfl)) ?_)
 refine seqL1 kr ?_
 refine seqG kr (does_run (run_load rfl Try.underlying2 rfl (kv (pV b9 2)) (HS39.cell 2)) ?_)
 replace h := bind_some h; obtain ⟨vt41, hc42, h⟩ := h
 refine seqG kr (does_call kr (slew_In.calls k a1 s2.Goal HS39 vt41 hc42) ?_)
 rintro _ W45 ⟨f43, rfl, L44, HS46⟩
 refine ⟨_, rfl, ?_⟩
 refine seqL3 kr ?_
 replace h := ite_some h; rcases h with ⟨c47, h⟩ | ⟨c47, h⟩
 · have c47 : ¬ (vt41 = true) := c47
   refine seqRwI 22 kr (congrArg (fun b_ => !b_) (show vt41 = false from (Bool.eq_false_iff.mpr c47)) : (!vt41) = true) ?_
   refine seqRwI 23 kr (congrArg (fun b_ => !b_) (show vt41 = false from (Bool.eq_false_iff.mpr c47)) : (!vt41) = true) ?_
   refine seqRwI 24 kr (congrArg (fun b_ => !b_) (show vt41 = false from (Bool.eq_false_iff.mpr c47)) : (!vt41) = true) ?_
   refine seqL14 kr ?_
   refine nl ?_
   exact J56 f43 true (jL [(ag_Axis a1), pV b9 0, iV s2.At, .bool vt34, fV, fV, (ag_Axis a1), pV b9 2, iV s2.Goal, .bool vt41, tV, tV, tV, uV, uV, uV, uV, uV, uV, tV, tV]) W45 _ (L37.trans L44) h HS46 kr
 have c47 : ¬ (¬ (vt41 = true)) := c47
 refine seqRwI 22 (x := (!vt41)) (v := false) kr (congrArg (fun b_ => !b_) (show vt41 = true from (Decidable.of_not_not c47)) : (!vt41) = false) ?_
 refine seqRwI 23 (x := (!vt41)) (v := false) kr (congrArg (fun b_ => !b_) (show vt41 = true from (Decidable.of_not_not c47)) : (!vt41) = false) ?_
 refine seqRwI 24 (x := (!vt41)) (v := false) kr (congrArg (fun b_ => !b_) (show vt41 = true from (Decidable.of_not_not c47)) : (!vt41) = false) ?_
 refine seqL1 kr ?_
 refine seqG kr (does_run (run_load rfl Try.underlying2 rfl (kv (pV b9 1)) (HS46.cell 1)) ?_)
 refine seqL1 kr ?_
 refine seqG kr (does_run (run_load rfl Try.underlying2 rfl (kv (pV b5 2)) (HS46.u1.cell 2)) ?_)
 refine seqL4 kr ?_
 replace h := ite_some h; rcases h with ⟨c48, h⟩ | ⟨c48, h⟩
 · have c48 : s2.Speed < (w64 (0 - a1.Speed)) := c48
   refine seqRwI 30 kr (decide_eq_true c48) ?_
   refine seqRwI 31 kr (decide_eq_true c48) ?_
   refine seqRwI 32 kr (decide_eq_true c48) ?_
   refine seqL6 kr ?_
   refine nl ?_
   exact J56 f43 true (jL [(ag_Axis a1), pV b9 0, iV s2.At, .bool vt34, fV, fV, (ag_Axis a1), pV b9 2, iV s2.Goal, .bool vt41, fV, fV, fV, pV b9 1, iV s2.Speed, pV b5 2, iV a1.Speed, iV (w64 (0 - a1.Speed)), tV, tV, tV]) W45 _ (L37.trans L44) h HS46 kr
 have c48 : ¬ (s2.Speed < (w64 (0 - a1.Speed))) := c48
 refine seqRwI 30 kr (decide_eq_false c48) ?_
 refine seqRwI 31 kr (decide_eq_false c48) ?_
 refine seqRwI 32 kr (decide_eq_false c48) ?_
 refine seqL1 kr ?_
 refine seqG kr (does_run (run_load rfl Try.underlying2 rfl (kv (pV b9 1)) (HS46.cell 1)) ?_)
 refine seqL1 kr ?_
 refine seqG kr (does_run (run_load rfl Try.underlying2 rfl (kv (pV b5 2)) (HS46.u1.cell 2)) ?_)
 refine seqL2 kr ?_
 refine nl ?_
 exact J56 f43 (decide (s2.Speed > a1.Speed)) (jL [(ag_Axis a1), pV b9 0, iV s2.At, .bool vt34, fV, fV, (ag_Axis a1), pV b9 2, iV s2.Goal, .bool vt41, fV, fV, fV, pV b9 1, iV s2.Speed, pV b5 2, iV a1.Speed, iV (w64 (0 - a1.Speed)), fV, fV, fV, pV b9 1, iV s2.Speed, pV b5 2, iV a1.Speed, .bool (decide (s2.Speed > a1.Speed))]) W45 _ (L37.trans L44) h HS46 kr

set_option maxRecDepth 100000 in
set_option maxHeartbeats 4000000 in
theorem axis_Resting.calls (k : Nat)  (s1 : S_State) {t w : World} {f : FM} {H : List Seg} (HS : St t w f (H)) (rr1 : Bool) (h : axis_Resting k s1 = some rr1) :
    Calls Try.prog 62 #[.agg (cl_State s1)] w (fun e w' => ∃ (g : FM), e = .returned (Value.bool rr1) ∧ FM.le f g ∧ St t w' g (H)) := by
 unfold axis_Resting at h
 refine enter Try.func62 rfl (tm := ⟨[(ag_State s1)] ++ (un 17 [])⟩) kr ?_
 intro B hret hnor hnp
 refine wp_seq_k fun K2 hK3 => rl ?_
 refine seqK rfl (does_box (cs := (cl_State s1)) rfl (kv (.agg (cl_State s1))) rfl HS ?_)
 intro b4 W5 HS6
 refine seqL1 kr ?_
 refine nl (hK3 _ _ ?_)
 refine wp_seq_k fun K8 hK9 => rl ?_
 refine seqL1 kr ?_
 refine seqK rfl (does_run (run_load rfl Try.underlying2 rfl (kv (pV b4 1)) (HS6.cell 1)) ?_)
 refine seqL2 kr ?_
 replace h := ite_some h; rcases h with ⟨c11, h⟩ | ⟨c11, h⟩
 rotate_left
 · have c11 : ¬ (s1.Speed = 0) := c11
   refine seqRwI 5 kr (beq_eq_false_iff_ne.mpr c11) ?_
   refine seqRwI 6 kr (beq_eq_false_iff_ne.mpr c11) ?_
   refine seqL12 kr ?_
   refine nl (hK9 _ _ ?_)
   refine wp_ret ?_
   refine hret _ _ ?_
   refine ends_still (v := Value.bool false) kr kr ?_
   have HS15 := HS6.drop
   injection h with h
   subst h
   exact ⟨f, rfl, FM.le.refl _, HS15⟩
 have c11 : s1.Speed = 0 := c11
 refine seqRwI 5 kr (beq_iff_eq.mpr c11) ?_
 refine seqRwI 6 kr (beq_iff_eq.mpr c11) ?_
 refine seqL1 kr ?_
 refine seqG kr (does_run (run_load rfl Try.underlying2 rfl (kv (pV b4 0)) (HS6.cell 0)) ?_)
 refine seqL1 kr ?_
 refine seqG kr (does_run (run_load rfl Try.underlying2 rfl (kv (pV b4 2)) (HS6.cell 2)) ?_)
 refine seqL3 kr ?_
 replace h := ite_some h; rcases h with ⟨c12, h⟩ | ⟨c12, h⟩
 · have c12 : s1.At = s1.Goal := c12
   refine seqRwI 11 kr (beq_iff_eq.mpr c12) ?_
   refine seqRwI 12 kr (beq_iff_eq.mpr c12) ?_
   refine seqRwI 13 kr (beq_iff_eq.mpr c12) ?_
   refine seqL1 kr ?_
   refine seqG kr (does_run (run_load rfl Try.underlying4 rfl (kv (pV b4 3)) (HS6.cell 3)) ?_)
   refine seqL3 kr ?_
   refine nl (hK9 _ _ ?_)
   refine wp_ret ?_
   refine hret _ _ ?_
   refine ends_still (v := Value.bool (!s1.Halt)) kr kr ?_
   have HS13 := HS6.drop
   injection h with h
   subst h
   exact ⟨f, rfl, FM.le.refl _, HS13⟩
 have c12 : ¬ (s1.At = s1.Goal) := c12
 refine seqRwI 11 kr (beq_eq_false_iff_ne.mpr c12) ?_
 refine seqRwI 12 kr (beq_eq_false_iff_ne.mpr c12) ?_
 refine seqRwI 13 kr (beq_eq_false_iff_ne.mpr c12) ?_
 refine seqL5 kr ?_
 refine nl (hK9 _ _ ?_)
 refine wp_ret ?_
 refine hret _ _ ?_
 refine ends_still (v := Value.bool false) kr kr ?_
 have HS14 := HS6.drop
 injection h with h
 subst h
 exact ⟨f, rfl, FM.le.refl _, HS14⟩

set_option maxRecDepth 100000 in
set_option maxHeartbeats 4000000 in
theorem mount_Check.calls (k : Nat)  (m1 : S_Mount) (s2 : S_State2) {t w : World} {f : FM} {H : List Seg} (HS : St t w f (H)) (rr1 : Int) (h : mount_Check k m1 s2 = some rr1) :
    Calls Try.prog 45 #[.agg (cl_Mount m1), .agg (cl_State2 s2)] w (fun e w' => ∃ (g : FM), e = .returned (Value.int .i64 rr1) ∧ FM.le f g ∧ St t w' g (H)) := by
 unfold mount_Check at h
 refine enter Try.func45 rfl (tm := ⟨[(ag_Mount m1), (ag_State2 s2)] ++ (un 109 [])⟩) kr ?_
 intro B hret hnor hnp
 refine wp_seq_k fun K3 hK4 => rl ?_
 refine seqK rfl (does_box (cs := (cl_Mount m1)) rfl (kv (.agg (cl_Mount m1))) rfl HS ?_)
 intro b5 W6 HS7
 refine seqK rfl (does_box (cs := (cl_State2 s2)) rfl (kv (.agg (cl_State2 s2))) rfl HS7 ?_)
 intro b9 W10 HS11
 refine seqL1 kr ?_
 refine nl (hK4 _ _ ?_)
 refine wp_seq_k (fun K13 hK14 => ?_)
 refine wp_seq_k fun K15 hK16 => rl ?_
 refine seqK rfl (does_run (run_loadN (n := 10) rfl Try.underlying31 rfl kr (kv (pV b5 0)) (cs := (ll_Mount m1)) rfl (HS11.u1.cells 0 10 _ rfl)) ?_)
 replace h := bind_some h; obtain ⟨vt17, hc18, h⟩ := h
 refine seqK rfl (does_call kr (slew_CheckMount.calls k m1 HS11 vt17 hc18) ?_)
 rintro _ W21 ⟨f19, rfl, L20, HS22⟩
 refine ⟨_, rfl, ?_⟩
 refine seqL1 kr ?_
 refine nl (hK16 _ _ ?_)
 refine wp_seq_k fun K23 hK24 => rl ?_
 refine seqL2 kr ?_
 refine nl (hK24 _ _ ?_)
 replace h := ite_some h; rcases h with ⟨c26, h⟩ | ⟨c26, h⟩
 · have c26 : vt17 ≠ 0 := c26
   refine wpRwI 12 kr (bne_iff_ne.mpr c26) ?_
   refine condT kr ?_
   refine wp_seq_k (fun K27 hK28 => ?_)
   exact nomatch h
 have c26 : ¬ (vt17 ≠ 0) := c26
 refine wpRwI 12 (x := (vt17 != 0)) (v := false) kr (bne_eq_false_iff_eq.mpr (Decidable.of_not_not c26)) ?_
 refine condF kr ?_
 refine wp_skip ?_
 refine hK14 _ _ ?_
 refine wp_seq_k (fun K29 hK30 => ?_)
 refine wp_seq_k fun K31 hK32 => rl ?_
 refine seqL1 kr ?_
 refine seqK rfl (does_run (run_loadN (n := 4) rfl Try.underlying27 rfl kr (kv (pV b5 0)) (cs := (ll_Axis m1.Az)) rfl (HS22.u1.cells 0 4 _ rfl)) ?_)
 refine seqL1 kr ?_
 refine seqK rfl (does_run (run_loadN (n := 4) rfl Try.underlying49 rfl kr (kv (pV b9 0)) (cs := (ll_State s2.Az)) rfl (HS22.cells 0 4 _ rfl)) ?_)
 replace h := bind_some h; obtain ⟨vt33, hc34, h⟩ := h
 refine seqK rfl (does_call kr (axis_Check.calls k m1.Az s2.Az HS22 vt33 hc34) ?_)
 rintro _ W37 ⟨f35, rfl, L36, HS38⟩
 refine ⟨_, rfl, ?_⟩
 refine seqL1 kr ?_
 refine nl (hK32 _ _ ?_)
 refine wp_seq_k fun K39 hK40 => rl ?_
 refine seqL2 kr ?_
 refine nl (hK40 _ _ ?_)
 replace h := ite_some h; rcases h with ⟨c42, h⟩ | ⟨c42, h⟩
 · have c42 : vt33 ≠ 0 := c42
   refine wpRwI 20 kr (bne_iff_ne.mpr c42) ?_
   refine condT kr ?_
   refine wp_seq_k (fun K43 hK44 => ?_)
   exact nomatch h
 have c42 : ¬ (vt33 ≠ 0) := c42
 refine wpRwI 20 (x := (vt33 != 0)) (v := false) kr (bne_eq_false_iff_eq.mpr (Decidable.of_not_not c42)) ?_
 refine condF kr ?_
 refine wp_skip ?_
 refine hK30 _ _ ?_
 refine wp_seq_k (fun K45 hK46 => ?_)
 refine wp_seq_k fun K47 hK48 => rl ?_
 refine seqL1 kr ?_
 refine seqK rfl (does_run (run_loadN (n := 4) rfl Try.underlying27 rfl kr (kv (pV b5 4)) (cs := (ll_Axis m1.Alt)) rfl (HS38.u1.cells 4 4 _ rfl)) ?_)
 refine seqL1 kr ?_
 refine seqK rfl (does_run (run_loadN (n := 4) rfl Try.underlying49 rfl kr (kv (pV b9 4)) (cs := (ll_State s2.Alt)) rfl (HS38.cells 4 4 _ rfl)) ?_)
 replace h := bind_some h; obtain ⟨vt49, hc50, h⟩ := h
 refine seqK rfl (does_call kr (axis_Check.calls k m1.Alt s2.Alt HS38 vt49 hc50) ?_)
 rintro _ W53 ⟨f51, rfl, L52, HS54⟩
 refine ⟨_, rfl, ?_⟩
 refine seqL1 kr ?_
 refine nl (hK48 _ _ ?_)
 refine wp_seq_k fun K55 hK56 => rl ?_
 refine seqL2 kr ?_
 refine nl (hK56 _ _ ?_)
 replace h := ite_some h; rcases h with ⟨c58, h⟩ | ⟨c58, h⟩
 · have c58 : vt49 ≠ 0 := c58
   refine wpRwI 28 kr (bne_iff_ne.mpr c58) ?_
   refine condT kr ?_
   refine wp_seq_k (fun K59 hK60 => ?_)
   exact nomatch h
 have c58 : ¬ (vt49 ≠ 0) := c58
 refine wpRwI 28 (x := (vt49 != 0)) (v := false) kr (bne_eq_false_iff_eq.mpr (Decidable.of_not_not c58)) ?_
 refine condF kr ?_
 refine wp_skip ?_
 refine hK46 _ _ ?_
 refine wp_seq_k (fun K61 hK62 => ?_)
 refine wp_seq_k (fun K63 hK64 => ?_)
 replace h := bind_some h; obtain ⟨v65, hv73, h⟩ := h
 have J74 : ∀ (f67 : FM) (x72 : Bool) (j71 : Nat → Value) (W69 : World) (a_ : Act), FM.le f51 f67 → some (x72) = some v65 → St t W69 f67 ([(b9, .cells (cl_State2 s2) 51 (0, 0))] :: [(b5, .cells (cl_Mount m1) 31 (0, 0))] :: H) → a_ = ⟨⟨[(ag_Mount m1), (ag_State2 s2), pV b5 0, pV b9 0, iV 0, iV vt17, iV vt33, iV vt49, uV, (ag_Mount m1), iV vt17, iV vt17, fV, uV, pV b5 0, (ag_Axis m1.Az), pV b9 0, (ag_State s2.Az), iV vt33, iV vt33, fV, uV, pV b5 4, (ag_Axis m1.Alt), pV b9 4, (ag_State s2.Alt), iV vt49, iV vt49, fV, uV] ++ (jr j71 0 7 ([.bool x72] ++ (un 73 [])))⟩, []⟩ → K63 a_ W69 := by
  intro f67 x72 j71 W69 a_ L68 hj75 HS70  hfr_; subst hfr_
  injection hj75 with hj75; subst hj75; try dsimp only at h
  refine hK64 _ _ ?_
  replace h := ite_some h; rcases h with ⟨c77, h⟩ | ⟨c77, h⟩
  · have c77 : x72 = true := c77
    refine wpRwI 37 kr c77 ?_
    refine condT kr ?_
    refine wp_seq_k (fun K78 hK79 => ?_)
    exact nomatch h
  have c77 : ¬ (x72 = true) := c77
  refine wpRwI 37 kr (Bool.eq_false_iff.mpr c77) ?_
  refine condF kr ?_
  refine wp_skip ?_
  refine hK62 _ _ ?_
  refine wp_seq_k fun K80 hK81 => rl ?_
  refine seqL1 kr ?_
  refine nl (hK81 _ _ ?_)
  refine wp_seq_k (fun K82 hK83 => ?_)
  refine wp_seq_k fun K84 hK85 => rl ?_
  refine seqL1 kr ?_
  refine seqK rfl (does_run (run_load rfl Try.underlying3 rfl (kv (pV b9 8)) (HS70.cell 8)) ?_)
  refine nl (hK85 _ _ ?_)
  refine blockK (fun B86 hx87 hn88 hr89 ho90 hp91 => ?_)
  refine wp_seq_k fun K93 hK94 => rl ?_
  refine seqL2 kr ?_
  refine nl (hK94 _ _ ?_)
  replace h := ite_some h; rcases h with ⟨c96, h⟩ | ⟨c96, h⟩
  · have c96 : s2.Mode = 0 := c96
    refine wpRwI 73 kr (beq_iff_eq.mpr c96) ?_
    refine wpRwI 74 kr (beq_iff_eq.mpr c96) ?_
    refine condT kr ?_
    refine heldG (S := Sg t f67 ([(b9, .cells (cl_State2 s2) 51 (0, 0))] :: [(b5, .cells (cl_Mount m1) 31 (0, 0))] :: H) []) (n := 5) kr rfl HS70 ?_
    intro W97 HS98
    refine gQ 0 rfl kr kr kr kr kr (fun ch_ a_ w_ q_ => hnp ch_ a_ w_ (hp91 ch_ a_ w_ q_)) (Sg.g0 (Sx.of [] fL HS98)) (fun hl_ hS_ => run_loadN (n := 9) rfl Try.underlying51 rfl kr (kv (pV b9 0)) (cs := (ll_State2 s2)) rfl (hS_.cells 0 9 _ rfl)) fun X99 => ?_
    refine gQ 1 rfl kr kr kr kr kr (fun ch_ a_ w_ q_ => hnp ch_ a_ w_ (hp91 ch_ a_ w_ q_)) X99 (fun hl_ hS_ => run_loadN (n := 10) rfl Try.underlying31 rfl kr (kv (pV b5 0)) (cs := (ll_Mount m1)) rfl (hS_.u1.cells 0 10 _ rfl)) fun X100 => ?_
    replace h := bind_some h; obtain ⟨vt101, hc102, h⟩ := h
    refine takeGE 2 kr rfl kr (does_call kr (mount_Rest.calls k m1 HS98 vt101 hc102) ?_)
    rintro _ W105 ⟨f103, rfl, L104, HS106⟩
    refine ⟨_, rfl, ?_⟩
    refine kB (Sg.g0 (Sx.of [] L104 HS106)) fun X107 => ?_
    refine gQ 3 rfl kr kr kr kr kr (fun ch_ a_ w_ q_ => hnp ch_ a_ w_ (hp91 ch_ a_ w_ q_)) X107 (fun hl_ hS_ => run_eqS (b := (((s2.Az.At == vt101.Az.At) && ((s2.Az.Speed == vt101.Az.Speed) && ((s2.Az.Goal == vt101.Az.Goal) && ((s2.Az.Halt == vt101.Az.Halt) && true)))) && (((s2.Alt.At == vt101.Alt.At) && ((s2.Alt.Speed == vt101.Alt.Speed) && ((s2.Alt.Goal == vt101.Alt.Goal) && ((s2.Alt.Halt == vt101.Alt.Halt) && true)))) && ((s2.Mode == vt101.Mode) && true)))) rfl (kv (.agg (cl_State2 s2))) (kv (.agg (cl_State2 vt101))) kr kr _) fun X108 => ?_
    refine gL [4] (fuel := 0) #[true, true, true, true, true] rfl kr kr kr (fun ch_ a_ w_ q_ => hnp ch_ a_ w_ (hp91 ch_ a_ w_ q_)) X108 fun X109 => ?_
    refine doneG kr ?_ _
    refine hn88 _ _ ?_
    refine hK83 _ _ ?_
    refine wp_seq_k (fun K175 hK176 => ?_)
    refine wp_seq_k fun K177 hK178 => rl ?_
    refine seqL2 kr ?_
    refine nl (hK178 _ _ ?_)
    replace h := ite_some h; rcases h with ⟨c180, h⟩ | ⟨c180, h⟩
    · have c180 : ¬ ((((s2.Az.At == vt101.Az.At) && ((s2.Az.Speed == vt101.Az.Speed) && ((s2.Az.Goal == vt101.Az.Goal) && ((s2.Az.Halt == vt101.Az.Halt) && true)))) && (((s2.Alt.At == vt101.Alt.At) && ((s2.Alt.Speed == vt101.Alt.Speed) && ((s2.Alt.Goal == vt101.Alt.Goal) && ((s2.Alt.Halt == vt101.Alt.Halt) && true)))) && ((s2.Mode == vt101.Mode) && true))) = true) := c180
      refine wpRwI 110 kr (congrArg (fun b_ => !b_) (show (((s2.Az.At == vt101.Az.At) && ((s2.Az.Speed == vt101.Az.Speed) && ((s2.Az.Goal == vt101.Az.Goal) && ((s2.Az.Halt == vt101.Az.Halt) && true)))) && (((s2.Alt.At == vt101.Alt.At) && ((s2.Alt.Speed == vt101.Alt.Speed) && ((s2.Alt.Goal == vt101.Alt.Goal) && ((s2.Alt.Halt == vt101.Alt.Halt) && true)))) && ((s2.Mode == vt101.Mode) && true))) = false from (Bool.eq_false_iff.mpr c180)) : (!(((s2.Az.At == vt101.Az.At) && ((s2.Az.Speed == vt101.Az.Speed) && ((s2.Az.Goal == vt101.Az.Goal) && ((s2.Az.Halt == vt101.Az.Halt) && true)))) && (((s2.Alt.At == vt101.Alt.At) && ((s2.Alt.Speed == vt101.Alt.Speed) && ((s2.Alt.Goal == vt101.Alt.Goal) && ((s2.Alt.Halt == vt101.Alt.Halt) && true)))) && ((s2.Mode == vt101.Mode) && true)))) = true) ?_
      refine condT kr ?_
      refine wp_seq_k (fun K181 hK182 => ?_)
      exact nomatch h
    have c180 : ¬ (¬ ((((s2.Az.At == vt101.Az.At) && ((s2.Az.Speed == vt101.Az.Speed) && ((s2.Az.Goal == vt101.Az.Goal) && ((s2.Az.Halt == vt101.Az.Halt) && true)))) && (((s2.Alt.At == vt101.Alt.At) && ((s2.Alt.Speed == vt101.Alt.Speed) && ((s2.Alt.Goal == vt101.Alt.Goal) && ((s2.Alt.Halt == vt101.Alt.Halt) && true)))) && ((s2.Mode == vt101.Mode) && true))) = true)) := c180
    refine wpRwI 110 (x := (!(((s2.Az.At == vt101.Az.At) && ((s2.Az.Speed == vt101.Az.Speed) && ((s2.Az.Goal == vt101.Az.Goal) && ((s2.Az.Halt == vt101.Az.Halt) && true)))) && (((s2.Alt.At == vt101.Alt.At) && ((s2.Alt.Speed == vt101.Alt.Speed) && ((s2.Alt.Goal == vt101.Alt.Goal) && ((s2.Alt.Halt == vt101.Alt.Halt) && true)))) && ((s2.Mode == vt101.Mode) && true))))) (v := false) kr (congrArg (fun b_ => !b_) (show (((s2.Az.At == vt101.Az.At) && ((s2.Az.Speed == vt101.Az.Speed) && ((s2.Az.Goal == vt101.Az.Goal) && ((s2.Az.Halt == vt101.Az.Halt) && true)))) && (((s2.Alt.At == vt101.Alt.At) && ((s2.Alt.Speed == vt101.Alt.Speed) && ((s2.Alt.Goal == vt101.Alt.Goal) && ((s2.Alt.Halt == vt101.Alt.Halt) && true)))) && ((s2.Mode == vt101.Mode) && true))) = true from (Decidable.of_not_not c180)) : (!(((s2.Az.At == vt101.Az.At) && ((s2.Az.Speed == vt101.Az.Speed) && ((s2.Az.Goal == vt101.Az.Goal) && ((s2.Az.Halt == vt101.Az.Halt) && true)))) && (((s2.Alt.At == vt101.Alt.At) && ((s2.Alt.Speed == vt101.Alt.Speed) && ((s2.Alt.Goal == vt101.Alt.Goal) && ((s2.Alt.Halt == vt101.Alt.Halt) && true)))) && ((s2.Mode == vt101.Mode) && true)))) = false) ?_
    refine condF kr ?_
    refine wp_skip ?_
    refine hK176 _ _ ?_
    refine wp_seq_k fun K183 hK184 => rl ?_
    refine seqL1 kr ?_
    refine nl (hK184 _ _ ?_)
    refine wp_ret ?_
    refine hret _ _ ?_
    refine ends_still (v := Value.int .i64 0) kr kr ?_
    have HS195 := HS106.drop
    have HS196 := HS195.drop
    injection h with h
    subst h
    exact ⟨f103, rfl, (L20.trans (L36.trans (L52.trans (L68.trans L104)))), HS196⟩
  have c96 : ¬ (s2.Mode = 0) := c96
  refine wpRwI 73 kr (beq_eq_false_iff_ne.mpr c96) ?_
  refine wpRwI 74 kr (beq_eq_false_iff_ne.mpr c96) ?_
  refine condF kr ?_
  refine wp_seq_k fun K110 hK111 => rl ?_
  refine seqL2 kr ?_
  refine nl (hK111 _ _ ?_)
  replace h := bind_some h; obtain ⟨v112, hv172, h⟩ := h
  have J173 : ∀ (f166 : FM) (ok171 : Bool) (j170 : Nat → Value) (W168 : World) (a_ : Act), FM.le f67 f166 → some (ok171) = some v112 → St t W168 f166 ([(b9, .cells (cl_State2 s2) 51 (0, 0))] :: [(b5, .cells (cl_Mount m1) 31 (0, 0))] :: H) → a_ = ⟨⟨[(ag_Mount m1), (ag_State2 s2), pV b5 0, pV b9 0, iV 0, iV vt17, iV vt33, iV vt49, .bool ok171, (ag_Mount m1), iV vt17, iV vt17, fV, uV, pV b5 0, (ag_Axis m1.Az), pV b9 0, (ag_State s2.Az), iV vt33, iV vt33, fV, uV, pV b5 4, (ag_Axis m1.Alt), pV b9 4, (ag_State s2.Alt), iV vt49, iV vt49, fV, uV] ++ (jr j71 0 7 ([fV, pV b9 8, iV s2.Mode] ++ (jr j170 0 33 ([fV, fV] ++ (un 4 ([.bool (s2.Mode == 1), .bool (s2.Mode == 1)] ++ (jr j170 33 28 [uV, uV])))))))⟩, []⟩ → B86 Exit.normal a_ W168 := by
   intro f166 ok171 j170 W168 a_ L167 hj174 HS169  hfr_; subst hfr_
   injection hj174 with hj174; subst hj174; try dsimp only at h
   refine hn88 _ _ ?_
   refine hK83 _ _ ?_
   refine wp_seq_k (fun K185 hK186 => ?_)
   refine wp_seq_k fun K187 hK188 => rl ?_
   refine seqL2 kr ?_
   refine nl (hK188 _ _ ?_)
   replace h := ite_some h; rcases h with ⟨c190, h⟩ | ⟨c190, h⟩
   · have c190 : ¬ (ok171 = true) := c190
     refine wpRwI 110 kr (congrArg (fun b_ => !b_) (show ok171 = false from (Bool.eq_false_iff.mpr c190)) : (!ok171) = true) ?_
     refine condT kr ?_
     refine wp_seq_k (fun K191 hK192 => ?_)
     exact nomatch h
   have c190 : ¬ (¬ (ok171 = true)) := c190
   refine wpRwI 110 (x := (!ok171)) (v := false) kr (congrArg (fun b_ => !b_) (show ok171 = true from (Decidable.of_not_not c190)) : (!ok171) = false) ?_
   refine condF kr ?_
   refine wp_skip ?_
   refine hK186 _ _ ?_
   refine wp_seq_k fun K193 hK194 => rl ?_
   refine seqL1 kr ?_
   refine nl (hK194 _ _ ?_)
   refine wp_ret ?_
   refine hret _ _ ?_
   refine ends_still (v := Value.int .i64 0) kr kr ?_
   have HS197 := HS169.drop
   have HS198 := HS197.drop
   injection h with h
   subst h
   exact ⟨f166, rfl, (L20.trans (L36.trans (L52.trans (L68.trans L167)))), HS198⟩
  clear h; have h := hv172; clear hv172
  replace h := ite_some h; rcases h with ⟨c113, h⟩ | ⟨c113, h⟩
  · have c113 : s2.Mode = 1 := c113
    refine wpRwI 79 kr (beq_iff_eq.mpr c113) ?_
    refine wpRwI 80 kr (beq_iff_eq.mpr c113) ?_
    refine condT kr ?_
    refine rl ?_
    refine seqL1 kr ?_
    refine seqK rfl (does_run (run_loadN (n := 4) rfl Try.underlying49 rfl kr (kv (pV b9 0)) (cs := (ll_State s2.Az)) rfl (HS70.cells 0 4 _ rfl)) ?_)
    replace h := bind_some h; obtain ⟨vt114, hc115, h⟩ := h
    refine seqK rfl (does_call kr (axis_Resting.calls k s2.Az HS70 vt114 hc115) ?_)
    rintro _ W118 ⟨f116, rfl, L117, HS119⟩
    refine ⟨_, rfl, ?_⟩
    refine seqL1 kr ?_
    replace h := ite_some h; rcases h with ⟨c120, h⟩ | ⟨c120, h⟩
    rotate_left
    · have c120 : ¬ (vt114 = true) := c120
      refine seqRwI 83 kr (Bool.eq_false_iff.mpr c120) ?_
      refine seqRwI 84 kr (Bool.eq_false_iff.mpr c120) ?_
      refine seqL5 kr ?_
      refine nl ?_
      refine fnRwI (F := (B86 Exit.normal)) 80 (x := true) (v := (s2.Mode == 1)) kr (Eq.symm (beq_iff_eq.mpr c113)) ?_
      refine fnRwI (F := (B86 Exit.normal)) 79 (x := true) (v := (s2.Mode == 1)) kr (Eq.symm (beq_iff_eq.mpr c113)) ?_
      exact J173 f116 false (jL [uV, uV, uV, uV, uV, uV, uV, uV, uV, uV, uV, uV, uV, uV, uV, uV, uV, uV, uV, uV, uV, uV, uV, uV, uV, uV, uV, uV, uV, uV, uV, uV, uV, pV b9 0, (ag_State s2.Az), fV, fV, uV, uV, uV, fV]) W118 _ L117 h HS119 kr
    have c120 : vt114 = true := c120
    refine seqRwI 83 kr c120 ?_
    refine seqRwI 84 kr c120 ?_
    refine seqL1 kr ?_
    refine seqG kr (does_run (run_loadN (n := 4) rfl Try.underlying49 rfl kr (kv (pV b9 4)) (cs := (ll_State s2.Alt)) rfl (HS119.cells 4 4 _ rfl)) ?_)
    replace h := bind_some h; obtain ⟨vt121, hc122, h⟩ := h
    refine seqG kr (does_call kr (axis_Resting.calls k s2.Alt HS119 vt121 hc122) ?_)
    rintro _ W125 ⟨f123, rfl, L124, HS126⟩
    refine ⟨_, rfl, ?_⟩
    refine seqL2 kr ?_
    refine nl ?_
    refine fnRwI (F := (B86 Exit.normal)) 80 (x := true) (v := (s2.Mode == 1)) kr (Eq.symm (beq_iff_eq.mpr c113)) ?_
    refine fnRwI (F := (B86 Exit.normal)) 79 (x := true) (v := (s2.Mode == 1)) kr (Eq.symm (beq_iff_eq.mpr c113)) ?_
    exact J173 f123 vt121 (jL [uV, uV, uV, uV, uV, uV, uV, uV, uV, uV, uV, uV, uV, uV, uV, uV, uV, uV, uV, uV, uV, uV, uV, uV, uV, uV, uV, uV, uV, uV, uV, uV, uV, pV b9 0, (ag_State s2.Az), tV, tV, pV b9 4, (ag_State s2.Alt), .bool vt121, .bool vt121]) W125 _ (L117.trans L124) h HS126 kr
  have c113 : ¬ (s2.Mode = 1) := c113
  refine wpRwI 79 kr (beq_eq_false_iff_ne.mpr c113) ?_
  refine wpRwI 80 kr (beq_eq_false_iff_ne.mpr c113) ?_
  refine condF kr ?_
  refine wp_seq_k fun K127 hK128 => rl ?_
  refine seqL2 kr ?_
  refine nl (hK128 _ _ ?_)
  replace h := bind_some h; obtain ⟨v129, hv163, h⟩ := h
  have J164 : ∀ (f157 : FM) (ok162 : Bool) (j161 : Nat → Value) (W159 : World) (a_ : Act), FM.le f67 f157 → some (ok162) = some v129 → St t W159 f157 ([(b9, .cells (cl_State2 s2) 51 (0, 0))] :: [(b5, .cells (cl_Mount m1) 31 (0, 0))] :: H) → a_ = ⟨⟨[(ag_Mount m1), (ag_State2 s2), pV b5 0, pV b9 0, iV 0, iV vt17, iV vt33, iV vt49, .bool ok162, (ag_Mount m1), iV vt17, iV vt17, fV, uV, pV b5 0, (ag_Axis m1.Az), pV b9 0, (ag_State s2.Az), iV vt33, iV vt33, fV, uV, pV b5 4, (ag_Axis m1.Alt), pV b9 4, (ag_State s2.Alt), iV vt49, iV vt49, fV, uV] ++ (jr j71 0 7 ([fV, pV b9 8, iV s2.Mode] ++ (jr j161 0 33 ([fV, fV] ++ (un 4 ([fV, fV] ++ (un 8 ([.bool (s2.Mode == 5), .bool (s2.Mode == 5)] ++ (jr j161 33 18 [uV, uV])))))))))⟩, []⟩ → B86 Exit.normal a_ W159 := by
   intro f157 ok162 j161 W159 a_ L158 hj165 HS160  hfr_; subst hfr_
   injection hj165 with hj165; subst hj165; try dsimp only at h
   refine fnRwI (F := (B86 Exit.normal)) 80 (x := false) (v := (s2.Mode == 1)) kr (Eq.symm (beq_eq_false_iff_ne.mpr c113)) ?_
   refine fnRwI (F := (B86 Exit.normal)) 79 (x := false) (v := (s2.Mode == 1)) kr (Eq.symm (beq_eq_false_iff_ne.mpr c113)) ?_
   exact J173 f157 ok162 (jL [(j161 0), (j161 1), (j161 2), (j161 3), (j161 4), (j161 5), (j161 6), (j161 7), (j161 8), (j161 9), (j161 10), (j161 11), (j161 12), (j161 13), (j161 14), (j161 15), (j161 16), (j161 17), (j161 18), (j161 19), (j161 20), (j161 21), (j161 22), (j161 23), (j161 24), (j161 25), (j161 26), (j161 27), (j161 28), (j161 29), (j161 30), (j161 31), (j161 32), uV, uV, uV, uV, uV, uV, uV, uV, .bool (s2.Mode == 5), .bool (s2.Mode == 5), (j161 33), (j161 34), (j161 35), (j161 36), (j161 37), (j161 38), (j161 39), (j161 40), (j161 41), (j161 42), (j161 43), (j161 44), (j161 45), (j161 46), (j161 47), (j161 48), (j161 49), (j161 50)]) W159 _ L158 h HS160 kr
  clear h; have h := hv163; clear hv163
  replace h := ite_some h; rcases h with ⟨c130, h⟩ | ⟨c130, h⟩
  rotate_left
  · have c130 : ¬ (s2.Mode = 5) := c130
    refine wpRwI 89 kr (beq_eq_false_iff_ne.mpr c130) ?_
    refine wpRwI 90 kr (beq_eq_false_iff_ne.mpr c130) ?_
    refine condF kr ?_
    refine rl ?_
    refine seqL2 kr ?_
    refine seqK rfl (does_run (run_load rfl Try.underlying4 rfl (kv (pV b9 3)) (HS70.cell 3)) ?_)
    refine seqL2 kr ?_
    replace h := ite_some h; rcases h with ⟨c153, h⟩ | ⟨c153, h⟩
    rotate_left
    · have c153 : ¬ (¬ (s2.Az.Halt = true)) := c153
      refine seqRwI 43 (x := (!s2.Az.Halt)) (v := false) kr (congrArg (fun b_ => !b_) (show s2.Az.Halt = true from (Decidable.of_not_not c153)) : (!s2.Az.Halt) = false) ?_
      refine seqRwI 44 (x := (!s2.Az.Halt)) (v := false) kr (congrArg (fun b_ => !b_) (show s2.Az.Halt = true from (Decidable.of_not_not c153)) : (!s2.Az.Halt) = false) ?_
      refine seqL29 kr ?_
      refine nl ?_
      refine fnRwI (F := (B86 Exit.normal)) 90 (x := false) (v := (s2.Mode == 5)) kr (Eq.symm (beq_eq_false_iff_ne.mpr c130)) ?_
      refine fnRwI (F := (B86 Exit.normal)) 89 (x := false) (v := (s2.Mode == 5)) kr (Eq.symm (beq_eq_false_iff_ne.mpr c130)) ?_
      exact J164 f67 false (jL [pV b9 0, pV b9 3, .bool s2.Az.Halt, fV, fV, uV, uV, uV, uV, fV, fV, uV, uV, uV, uV, uV, uV, uV, uV, uV, uV, uV, uV, uV, uV, uV, uV, uV, uV, uV, uV, uV, fV]) W69 _ fL h HS70 kr
    have c153 : ¬ (s2.Az.Halt = true) := c153
    refine seqRwI 43 kr (congrArg (fun b_ => !b_) (show s2.Az.Halt = false from (Bool.eq_false_iff.mpr c153)) : (!s2.Az.Halt) = true) ?_
    refine seqRwI 44 kr (congrArg (fun b_ => !b_) (show s2.Az.Halt = false from (Bool.eq_false_iff.mpr c153)) : (!s2.Az.Halt) = true) ?_
    refine seqL2 kr ?_
    refine seqG kr (does_run (run_load rfl Try.underlying4 rfl (kv (pV b9 7)) (HS70.cell 7)) ?_)
    refine seqL3 kr ?_
    replace h := ite_some h; rcases h with ⟨c154, h⟩ | ⟨c154, h⟩
    rotate_left
    · have c154 : ¬ (¬ (s2.Alt.Halt = true)) := c154
      refine seqRwI 48 (x := (!s2.Alt.Halt)) (v := false) kr (congrArg (fun b_ => !b_) (show s2.Alt.Halt = true from (Decidable.of_not_not c154)) : (!s2.Alt.Halt) = false) ?_
      refine seqRwI 49 (x := (!s2.Alt.Halt)) (v := false) kr (congrArg (fun b_ => !b_) (show s2.Alt.Halt = true from (Decidable.of_not_not c154)) : (!s2.Alt.Halt) = false) ?_
      refine seqRwI 50 (x := (!s2.Alt.Halt)) (v := false) kr (congrArg (fun b_ => !b_) (show s2.Alt.Halt = true from (Decidable.of_not_not c154)) : (!s2.Alt.Halt) = false) ?_
      refine seqL23 kr ?_
      refine nl ?_
      refine fnRwI (F := (B86 Exit.normal)) 90 (x := false) (v := (s2.Mode == 5)) kr (Eq.symm (beq_eq_false_iff_ne.mpr c130)) ?_
      refine fnRwI (F := (B86 Exit.normal)) 89 (x := false) (v := (s2.Mode == 5)) kr (Eq.symm (beq_eq_false_iff_ne.mpr c130)) ?_
      exact J164 f67 false (jL [pV b9 0, pV b9 3, .bool s2.Az.Halt, tV, tV, pV b9 4, pV b9 7, .bool s2.Alt.Halt, fV, fV, fV, uV, uV, uV, uV, uV, uV, uV, uV, uV, uV, uV, uV, uV, uV, uV, uV, uV, uV, uV, uV, uV, fV]) W69 _ fL h HS70 kr
    have c154 : ¬ (s2.Alt.Halt = true) := c154
    refine seqRwI 48 kr (congrArg (fun b_ => !b_) (show s2.Alt.Halt = false from (Bool.eq_false_iff.mpr c154)) : (!s2.Alt.Halt) = true) ?_
    refine seqRwI 49 kr (congrArg (fun b_ => !b_) (show s2.Alt.Halt = false from (Bool.eq_false_iff.mpr c154)) : (!s2.Alt.Halt) = true) ?_
    refine seqRwI 50 kr (congrArg (fun b_ => !b_) (show s2.Alt.Halt = false from (Bool.eq_false_iff.mpr c154)) : (!s2.Alt.Halt) = true) ?_
    refine seqL1 kr ?_
    refine seqG kr (does_run (run_load rfl Try.underlying3 rfl (kv (pV b9 8)) (HS70.cell 8)) ?_)
    refine seqL2 kr ?_
    replace h := ite_some h; rcases h with ⟨c155, h⟩ | ⟨c155, h⟩
    · have c155 : s2.Mode ≠ 4 := c155
      refine seqRwI 53 kr (bne_iff_ne.mpr c155) ?_
      refine seqRwI 54 kr (bne_iff_ne.mpr c155) ?_
      refine seqL19 kr ?_
      refine nl ?_
      refine fnRwI (F := (B86 Exit.normal)) 90 (x := false) (v := (s2.Mode == 5)) kr (Eq.symm (beq_eq_false_iff_ne.mpr c130)) ?_
      refine fnRwI (F := (B86 Exit.normal)) 89 (x := false) (v := (s2.Mode == 5)) kr (Eq.symm (beq_eq_false_iff_ne.mpr c130)) ?_
      exact J164 f67 true (jL [pV b9 0, pV b9 3, .bool s2.Az.Halt, tV, tV, pV b9 4, pV b9 7, .bool s2.Alt.Halt, tV, tV, tV, pV b9 8, iV s2.Mode, tV, tV, uV, uV, uV, uV, uV, uV, uV, uV, uV, uV, uV, uV, uV, uV, uV, uV, tV, tV]) W69 _ fL h HS70 kr
    have c155 : ¬ (s2.Mode ≠ 4) := c155
    refine seqRwI 53 (x := (s2.Mode != 4)) (v := false) kr (bne_eq_false_iff_eq.mpr (Decidable.of_not_not c155)) ?_
    refine seqRwI 54 (x := (s2.Mode != 4)) (v := false) kr (bne_eq_false_iff_eq.mpr (Decidable.of_not_not c155)) ?_
    refine seqL2 kr ?_
    refine seqG kr (does_run (run_load rfl Try.underlying2 rfl (kv (pV b9 2)) (HS70.cell 2)) ?_)
    refine seqL2 kr ?_
    refine seqG kr (does_run (run_load rfl Try.underlying2 rfl (kv (pV b5 8)) (HS70.u1.cell 8)) ?_)
    refine seqL2 kr ?_
    replace h := ite_some h; rcases h with ⟨c156, h⟩ | ⟨c156, h⟩
    · have c156 : s2.Az.Goal = m1.Park.Az := c156
      refine seqRwI 61 kr (beq_iff_eq.mpr c156) ?_
      refine seqRwI 62 kr (beq_iff_eq.mpr c156) ?_
      refine seqL2 kr ?_
      refine seqG kr (does_run (run_load rfl Try.underlying2 rfl (kv (pV b9 6)) (HS70.cell 6)) ?_)
      refine seqL2 kr ?_
      refine seqG kr (does_run (run_load rfl Try.underlying2 rfl (kv (pV b5 9)) (HS70.u1.cell 9)) ?_)
      refine seqL5 kr ?_
      refine nl ?_
      refine fnRwI (F := (B86 Exit.normal)) 90 (x := false) (v := (s2.Mode == 5)) kr (Eq.symm (beq_eq_false_iff_ne.mpr c130)) ?_
      refine fnRwI (F := (B86 Exit.normal)) 89 (x := false) (v := (s2.Mode == 5)) kr (Eq.symm (beq_eq_false_iff_ne.mpr c130)) ?_
      exact J164 f67 (s2.Alt.Goal == m1.Park.Alt) (jL [pV b9 0, pV b9 3, .bool s2.Az.Halt, tV, tV, pV b9 4, pV b9 7, .bool s2.Alt.Halt, tV, tV, tV, pV b9 8, iV s2.Mode, fV, fV, pV b9 0, pV b9 2, iV s2.Az.Goal, pV b5 8, pV b5 8, iV m1.Park.Az, tV, tV, pV b9 4, pV b9 6, iV s2.Alt.Goal, pV b5 8, pV b5 9, iV m1.Park.Alt, .bool (s2.Alt.Goal == m1.Park.Alt), .bool (s2.Alt.Goal == m1.Park.Alt), .bool (s2.Alt.Goal == m1.Park.Alt), .bool (s2.Alt.Goal == m1.Park.Alt)]) W69 _ fL h HS70 kr
    have c156 : ¬ (s2.Az.Goal = m1.Park.Az) := c156
    refine seqRwI 61 kr (beq_eq_false_iff_ne.mpr c156) ?_
    refine seqRwI 62 kr (beq_eq_false_iff_ne.mpr c156) ?_
    refine seqL11 kr ?_
    refine nl ?_
    refine fnRwI (F := (B86 Exit.normal)) 90 (x := false) (v := (s2.Mode == 5)) kr (Eq.symm (beq_eq_false_iff_ne.mpr c130)) ?_
    refine fnRwI (F := (B86 Exit.normal)) 89 (x := false) (v := (s2.Mode == 5)) kr (Eq.symm (beq_eq_false_iff_ne.mpr c130)) ?_
    exact J164 f67 false (jL [pV b9 0, pV b9 3, .bool s2.Az.Halt, tV, tV, pV b9 4, pV b9 7, .bool s2.Alt.Halt, tV, tV, tV, pV b9 8, iV s2.Mode, fV, fV, pV b9 0, pV b9 2, iV s2.Az.Goal, pV b5 8, pV b5 8, iV m1.Park.Az, fV, fV, uV, uV, uV, uV, uV, uV, uV, fV, fV, fV]) W69 _ fL h HS70 kr
  have c130 : s2.Mode = 5 := c130
  refine wpRwI 89 kr (beq_iff_eq.mpr c130) ?_
  refine wpRwI 90 kr (beq_iff_eq.mpr c130) ?_
  refine condT kr ?_
  refine rl ?_
  refine seqL2 kr ?_
  refine seqK rfl (does_run (run_load rfl Try.underlying4 rfl (kv (pV b9 3)) (HS70.cell 3)) ?_)
  refine seqL1 kr ?_
  replace h := ite_some h; rcases h with ⟨c131, h⟩ | ⟨c131, h⟩
  · have c131 : s2.Az.Halt = true := c131
    refine seqRwI 93 kr c131 ?_
    refine seqRwI 94 kr c131 ?_
    refine seqL7 kr ?_
    refine seqG kr (does_run (run_load rfl Try.underlying4 rfl (kv (pV b9 7)) (HS70.cell 7)) ?_)
    refine seqL1 kr ?_
    replace h := ite_some h; rcases h with ⟨c132, h⟩ | ⟨c132, h⟩
    · have c132 : s2.Alt.Halt = true := c132
      refine seqRwI 102 kr c132 ?_
      refine seqRwI 103 kr c132 ?_
      refine seqL6 kr ?_
      refine nl ?_
      refine fnRwI (F := (B86 Exit.normal)) 90 (x := true) (v := (s2.Mode == 5)) kr (Eq.symm (beq_iff_eq.mpr c130)) ?_
      refine fnRwI (F := (B86 Exit.normal)) 89 (x := true) (v := (s2.Mode == 5)) kr (Eq.symm (beq_iff_eq.mpr c130)) ?_
      exact J164 f67 true (jL [uV, uV, uV, uV, uV, uV, uV, uV, uV, uV, uV, uV, uV, uV, uV, uV, uV, uV, uV, uV, uV, uV, uV, uV, uV, uV, uV, uV, uV, uV, uV, uV, uV, pV b9 0, pV b9 3, tV, tV, uV, uV, uV, tV, tV, pV b9 4, pV b9 7, tV, tV, uV, uV, uV, tV, tV]) W69 _ fL h HS70 kr
    have c132 : ¬ (s2.Alt.Halt = true) := c132
    refine seqRwI 102 kr (Bool.eq_false_iff.mpr c132) ?_
    refine seqRwI 103 kr (Bool.eq_false_iff.mpr c132) ?_
    refine seqL1 kr ?_
    refine seqG kr (does_run (run_loadN (n := 4) rfl Try.underlying49 rfl kr (kv (pV b9 4)) (cs := (ll_State s2.Alt)) rfl (HS70.cells 4 4 _ rfl)) ?_)
    replace h := bind_some h; obtain ⟨vt133, hc134, h⟩ := h
    refine seqG kr (does_call kr (axis_Resting.calls k s2.Alt HS70 vt133 hc134) ?_)
    rintro _ W137 ⟨f135, rfl, L136, HS138⟩
    refine ⟨_, rfl, ?_⟩
    refine seqL3 kr ?_
    refine nl ?_
    refine fnRwI (F := (B86 Exit.normal)) 90 (x := true) (v := (s2.Mode == 5)) kr (Eq.symm (beq_iff_eq.mpr c130)) ?_
    refine fnRwI (F := (B86 Exit.normal)) 89 (x := true) (v := (s2.Mode == 5)) kr (Eq.symm (beq_iff_eq.mpr c130)) ?_
    exact J164 f135 vt133 (jL [uV, uV, uV, uV, uV, uV, uV, uV, uV, uV, uV, uV, uV, uV, uV, uV, uV, uV, uV, uV, uV, uV, uV, uV, uV, uV, uV, uV, uV, uV, uV, uV, uV, pV b9 0, pV b9 3, tV, tV, uV, uV, uV, tV, tV, pV b9 4, pV b9 7, fV, fV, pV b9 4, (ag_State s2.Alt), .bool vt133, .bool vt133, .bool vt133]) W137 _ L136 h HS138 kr
  have c131 : ¬ (s2.Az.Halt = true) := c131
  refine seqRwI 93 kr (Bool.eq_false_iff.mpr c131) ?_
  refine seqRwI 94 kr (Bool.eq_false_iff.mpr c131) ?_
  refine seqL1 kr ?_
  refine seqG kr (does_run (run_loadN (n := 4) rfl Try.underlying49 rfl kr (kv (pV b9 0)) (cs := (ll_State s2.Az)) rfl (HS70.cells 0 4 _ rfl)) ?_)
  replace h := bind_some h; obtain ⟨vt139, hc140, h⟩ := h
  refine seqG kr (does_call kr (axis_Resting.calls k s2.Az HS70 vt139 hc140) ?_)
  rintro _ W143 ⟨f141, rfl, L142, HS144⟩
  refine ⟨_, rfl, ?_⟩
  refine seqL2 kr ?_
  replace h := ite_some h; rcases h with ⟨c145, h⟩ | ⟨c145, h⟩
  rotate_left
  · have c145 : ¬ (vt139 = true) := c145
    refine seqRwI 97 kr (Bool.eq_false_iff.mpr c145) ?_
    refine seqRwI 98 kr (Bool.eq_false_iff.mpr c145) ?_
    refine seqRwI 99 kr (Bool.eq_false_iff.mpr c145) ?_
    refine seqL10 kr ?_
    refine nl ?_
    refine fnRwI (F := (B86 Exit.normal)) 90 (x := true) (v := (s2.Mode == 5)) kr (Eq.symm (beq_iff_eq.mpr c130)) ?_
    refine fnRwI (F := (B86 Exit.normal)) 89 (x := true) (v := (s2.Mode == 5)) kr (Eq.symm (beq_iff_eq.mpr c130)) ?_
    exact J164 f141 false (jL [uV, uV, uV, uV, uV, uV, uV, uV, uV, uV, uV, uV, uV, uV, uV, uV, uV, uV, uV, uV, uV, uV, uV, uV, uV, uV, uV, uV, uV, uV, uV, uV, uV, pV b9 0, pV b9 3, fV, fV, pV b9 0, (ag_State s2.Az), fV, fV, fV, uV, uV, uV, uV, uV, uV, uV, uV, fV]) W143 _ L142 h HS144 kr
  have c145 : vt139 = true := c145
  refine seqRwI 97 kr c145 ?_
  refine seqRwI 98 kr c145 ?_
  refine seqRwI 99 kr c145 ?_
  refine seqL2 kr ?_
  refine seqG kr (does_run (run_load rfl Try.underlying4 rfl (kv (pV b9 7)) (HS144.cell 7)) ?_)
  refine seqL1 kr ?_
  replace h := ite_some h; rcases h with ⟨c146, h⟩ | ⟨c146, h⟩
  · have c146 : s2.Alt.Halt = true := c146
    refine seqRwI 102 kr c146 ?_
    refine seqRwI 103 kr c146 ?_
    refine seqL6 kr ?_
    refine nl ?_
    refine fnRwI (F := (B86 Exit.normal)) 90 (x := true) (v := (s2.Mode == 5)) kr (Eq.symm (beq_iff_eq.mpr c130)) ?_
    refine fnRwI (F := (B86 Exit.normal)) 89 (x := true) (v := (s2.Mode == 5)) kr (Eq.symm (beq_iff_eq.mpr c130)) ?_
    exact J164 f141 true (jL [uV, uV, uV, uV, uV, uV, uV, uV, uV, uV, uV, uV, uV, uV, uV, uV, uV, uV, uV, uV, uV, uV, uV, uV, uV, uV, uV, uV, uV, uV, uV, uV, uV, pV b9 0, pV b9 3, fV, fV, pV b9 0, (ag_State s2.Az), tV, tV, tV, pV b9 4, pV b9 7, tV, tV, uV, uV, uV, tV, tV]) W143 _ L142 h HS144 kr
  have c146 : ¬ (s2.Alt.Halt = true) := c146
  refine seqRwI 102 kr (Bool.eq_false_iff.mpr c146) ?_
  refine seqRwI 103 kr (Bool.eq_false_iff.mpr c146) ?_
  refine seqL1 kr ?_
  refine seqG kr (does_run (run_loadN (n := 4) rfl Try.underlying49 rfl kr (kv (pV b9 4)) (cs := (ll_State s2.Alt)) rfl (HS144.cells 4 4 _ rfl)) ?_)
  replace h := bind_some h; obtain ⟨vt147, hc148, h⟩ := h
  refine seqG kr (does_call kr (axis_Resting.calls k s2.Alt HS144 vt147 hc148) ?_)
  rintro _ W151 ⟨f149, rfl, L150, HS152⟩
  refine ⟨_, rfl, ?_⟩
  refine seqL3 kr ?_
  refine nl ?_
  refine fnRwI (F := (B86 Exit.normal)) 90 (x := true) (v := (s2.Mode == 5)) kr (Eq.symm (beq_iff_eq.mpr c130)) ?_
  refine fnRwI (F := (B86 Exit.normal)) 89 (x := true) (v := (s2.Mode == 5)) kr (Eq.symm (beq_iff_eq.mpr c130)) ?_
  exact J164 f149 vt147 (jL [uV, uV, uV, uV, uV, uV, uV, uV, uV, uV, uV, uV, uV, uV, uV, uV, uV, uV, uV, uV, uV, uV, uV, uV, uV, uV, uV, uV, uV, uV, uV, uV, uV, pV b9 0, pV b9 3, fV, fV, pV b9 0, (ag_State s2.Az), tV, tV, tV, pV b9 4, pV b9 7, fV, fV, pV b9 4, (ag_State s2.Alt), .bool vt147, .bool vt147, .bool vt147]) W151 _ (L142.trans L150) h HS152 kr
 clear h; have h := hv73; clear hv73
 refine rl ?_
 refine seqL1 kr ?_
 refine seqK rfl (does_run (run_load rfl Try.underlying3 rfl (kv (pV b9 8)) (HS54.cell 8)) ?_)
 refine seqL2 kr ?_
 replace h := ite_some h; rcases h with ⟨c66, h⟩ | ⟨c66, h⟩
 · have c66 : s2.Mode < 0 := c66
   refine seqRwI 32 kr (decide_eq_true c66) ?_
   refine seqRwI 33 kr (decide_eq_true c66) ?_
   refine seqL4 kr ?_
   refine nl ?_
   exact J74 f51 true (jL [pV b9 8, iV s2.Mode, tV, tV]) W53 _ fL h HS54 kr
 have c66 : ¬ (s2.Mode < 0) := c66
 refine seqRwI 32 kr (decide_eq_false c66) ?_
 refine seqRwI 33 kr (decide_eq_false c66) ?_
 refine seqL1 kr ?_
 refine seqG kr (does_run (run_load rfl Try.underlying3 rfl (kv (pV b9 8)) (HS54.cell 8)) ?_)
 refine seqL2 kr ?_
 refine nl ?_
 exact J74 f51 (decide (s2.Mode ≥ 6)) (jL [pV b9 8, iV s2.Mode, fV, fV, pV b9 8, iV s2.Mode, .bool (decide (s2.Mode ≥ 6))]) W53 _ fL h HS54 kr

set_option maxRecDepth 100000 in
set_option maxHeartbeats 4000000 in
theorem dome_Axis.calls (k : Nat)   {t w : World} {f : FM} {H : List Seg} (HS : St t w f (H)) (rr1 : S_Axis) (h : dome_Axis k = some rr1) :
    Calls Try.prog 63 #[] w (fun e w' => ∃ (g : FM), e = .returned (Value.agg (cl_Axis rr1)) ∧ FM.le f g ∧ St t w' g (H)) := by
 unfold dome_Axis at h
 refine enter Try.func63 rfl (tm := #[uV, uV]) kr ?_
 intro B hret hnor hnp
 refine wp_seq_k fun K1 hK2 => rl ?_
 refine seqK rfl (does_alloc (z := Value.agg (cm_Axis 0 0 0 0)) (cs := (cm_Axis 0 0 0 0)) rfl kr rfl HS ?_)
 intro b3 W4 HS5
 refine nl (hK2 _ _ ?_)
 refine wp_seq_k fun K7 hK8 => rl ?_
 refine seqL1 kr ?_
 refine seqK rfl (does_storeA (vs := (lm_Axis (-8589934592) 8589934592 33554432 4194304)) rfl kr kr kr rfl (ones rfl) HS5 kr ?_)
 intro W9 HS10
 refine nl (hK8 _ _ ?_)
 refine wp_ret ?_
 refine hret _ _ ?_
 refine ends (v := Value.agg (cm_Axis (-8589934592) 8589934592 33554432 4194304)) (results1 (q1 := .cell 0 27) kr (resN (n := 4) (cs := (lm_Axis (-8589934592) 8589934592 33554432 4194304)) (kv (pV b3 0)) Try.underlying27 rfl kr rfl (HS10.cells 0 4 _ rfl))) kr ?_
 have HS11 := HS10.drop
 injection h with h
 subst h
 exact ⟨f, rfl, FM.le.refl _, HS11⟩

set_option maxRecDepth 100000 in
set_option maxHeartbeats 4000000 in
theorem dome_Check.calls (k : Nat)  (s1 : S_State3) {t w : World} {f : FM} {H : List Seg} (HS : St t w f (H)) (rr1 : Int) (h : dome_Check k s1 = some rr1) :
    Calls Try.prog 46 #[.agg (cl_State3 s1)] w (fun e w' => ∃ (g : FM), e = .returned (Value.int .i64 rr1) ∧ FM.le f g ∧ St t w' g (H)) := by
 unfold dome_Check at h
 refine enter Try.func46 rfl (tm := ⟨[(ag_State3 s1)] ++ (un 32 [])⟩) kr ?_
 intro B hret hnor hnp
 refine wp_seq_k fun K2 hK3 => rl ?_
 refine seqK rfl (does_box (cs := (cl_State3 s1)) rfl (kv (.agg (cl_State3 s1))) rfl HS ?_)
 intro b4 W5 HS6
 refine seqL1 kr ?_
 refine nl (hK3 _ _ ?_)
 refine wp_seq_k (fun K8 hK9 => ?_)
 refine wp_seq_k (fun K10 hK11 => ?_)
 replace h := bind_some h; obtain ⟨v12, hv22, h⟩ := h
 have J23 : ∀ (f16 : FM) (x21 : Bool) (j20 : Nat → Value) (W18 : World) (a_ : Act), FM.le f f16 → some (x21) = some v12 → St t W18 f16 ([(b4, .cells (cl_State3 s1) 53 (0, 0))] :: H) → a_ = ⟨⟨[(ag_State3 s1), pV b4 0, iV 0] ++ (jr j20 0 17 ([.bool x21] ++ (un 12 [])))⟩, []⟩ → K10 a_ W18 := by
  intro f16 x21 j20 W18 a_ L17 hj24 HS19  hfr_; subst hfr_
  injection hj24 with hj24; subst hj24; try dsimp only at h
  refine hK11 _ _ ?_
  replace h := ite_some h; rcases h with ⟨c26, h⟩ | ⟨c26, h⟩
  · have c26 : x21 = true := c26
    refine wpRwI 20 kr c26 ?_
    refine condT kr ?_
    refine wp_seq_k (fun K27 hK28 => ?_)
    exact nomatch h
  have c26 : ¬ (x21 = true) := c26
  refine wpRwI 20 kr (Bool.eq_false_iff.mpr c26) ?_
  refine condF kr ?_
  refine wp_skip ?_
  refine hK9 _ _ ?_
  refine wp_seq_k (fun K29 hK30 => ?_)
  refine wp_seq_k (fun K31 hK32 => ?_)
  replace h := bind_some h; obtain ⟨v33, hv41, h⟩ := h
  have J42 : ∀ (f35 : FM) (x40 : Bool) (j39 : Nat → Value) (W37 : World) (a_ : Act), FM.le f16 f35 → some (x40) = some v33 → St t W37 f35 ([(b4, .cells (cl_State3 s1) 53 (0, 0))] :: H) → a_ = ⟨⟨[(ag_State3 s1), pV b4 0, iV 0] ++ (jr j20 0 17 ([fV] ++ (jr j39 0 7 ([.bool x40] ++ (un 4 [])))))⟩, []⟩ → K31 a_ W37 := by
   intro f35 x40 j39 W37 a_ L36 hj43 HS38  hfr_; subst hfr_
   injection hj43 with hj43; subst hj43; try dsimp only at h
   refine hK32 _ _ ?_
   replace h := ite_some h; rcases h with ⟨c45, h⟩ | ⟨c45, h⟩
   · have c45 : x40 = true := c45
     refine wpRwI 28 kr c45 ?_
     refine condT kr ?_
     refine wp_seq_k (fun K46 hK47 => ?_)
     exact nomatch h
   have c45 : ¬ (x40 = true) := c45
   refine wpRwI 28 kr (Bool.eq_false_iff.mpr c45) ?_
   refine condF kr ?_
   refine wp_skip ?_
   refine hK30 _ _ ?_
   refine wp_seq_k (fun K48 hK49 => ?_)
   refine heldG (S := Sg t f35 ([(b4, .cells (cl_State3 s1) 53 (0, 0))] :: H) []) (n := 5) kr rfl HS38 ?_
   intro W50 HS51
   refine gL [1] (fuel := 4) #[false, true, false, false, false] rfl kr kr kr hnp (Sg.g0 (Sx.of [] fL HS51)) fun X52 => ?_
   refine gQ 2 rfl kr kr kr kr kr hnp X52 (fun hl_ hS_ => run_loadN (n := 4) rfl Try.underlying49 rfl kr (kv (pV b4 4)) (cs := (ll_State s1.Turn)) rfl (hS_.cells 4 4 _ rfl)) fun X53 => ?_
   replace h := bind_some h; obtain ⟨vt54, hc55, h⟩ := h
   refine takeGE 0 kr rfl kr (does_call kr (dome_Axis.calls k  HS51 vt54 hc55) ?_)
   rintro _ W58 ⟨f56, rfl, L57, HS59⟩
   refine ⟨_, rfl, ?_⟩
   refine kB (Sg.g0 (Sx.of [] L57 HS59)) fun X60 => ?_
   replace h := bind_some h; obtain ⟨vt61, hc62, h⟩ := h
   refine takeGE 3 kr rfl kr (does_call kr (axis_Check.calls k vt54 s1.Turn HS59 vt61 hc62) ?_)
   rintro _ W65 ⟨f63, rfl, L64, HS66⟩
   refine ⟨_, rfl, ?_⟩
   refine kB (Sg.g0 (Sx.of [] (L57.trans L64) HS66)) fun X67 => ?_
   refine gL [4] (fuel := 0) #[true, true, true, true, true] rfl kr kr kr hnp X67 fun X68 => ?_
   refine doneG kr ?_ _
   refine hK49 _ _ ?_
   refine wp_ret ?_
   refine hret _ _ ?_
   refine ends_still (v := Value.int .i64 vt61) kr kr ?_
   have HS69 := HS66.drop
   injection h with h
   subst h
   exact ⟨f63, rfl, (L17.trans (L36.trans (L57.trans L64))), HS69⟩
  clear h; have h := hv41; clear hv41
  refine rl ?_
  refine seqL1 kr ?_
  refine seqK rfl (does_run (run_load rfl Try.underlying3 rfl (kv (pV b4 1)) (HS19.cell 1)) ?_)
  refine seqL2 kr ?_
  replace h := ite_some h; rcases h with ⟨c34, h⟩ | ⟨c34, h⟩
  · have c34 : s1.Cover > 0 := c34
    refine seqRwI 23 kr (decide_eq_true c34) ?_
    refine seqRwI 24 kr (decide_eq_true c34) ?_
    refine seqL1 kr ?_
    refine seqG kr (does_run (run_load rfl Try.underlying3 rfl (kv (pV b4 0)) (HS19.cell 0)) ?_)
    refine seqL2 kr ?_
    refine nl ?_
    exact J42 f16 (decide (s1.Shutter < 100)) (jL [pV b4 1, iV s1.Cover, tV, tV, pV b4 0, iV s1.Shutter, .bool (decide (s1.Shutter < 100))]) W18 _ fL h HS19 kr
  have c34 : ¬ (s1.Cover > 0) := c34
  refine seqRwI 23 kr (decide_eq_false c34) ?_
  refine seqRwI 24 kr (decide_eq_false c34) ?_
  refine seqL4 kr ?_
  refine nl ?_
  exact J42 f16 false (jL [pV b4 1, iV s1.Cover, fV, fV]) W18 _ fL h HS19 kr
 clear h; have h := hv22; clear hv22
 refine rl ?_
 refine seqL1 kr ?_
 refine seqK rfl (does_run (run_load rfl Try.underlying3 rfl (kv (pV b4 0)) (HS6.cell 0)) ?_)
 refine seqL2 kr ?_
 replace h := ite_some h; rcases h with ⟨c13, h⟩ | ⟨c13, h⟩
 · have c13 : s1.Shutter < 0 := c13
   refine seqRwI 5 kr (decide_eq_true c13) ?_
   refine seqRwI 6 kr (decide_eq_true c13) ?_
   refine seqL14 kr ?_
   refine nl ?_
   exact J23 f true (jL [pV b4 0, iV s1.Shutter, tV, tV, uV, uV, uV, tV, tV, uV, uV, uV, tV, tV]) W5 _ fL h HS6 kr
 have c13 : ¬ (s1.Shutter < 0) := c13
 refine seqRwI 5 kr (decide_eq_false c13) ?_
 refine seqRwI 6 kr (decide_eq_false c13) ?_
 refine seqL1 kr ?_
 refine seqG kr (does_run (run_load rfl Try.underlying3 rfl (kv (pV b4 0)) (HS6.cell 0)) ?_)
 refine seqL3 kr ?_
 replace h := ite_some h; rcases h with ⟨c14, h⟩ | ⟨c14, h⟩
 · have c14 : s1.Shutter > 100 := c14
   refine seqRwI 9 kr (decide_eq_true c14) ?_
   refine seqRwI 10 kr (decide_eq_true c14) ?_
   refine seqRwI 11 kr (decide_eq_true c14) ?_
   refine seqL9 kr ?_
   refine nl ?_
   exact J23 f true (jL [pV b4 0, iV s1.Shutter, fV, fV, pV b4 0, iV s1.Shutter, tV, tV, tV, uV, uV, uV, tV, tV]) W5 _ fL h HS6 kr
 have c14 : ¬ (s1.Shutter > 100) := c14
 refine seqRwI 9 kr (decide_eq_false c14) ?_
 refine seqRwI 10 kr (decide_eq_false c14) ?_
 refine seqRwI 11 kr (decide_eq_false c14) ?_
 refine seqL1 kr ?_
 refine seqG kr (does_run (run_load rfl Try.underlying3 rfl (kv (pV b4 1)) (HS6.cell 1)) ?_)
 refine seqL3 kr ?_
 replace h := ite_some h; rcases h with ⟨c15, h⟩ | ⟨c15, h⟩
 · have c15 : s1.Cover < 0 := c15
   refine seqRwI 14 kr (decide_eq_true c15) ?_
   refine seqRwI 15 kr (decide_eq_true c15) ?_
   refine seqRwI 16 kr (decide_eq_true c15) ?_
   refine seqL4 kr ?_
   refine nl ?_
   exact J23 f true (jL [pV b4 0, iV s1.Shutter, fV, fV, pV b4 0, iV s1.Shutter, fV, fV, fV, pV b4 1, iV s1.Cover, tV, tV, tV]) W5 _ fL h HS6 kr
 have c15 : ¬ (s1.Cover < 0) := c15
 refine seqRwI 14 kr (decide_eq_false c15) ?_
 refine seqRwI 15 kr (decide_eq_false c15) ?_
 refine seqRwI 16 kr (decide_eq_false c15) ?_
 refine seqL1 kr ?_
 refine seqG kr (does_run (run_load rfl Try.underlying3 rfl (kv (pV b4 1)) (HS6.cell 1)) ?_)
 refine seqL2 kr ?_
 refine nl ?_
 exact J23 f (decide (s1.Cover > 20)) (jL [pV b4 0, iV s1.Shutter, fV, fV, pV b4 0, iV s1.Shutter, fV, fV, fV, pV b4 1, iV s1.Cover, fV, fV, fV, pV b4 1, iV s1.Cover, .bool (decide (s1.Cover > 20))]) W5 _ fL h HS6 kr

set_option maxRecDepth 100000 in
set_option maxHeartbeats 4000000 in
theorem camera_Check.calls (k : Nat)  (s1 : S_State4) {t w : World} {f : FM} {H : List Seg} (HS : St t w f (H)) (rr1 : Int) (h : camera_Check k s1 = some rr1) :
    Calls Try.prog 47 #[.agg (cl_State4 s1)] w (fun e w' => ∃ (g : FM), e = .returned (Value.int .i64 rr1) ∧ FM.le f g ∧ St t w' g (H)) := by
 unfold camera_Check at h
 refine enter Try.func47 rfl (tm := ⟨[(ag_State4 s1)] ++ (un 82 [])⟩) kr ?_
 intro B hret hnor hnp
 refine wp_seq_k fun K2 hK3 => rl ?_
 refine seqK rfl (does_box (cs := (cl_State4 s1)) rfl (kv (.agg (cl_State4 s1))) rfl HS ?_)
 intro b4 W5 HS6
 refine seqL1 kr ?_
 refine nl (hK3 _ _ ?_)
 refine wp_seq_k (fun K8 hK9 => ?_)
 refine wp_seq_k (fun K10 hK11 => ?_)
 replace h := bind_some h; obtain ⟨v12, hv24, h⟩ := h
 have J25 : ∀ (f18 : FM) (x23 : Bool) (j22 : Nat → Value) (W20 : World) (a_ : Act), FM.le f f18 → some (x23) = some v12 → St t W20 f18 ([(b4, .cells (cl_State4 s1) 55 (0, 0))] :: H) → a_ = ⟨⟨[(ag_State4 s1), pV b4 0, iV 0, uV] ++ (jr j22 0 27 ([.bool x23] ++ (un 51 [])))⟩, []⟩ → K10 a_ W20 := by
  intro f18 x23 j22 W20 a_ L19 hj26 HS21  hfr_; subst hfr_
  injection hj26 with hj26; subst hj26; try dsimp only at h
  refine hK11 _ _ ?_
  replace h := ite_some h; rcases h with ⟨c28, h⟩ | ⟨c28, h⟩
  · have c28 : x23 = true := c28
    refine wpRwI 31 kr c28 ?_
    refine condT kr ?_
    refine wp_seq_k (fun K29 hK30 => ?_)
    exact nomatch h
  have c28 : ¬ (x23 = true) := c28
  refine wpRwI 31 kr (Bool.eq_false_iff.mpr c28) ?_
  refine condF kr ?_
  refine wp_skip ?_
  refine hK9 _ _ ?_
  refine wp_seq_k fun K31 hK32 => rl ?_
  refine seqL1 kr ?_
  refine nl (hK32 _ _ ?_)
  refine wp_seq_k (fun K33 hK34 => ?_)
  refine wp_seq_k fun K35 hK36 => rl ?_
  refine seqL1 kr ?_
  refine seqK rfl (does_run (run_load rfl Try.underlying3 rfl (kv (pV b4 0)) (HS21.cell 0)) ?_)
  refine nl (hK36 _ _ ?_)
  refine blockK (fun B37 hx38 hn39 hr40 ho41 hp42 => ?_)
  refine wp_seq_k fun K44 hK45 => rl ?_
  refine seqL2 kr ?_
  refine nl (hK45 _ _ ?_)
  replace h := bind_some h; obtain ⟨v46, hv87, h⟩ := h
  have J88 : ∀ (f81 : FM) (ok86 : Bool) (j85 : Nat → Value) (W83 : World) (a_ : Act), FM.le f18 f81 → some (ok86) = some v46 → St t W83 f81 ([(b4, .cells (cl_State4 s1) 55 (0, 0))] :: H) → a_ = ⟨⟨[(ag_State4 s1), pV b4 0, iV 0, .bool ok86] ++ (jr j22 0 27 ([fV, pV b4 0, iV s1.Mode, .bool (s1.Mode == 0), .bool (s1.Mode == 0)] ++ (jr j85 0 35 (un 12 []))))⟩, []⟩ → B37 Exit.normal a_ W83 := by
   intro f81 ok86 j85 W83 a_ L82 hj89 HS84  hfr_; subst hfr_
   injection hj89 with hj89; subst hj89; try dsimp only at h
   refine hn39 _ _ ?_
   refine hK34 _ _ ?_
   refine wp_seq_k (fun K90 hK91 => ?_)
   refine wp_seq_k (fun K92 hK93 => ?_)
   replace h := bind_some h; obtain ⟨v94, hv103, h⟩ := h
   have J104 : ∀ (f97 : FM) (x102 : Bool) (j101 : Nat → Value) (W99 : World) (a_ : Act), FM.le f81 f97 → some (x102) = some v94 → St t W99 f97 ([(b4, .cells (cl_State4 s1) 55 (0, 0))] :: H) → a_ = ⟨⟨[(ag_State4 s1), pV b4 0, iV 0, .bool ok86] ++ (jr j22 0 27 ([fV, pV b4 0, iV s1.Mode, .bool (s1.Mode == 0), .bool (s1.Mode == 0)] ++ (jr j85 0 35 (jr j101 0 11 [.bool x102]))))⟩, []⟩ → K92 a_ W99 := by
    intro f97 x102 j101 W99 a_ L98 hj105 HS100  hfr_; subst hfr_
    injection hj105 with hj105; subst hj105; try dsimp only at h
    refine hK93 _ _ ?_
    replace h := ite_some h; rcases h with ⟨c107, h⟩ | ⟨c107, h⟩
    · have c107 : x102 = true := c107
      refine wpRwI 82 kr c107 ?_
      refine condT kr ?_
      refine wp_seq_k (fun K108 hK109 => ?_)
      exact nomatch h
    have c107 : ¬ (x102 = true) := c107
    refine wpRwI 82 kr (Bool.eq_false_iff.mpr c107) ?_
    refine condF kr ?_
    refine wp_skip ?_
    refine hK91 _ _ ?_
    refine wp_seq_k fun K110 hK111 => rl ?_
    refine seqL1 kr ?_
    refine nl (hK111 _ _ ?_)
    refine wp_ret ?_
    refine hret _ _ ?_
    refine ends_still (v := Value.int .i64 0) kr kr ?_
    have HS112 := HS100.drop
    injection h with h
    subst h
    exact ⟨f97, rfl, (L19.trans (L82.trans L98)), HS112⟩
   clear h; have h := hv103; clear hv103
   refine rl ?_
   refine seqL3 kr ?_
   replace h := ite_some h; rcases h with ⟨c95, h⟩ | ⟨c95, h⟩
   · have c95 : ¬ (ok86 = true) := c95
     refine seqRwI 72 kr (congrArg (fun b_ => !b_) (show ok86 = false from (Bool.eq_false_iff.mpr c95)) : (!ok86) = true) ?_
     refine seqRwI 73 kr (congrArg (fun b_ => !b_) (show ok86 = false from (Bool.eq_false_iff.mpr c95)) : (!ok86) = true) ?_
     refine seqL9 kr ?_
     refine nl ?_
     exact J104 f81 true (jL [.bool ok86, tV, tV]) W83 _ fL h HS84 kr
   have c95 : ¬ (¬ (ok86 = true)) := c95
   refine seqRwI 72 (x := (!ok86)) (v := false) kr (congrArg (fun b_ => !b_) (show ok86 = true from (Decidable.of_not_not c95)) : (!ok86) = false) ?_
   refine seqRwI 73 (x := (!ok86)) (v := false) kr (congrArg (fun b_ => !b_) (show ok86 = true from (Decidable.of_not_not c95)) : (!ok86) = false) ?_
   refine seqL1 kr ?_
   refine seqG kr (does_run (run_load rfl Try.underlying3 rfl (kv (pV b4 0)) (HS84.cell 0)) ?_)
   refine seqL2 kr ?_
   replace h := ite_some h; rcases h with ⟨c96, h⟩ | ⟨c96, h⟩
   · have c96 : s1.Mode ≠ 0 := c96
     refine seqRwI 76 kr (bne_iff_ne.mpr c96) ?_
     refine seqRwI 77 kr (bne_iff_ne.mpr c96) ?_
     refine seqL1 kr ?_
     refine seqG kr (does_run (run_load rfl Try.underlying3 rfl (kv (pV b4 3)) (HS84.cell 3)) ?_)
     refine seqL3 kr ?_
     refine nl ?_
     exact J104 f81 (s1.Number == 0) (jL [.bool ok86, fV, fV, pV b4 0, iV s1.Mode, tV, tV, pV b4 3, iV s1.Number, .bool (s1.Number == 0), .bool (s1.Number == 0)]) W83 _ fL h HS84 kr
   have c96 : ¬ (s1.Mode ≠ 0) := c96
   refine seqRwI 76 (x := (s1.Mode != 0)) (v := false) kr (bne_eq_false_iff_eq.mpr (Decidable.of_not_not c96)) ?_
   refine seqRwI 77 (x := (s1.Mode != 0)) (v := false) kr (bne_eq_false_iff_eq.mpr (Decidable.of_not_not c96)) ?_
   refine seqL5 kr ?_
   refine nl ?_
   exact J104 f81 false (jL [.bool ok86, fV, fV, pV b4 0, iV s1.Mode, fV, fV, uV, uV, uV, fV]) W83 _ fL h HS84 kr
  clear h; have h := hv87; clear hv87
  replace h := ite_some h; rcases h with ⟨c47, h⟩ | ⟨c47, h⟩
  · have c47 : s1.Mode = 0 := c47
    refine wpRwI 34 kr (beq_iff_eq.mpr c47) ?_
    refine wpRwI 35 kr (beq_iff_eq.mpr c47) ?_
    refine condT kr ?_
    refine rl ?_
    refine seqL1 kr ?_
    refine seqK rfl (does_run (run_load rfl Try.underlying3 rfl (kv (pV b4 1)) (HS21.cell 1)) ?_)
    refine seqL2 kr ?_
    replace h := ite_some h; rcases h with ⟨c48, h⟩ | ⟨c48, h⟩
    · have c48 : s1.Left = 0 := c48
      refine seqRwI 38 kr (beq_iff_eq.mpr c48) ?_
      refine seqRwI 39 kr (beq_iff_eq.mpr c48) ?_
      refine seqL1 kr ?_
      refine seqG kr (does_run (run_load rfl Try.underlying3 rfl (kv (pV b4 2)) (HS21.cell 2)) ?_)
      refine seqL3 kr ?_
      refine nl ?_
      refine fnRwI (F := (B37 Exit.normal)) 35 (x := true) (v := (s1.Mode == 0)) kr (Eq.symm (beq_iff_eq.mpr c47)) ?_
      refine fnRwI (F := (B37 Exit.normal)) 34 (x := true) (v := (s1.Mode == 0)) kr (Eq.symm (beq_iff_eq.mpr c47)) ?_
      exact J88 f18 (s1.Beats == 0) (jL [pV b4 1, iV s1.Left, tV, tV, pV b4 2, iV s1.Beats, .bool (s1.Beats == 0), .bool (s1.Beats == 0)]) W20 _ fL h HS21 kr
    have c48 : ¬ (s1.Left = 0) := c48
    refine seqRwI 38 kr (beq_eq_false_iff_ne.mpr c48) ?_
    refine seqRwI 39 kr (beq_eq_false_iff_ne.mpr c48) ?_
    refine seqL5 kr ?_
    refine nl ?_
    refine fnRwI (F := (B37 Exit.normal)) 35 (x := true) (v := (s1.Mode == 0)) kr (Eq.symm (beq_iff_eq.mpr c47)) ?_
    refine fnRwI (F := (B37 Exit.normal)) 34 (x := true) (v := (s1.Mode == 0)) kr (Eq.symm (beq_iff_eq.mpr c47)) ?_
    exact J88 f18 false (jL [pV b4 1, iV s1.Left, fV, fV, uV, uV, uV, fV]) W20 _ fL h HS21 kr
  have c47 : ¬ (s1.Mode = 0) := c47
  refine wpRwI 34 kr (beq_eq_false_iff_ne.mpr c47) ?_
  refine wpRwI 35 kr (beq_eq_false_iff_ne.mpr c47) ?_
  refine condF kr ?_
  refine wp_seq_k fun K49 hK50 => rl ?_
  refine seqL2 kr ?_
  refine nl (hK50 _ _ ?_)
  replace h := bind_some h; obtain ⟨v51, hv78, h⟩ := h
  have J79 : ∀ (f72 : FM) (ok77 : Bool) (j76 : Nat → Value) (W74 : World) (a_ : Act), FM.le f18 f72 → some (ok77) = some v51 → St t W74 f72 ([(b4, .cells (cl_State4 s1) 55 (0, 0))] :: H) → a_ = ⟨⟨[(ag_State4 s1), pV b4 0, iV 0, .bool ok77] ++ (jr j22 0 27 ([fV, pV b4 0, iV s1.Mode, fV, fV] ++ (un 8 ([.bool (s1.Mode == 1), .bool (s1.Mode == 1)] ++ (jr j76 0 25 (un 12 []))))))⟩, []⟩ → B37 Exit.normal a_ W74 := by
   intro f72 ok77 j76 W74 a_ L73 hj80 HS75  hfr_; subst hfr_
   injection hj80 with hj80; subst hj80; try dsimp only at h
   refine fnRwI (F := (B37 Exit.normal)) 35 (x := false) (v := (s1.Mode == 0)) kr (Eq.symm (beq_eq_false_iff_ne.mpr c47)) ?_
   refine fnRwI (F := (B37 Exit.normal)) 34 (x := false) (v := (s1.Mode == 0)) kr (Eq.symm (beq_eq_false_iff_ne.mpr c47)) ?_
   exact J88 f72 ok77 (jL [uV, uV, uV, uV, uV, uV, uV, uV, .bool (s1.Mode == 1), .bool (s1.Mode == 1), (j76 0), (j76 1), (j76 2), (j76 3), (j76 4), (j76 5), (j76 6), (j76 7), (j76 8), (j76 9), (j76 10), (j76 11), (j76 12), (j76 13), (j76 14), (j76 15), (j76 16), (j76 17), (j76 18), (j76 19), (j76 20), (j76 21), (j76 22), (j76 23), (j76 24)]) W74 _ L73 h HS75 kr
  clear h; have h := hv78; clear hv78
  replace h := ite_some h; rcases h with ⟨c52, h⟩ | ⟨c52, h⟩
  · have c52 : s1.Mode = 1 := c52
    refine wpRwI 44 kr (beq_iff_eq.mpr c52) ?_
    refine wpRwI 45 kr (beq_iff_eq.mpr c52) ?_
    refine condT kr ?_
    refine rl ?_
    refine seqL1 kr ?_
    refine seqK rfl (does_run (run_load rfl Try.underlying3 rfl (kv (pV b4 1)) (HS21.cell 1)) ?_)
    refine seqL2 kr ?_
    replace h := ite_some h; rcases h with ⟨c53, h⟩ | ⟨c53, h⟩
    · have c53 : 1 ≤ s1.Left := c53
      refine seqRwI 48 kr (decide_eq_true c53) ?_
      refine seqRwI 49 kr (decide_eq_true c53) ?_
      refine seqL1 kr ?_
      refine seqG kr (does_run (run_load rfl Try.underlying3 rfl (kv (pV b4 1)) (HS21.cell 1)) ?_)
      refine seqL1 kr ?_
      refine seqG kr (does_run (run_load rfl Try.underlying3 rfl (kv (pV b4 2)) (HS21.cell 2)) ?_)
      refine seqL3 kr ?_
      refine nl ?_
      refine fnRwI (F := (B37 Exit.normal)) 45 (x := true) (v := (s1.Mode == 1)) kr (Eq.symm (beq_iff_eq.mpr c52)) ?_
      refine fnRwI (F := (B37 Exit.normal)) 44 (x := true) (v := (s1.Mode == 1)) kr (Eq.symm (beq_iff_eq.mpr c52)) ?_
      exact J79 f18 (decide (s1.Left ≤ s1.Beats)) (jL [pV b4 1, iV s1.Left, tV, tV, pV b4 1, iV s1.Left, pV b4 2, iV s1.Beats, .bool (decide (s1.Left ≤ s1.Beats)), .bool (decide (s1.Left ≤ s1.Beats))]) W20 _ fL h HS21 kr
    have c53 : ¬ (1 ≤ s1.Left) := c53
    refine seqRwI 48 kr (decide_eq_false c53) ?_
    refine seqRwI 49 kr (decide_eq_false c53) ?_
    refine seqL7 kr ?_
    refine nl ?_
    refine fnRwI (F := (B37 Exit.normal)) 45 (x := true) (v := (s1.Mode == 1)) kr (Eq.symm (beq_iff_eq.mpr c52)) ?_
    refine fnRwI (F := (B37 Exit.normal)) 44 (x := true) (v := (s1.Mode == 1)) kr (Eq.symm (beq_iff_eq.mpr c52)) ?_
    exact J79 f18 false (jL [pV b4 1, iV s1.Left, fV, fV, uV, uV, uV, uV, uV, fV]) W20 _ fL h HS21 kr
  have c52 : ¬ (s1.Mode = 1) := c52
  refine wpRwI 44 kr (beq_eq_false_iff_ne.mpr c52) ?_
  refine wpRwI 45 kr (beq_eq_false_iff_ne.mpr c52) ?_
  refine condF kr ?_
  refine wp_seq_k fun K54 hK55 => rl ?_
  refine seqL2 kr ?_
  refine nl (hK55 _ _ ?_)
  replace h := bind_some h; obtain ⟨v56, hv69, h⟩ := h
  have J70 : ∀ (f63 : FM) (ok68 : Bool) (j67 : Nat → Value) (W65 : World) (a_ : Act), FM.le f18 f63 → some (ok68) = some v56 → St t W65 f63 ([(b4, .cells (cl_State4 s1) 55 (0, 0))] :: H) → a_ = ⟨⟨[(ag_State4 s1), pV b4 0, iV 0, .bool ok68] ++ (jr j22 0 27 ([fV, pV b4 0, iV s1.Mode, fV, fV] ++ (un 8 ([fV, fV] ++ (un 10 ([.bool (s1.Mode == 2), .bool (s1.Mode == 2)] ++ (jr j67 0 13 (un 12 []))))))))⟩, []⟩ → B37 Exit.normal a_ W65 := by
   intro f63 ok68 j67 W65 a_ L64 hj71 HS66  hfr_; subst hfr_
   injection hj71 with hj71; subst hj71; try dsimp only at h
   refine fnRwI (F := (B37 Exit.normal)) 45 (x := false) (v := (s1.Mode == 1)) kr (Eq.symm (beq_eq_false_iff_ne.mpr c52)) ?_
   refine fnRwI (F := (B37 Exit.normal)) 44 (x := false) (v := (s1.Mode == 1)) kr (Eq.symm (beq_eq_false_iff_ne.mpr c52)) ?_
   exact J79 f63 ok68 (jL [uV, uV, uV, uV, uV, uV, uV, uV, uV, uV, .bool (s1.Mode == 2), .bool (s1.Mode == 2), (j67 0), (j67 1), (j67 2), (j67 3), (j67 4), (j67 5), (j67 6), (j67 7), (j67 8), (j67 9), (j67 10), (j67 11), (j67 12)]) W65 _ L64 h HS66 kr
  clear h; have h := hv69; clear hv69
  replace h := ite_some h; rcases h with ⟨c57, h⟩ | ⟨c57, h⟩
  · have c57 : s1.Mode = 2 := c57
    refine wpRwI 56 kr (beq_iff_eq.mpr c57) ?_
    refine wpRwI 57 kr (beq_iff_eq.mpr c57) ?_
    refine condT kr ?_
    refine rl ?_
    refine seqL1 kr ?_
    refine seqK rfl (does_run (run_load rfl Try.underlying3 rfl (kv (pV b4 1)) (HS21.cell 1)) ?_)
    refine seqL2 kr ?_
    replace h := ite_some h; rcases h with ⟨c58, h⟩ | ⟨c58, h⟩
    · have c58 : 1 ≤ s1.Left := c58
      refine seqRwI 60 kr (decide_eq_true c58) ?_
      refine seqRwI 61 kr (decide_eq_true c58) ?_
      refine seqL1 kr ?_
      refine seqG kr (does_run (run_load rfl Try.underlying3 rfl (kv (pV b4 1)) (HS21.cell 1)) ?_)
      refine seqL3 kr ?_
      refine nl ?_
      refine fnRwI (F := (B37 Exit.normal)) 57 (x := true) (v := (s1.Mode == 2)) kr (Eq.symm (beq_iff_eq.mpr c57)) ?_
      refine fnRwI (F := (B37 Exit.normal)) 56 (x := true) (v := (s1.Mode == 2)) kr (Eq.symm (beq_iff_eq.mpr c57)) ?_
      exact J70 f18 (decide (s1.Left ≤ 3)) (jL [pV b4 1, iV s1.Left, tV, tV, pV b4 1, iV s1.Left, .bool (decide (s1.Left ≤ 3)), .bool (decide (s1.Left ≤ 3))]) W20 _ fL h HS21 kr
    have c58 : ¬ (1 ≤ s1.Left) := c58
    refine seqRwI 60 kr (decide_eq_false c58) ?_
    refine seqRwI 61 kr (decide_eq_false c58) ?_
    refine seqL5 kr ?_
    refine nl ?_
    refine fnRwI (F := (B37 Exit.normal)) 57 (x := true) (v := (s1.Mode == 2)) kr (Eq.symm (beq_iff_eq.mpr c57)) ?_
    refine fnRwI (F := (B37 Exit.normal)) 56 (x := true) (v := (s1.Mode == 2)) kr (Eq.symm (beq_iff_eq.mpr c57)) ?_
    exact J70 f18 false (jL [pV b4 1, iV s1.Left, fV, fV, uV, uV, uV, fV]) W20 _ fL h HS21 kr
  have c57 : ¬ (s1.Mode = 2) := c57
  refine wpRwI 56 kr (beq_eq_false_iff_ne.mpr c57) ?_
  refine wpRwI 57 kr (beq_eq_false_iff_ne.mpr c57) ?_
  refine condF kr ?_
  refine wp_seq_k fun K59 hK60 => rl ?_
  refine seqL2 kr ?_
  refine nl (hK60 _ _ ?_)
  replace h := ite_some h; rcases h with ⟨c62, h⟩ | ⟨c62, h⟩
  · have c62 : s1.Mode = 3 := c62
    refine wpRwI 66 kr (beq_iff_eq.mpr c62) ?_
    refine wpRwI 67 kr (beq_iff_eq.mpr c62) ?_
    refine condT kr ?_
    refine rl ?_
    refine seqL1 kr ?_
    refine seqK rfl (does_run (run_load rfl Try.underlying3 rfl (kv (pV b4 1)) (HS21.cell 1)) ?_)
    refine seqL2 kr ?_
    refine nl ?_
    refine fnRwI (F := (B37 Exit.normal)) 57 (x := false) (v := (s1.Mode == 2)) kr (Eq.symm (beq_eq_false_iff_ne.mpr c57)) ?_
    refine fnRwI (F := (B37 Exit.normal)) 56 (x := false) (v := (s1.Mode == 2)) kr (Eq.symm (beq_eq_false_iff_ne.mpr c57)) ?_
    exact J70 f18 (s1.Left == 0) (jL [uV, uV, uV, uV, uV, uV, uV, uV, tV, tV, pV b4 1, iV s1.Left, .bool (s1.Left == 0)]) W20 _ fL h HS21 kr
  have c62 : ¬ (s1.Mode = 3) := c62
  refine wpRwI 66 kr (beq_eq_false_iff_ne.mpr c62) ?_
  refine wpRwI 67 kr (beq_eq_false_iff_ne.mpr c62) ?_
  refine condF kr ?_
  refine wp_skip ?_
  refine fnRwI (F := (B37 Exit.normal)) 57 (x := false) (v := (s1.Mode == 2)) kr (Eq.symm (beq_eq_false_iff_ne.mpr c57)) ?_
  refine fnRwI (F := (B37 Exit.normal)) 56 (x := false) (v := (s1.Mode == 2)) kr (Eq.symm (beq_eq_false_iff_ne.mpr c57)) ?_
  exact J70 f18 true (jL [uV, uV, uV, uV, uV, uV, uV, uV, fV, fV]) W20 _ fL h HS21 kr
 clear h; have h := hv24; clear hv24
 refine rl ?_
 refine seqL1 kr ?_
 refine seqK rfl (does_run (run_load rfl Try.underlying3 rfl (kv (pV b4 0)) (HS6.cell 0)) ?_)
 refine seqL2 kr ?_
 replace h := ite_some h; rcases h with ⟨c13, h⟩ | ⟨c13, h⟩
 · have c13 : s1.Mode < 0 := c13
   refine seqRwI 6 kr (decide_eq_true c13) ?_
   refine seqRwI 7 kr (decide_eq_true c13) ?_
   refine seqL24 kr ?_
   refine nl ?_
   exact J25 f true (jL [pV b4 0, iV s1.Mode, tV, tV, uV, uV, uV, tV, tV, uV, uV, uV, tV, tV, uV, uV, uV, tV, tV, uV, uV, uV, tV, tV]) W5 _ fL h HS6 kr
 have c13 : ¬ (s1.Mode < 0) := c13
 refine seqRwI 6 kr (decide_eq_false c13) ?_
 refine seqRwI 7 kr (decide_eq_false c13) ?_
 refine seqL1 kr ?_
 refine seqG kr (does_run (run_load rfl Try.underlying3 rfl (kv (pV b4 0)) (HS6.cell 0)) ?_)
 refine seqL3 kr ?_
 replace h := ite_some h; rcases h with ⟨c14, h⟩ | ⟨c14, h⟩
 · have c14 : s1.Mode ≥ 4 := c14
   refine seqRwI 10 kr (decide_eq_true c14) ?_
   refine seqRwI 11 kr (decide_eq_true c14) ?_
   refine seqRwI 12 kr (decide_eq_true c14) ?_
   refine seqL19 kr ?_
   refine nl ?_
   exact J25 f true (jL [pV b4 0, iV s1.Mode, fV, fV, pV b4 0, iV s1.Mode, tV, tV, tV, uV, uV, uV, tV, tV, uV, uV, uV, tV, tV, uV, uV, uV, tV, tV]) W5 _ fL h HS6 kr
 have c14 : ¬ (s1.Mode ≥ 4) := c14
 refine seqRwI 10 kr (decide_eq_false c14) ?_
 refine seqRwI 11 kr (decide_eq_false c14) ?_
 refine seqRwI 12 kr (decide_eq_false c14) ?_
 refine seqL1 kr ?_
 refine seqG kr (does_run (run_load rfl Try.underlying3 rfl (kv (pV b4 3)) (HS6.cell 3)) ?_)
 refine seqL3 kr ?_
 replace h := ite_some h; rcases h with ⟨c15, h⟩ | ⟨c15, h⟩
 · have c15 : s1.Number < 0 := c15
   refine seqRwI 15 kr (decide_eq_true c15) ?_
   refine seqRwI 16 kr (decide_eq_true c15) ?_
   refine seqRwI 17 kr (decide_eq_true c15) ?_
   refine seqL14 kr ?_
   refine nl ?_
   exact J25 f true (jL [pV b4 0, iV s1.Mode, fV, fV, pV b4 0, iV s1.Mode, fV, fV, fV, pV b4 3, iV s1.Number, tV, tV, tV, uV, uV, uV, tV, tV, uV, uV, uV, tV, tV]) W5 _ fL h HS6 kr
 have c15 : ¬ (s1.Number < 0) := c15
 refine seqRwI 15 kr (decide_eq_false c15) ?_
 refine seqRwI 16 kr (decide_eq_false c15) ?_
 refine seqRwI 17 kr (decide_eq_false c15) ?_
 refine seqL1 kr ?_
 refine seqG kr (does_run (run_load rfl Try.underlying3 rfl (kv (pV b4 3)) (HS6.cell 3)) ?_)
 refine seqL3 kr ?_
 replace h := ite_some h; rcases h with ⟨c16, h⟩ | ⟨c16, h⟩
 · have c16 : s1.Number > 1073741824 := c16
   refine seqRwI 20 kr (decide_eq_true c16) ?_
   refine seqRwI 21 kr (decide_eq_true c16) ?_
   refine seqRwI 22 kr (decide_eq_true c16) ?_
   refine seqL9 kr ?_
   refine nl ?_
   exact J25 f true (jL [pV b4 0, iV s1.Mode, fV, fV, pV b4 0, iV s1.Mode, fV, fV, fV, pV b4 3, iV s1.Number, fV, fV, fV, pV b4 3, iV s1.Number, tV, tV, tV, uV, uV, uV, tV, tV]) W5 _ fL h HS6 kr
 have c16 : ¬ (s1.Number > 1073741824) := c16
 refine seqRwI 20 kr (decide_eq_false c16) ?_
 refine seqRwI 21 kr (decide_eq_false c16) ?_
 refine seqRwI 22 kr (decide_eq_false c16) ?_
 refine seqL1 kr ?_
 refine seqG kr (does_run (run_load rfl Try.underlying3 rfl (kv (pV b4 2)) (HS6.cell 2)) ?_)
 refine seqL3 kr ?_
 replace h := ite_some h; rcases h with ⟨c17, h⟩ | ⟨c17, h⟩
 · have c17 : s1.Beats < 0 := c17
   refine seqRwI 25 kr (decide_eq_true c17) ?_
   refine seqRwI 26 kr (decide_eq_true c17) ?_
   refine seqRwI 27 kr (decide_eq_true c17) ?_
   refine seqL4 kr ?_
   refine nl ?_
   exact J25 f true (jL [pV b4 0, iV s1.Mode, fV, fV, pV b4 0, iV s1.Mode, fV, fV, fV, pV b4 3, iV s1.Number, fV, fV, fV, pV b4 3, iV s1.Number, fV, fV, fV, pV b4 2, iV s1.Beats, tV, tV, tV]) W5 _ fL h HS6 kr
 have c17 : ¬ (s1.Beats < 0) := c17
 refine seqRwI 25 kr (decide_eq_false c17) ?_
 refine seqRwI 26 kr (decide_eq_false c17) ?_
 refine seqRwI 27 kr (decide_eq_false c17) ?_
 refine seqL1 kr ?_
 refine seqG kr (does_run (run_load rfl Try.underlying3 rfl (kv (pV b4 2)) (HS6.cell 2)) ?_)
 refine seqL2 kr ?_
 refine nl ?_
 exact J25 f (decide (s1.Beats > 16)) (jL [pV b4 0, iV s1.Mode, fV, fV, pV b4 0, iV s1.Mode, fV, fV, fV, pV b4 3, iV s1.Number, fV, fV, fV, pV b4 3, iV s1.Number, fV, fV, fV, pV b4 2, iV s1.Beats, fV, fV, fV, pV b4 2, iV s1.Beats, .bool (decide (s1.Beats > 16))]) W5 _ fL h HS6 kr

set_option maxRecDepth 100000 in
set_option maxHeartbeats 4000000 in
theorem guard_Hard.calls (k : Nat)  (vw1 : S_World) {t w : World} {f : FM} {H : List Seg} (HS : St t w f (H)) (rr1 : Int) (h : guard_Hard k vw1 = some rr1) :
    Calls Try.prog 48 #[.agg (cl_World vw1)] w (fun e w' => ∃ (g : FM), e = .returned (Value.int .i64 rr1) ∧ FM.le f g ∧ St t w' g (H)) := by
 unfold guard_Hard at h
 refine enter Try.func48 rfl (tm := ⟨[(ag_World vw1)] ++ (un 40 [])⟩) kr ?_
 intro B hret hnor hnp
 refine wp_seq_k fun K2 hK3 => rl ?_
 refine seqK rfl (does_box (cs := (cl_World vw1)) rfl (kv (.agg (cl_World vw1))) rfl HS ?_)
 intro b4 W5 HS6
 refine seqL1 kr ?_
 refine nl (hK3 _ _ ?_)
 refine wp_seq_k fun K8 hK9 => rl ?_
 refine seqL1 kr ?_
 refine nl (hK9 _ _ ?_)
 refine wp_seq_k (fun K10 hK11 => ?_)
 refine wp_seq_k fun K12 hK13 => rl ?_
 refine seqL2 kr ?_
 refine seqK rfl (does_run (run_load rfl Try.underlying3 rfl (kv (pV b4 10)) (HS6.cell 10)) ?_)
 refine seqL2 kr ?_
 replace h := ite_some h; rcases h with ⟨c15, h⟩ | ⟨c15, h⟩
 rotate_left
 · have c15 : ¬ (vw1.Dome.Cover > 0) := c15
   refine seqRwI 7 kr (decide_eq_false c15) ?_
   refine seqRwI 8 kr (decide_eq_false c15) ?_
   refine seqL5 kr ?_
   refine nl (hK13 _ _ ?_)
   refine condF kr ?_
   refine wp_skip ?_
   refine hK11 _ _ ?_
   refine wp_seq_k (fun K64 hK65 => ?_)
   refine wp_seq_k (fun K66 hK67 => ?_)
   replace h := bind_some h; obtain ⟨v68, hv78, h⟩ := h
   have J79 : ∀ (f72 : FM) (x77 : Bool) (j76 : Nat → Value) (W74 : World) (a_ : Act), FM.le f f72 → some (x77) = some v68 → St t W74 f72 ([(b4, .cells (cl_World vw1) 59 (0, 0))] :: H) → a_ = ⟨⟨[(ag_World vw1), pV b4 0, iV 0, iV 0, pV b4 9, pV b4 10, iV vw1.Dome.Cover, fV, fV] ++ (un 4 ([fV, uV, uV] ++ (jr j76 0 21 [.bool x77, uV, uV, uV])))⟩, []⟩ → K66 a_ W74 := by
    intro f72 x77 j76 W74 a_ L73 hj80 HS75  hfr_; subst hfr_
    injection hj80 with hj80; subst hj80; try dsimp only at h
    refine hK67 _ _ ?_
    replace h := ite_some h; rcases h with ⟨c82, h⟩ | ⟨c82, h⟩
    · have c82 : x77 = true := c82
      refine wpRwI 37 kr c82 ?_
      refine condT kr ?_
      refine rl ?_
      refine seqL3 kr ?_
      refine nl (hK65 _ _ ?_)
      refine wp_seq_k fun K83 hK84 => rl ?_
      refine seqL2 kr ?_
      refine nl (hK84 _ _ ?_)
      refine wp_ret ?_
      refine hret _ _ ?_
      refine ends_still (v := Value.int .i64 (Go.bits .or .i64 0 2)) kr kr ?_
      have HS91 := HS75.drop
      injection h with h
      subst h
      exact ⟨f72, rfl, L73, HS91⟩
    have c82 : ¬ (x77 = true) := c82
    refine wpRwI 37 kr (Bool.eq_false_iff.mpr c82) ?_
    refine condF kr ?_
    refine wp_skip ?_
    refine hK65 _ _ ?_
    refine wp_seq_k fun K85 hK86 => rl ?_
    refine seqL2 kr ?_
    refine nl (hK86 _ _ ?_)
    refine wp_ret ?_
    refine hret _ _ ?_
    refine ends_still (v := Value.int .i64 0) kr kr ?_
    have HS92 := HS75.drop
    injection h with h
    subst h
    exact ⟨f72, rfl, L73, HS92⟩
   clear h; have h := hv78; clear hv78
   refine rl ?_
   refine seqL2 kr ?_
   refine seqK rfl (does_run (run_load rfl Try.underlying3 rfl (kv (pV b4 17)) (HS6.cell 17)) ?_)
   refine seqL2 kr ?_
   replace h := ite_some h; rcases h with ⟨c69, h⟩ | ⟨c69, h⟩
   rotate_left
   · have c69 : ¬ (vw1.Camera.Mode = 1) := c69
     refine seqRwI 19 kr (beq_eq_false_iff_ne.mpr c69) ?_
     refine seqRwI 20 kr (beq_eq_false_iff_ne.mpr c69) ?_
     refine seqL17 kr ?_
     refine nl ?_
     exact J79 f false (jL [pV b4 17, pV b4 17, iV vw1.Camera.Mode, fV, fV]) W5 _ fL h HS6 kr
   have c69 : vw1.Camera.Mode = 1 := c69
   refine seqRwI 19 kr (beq_iff_eq.mpr c69) ?_
   refine seqRwI 20 kr (beq_iff_eq.mpr c69) ?_
   refine seqL2 kr ?_
   refine seqG kr (does_run (run_load rfl Try.underlying3 rfl (kv (pV b4 8)) (HS6.cell 8)) ?_)
   refine seqL2 kr ?_
   replace h := ite_some h; rcases h with ⟨c70, h⟩ | ⟨c70, h⟩
   · have c70 : vw1.Mount.Mode ≠ 3 := c70
     refine seqRwI 24 kr (bne_iff_ne.mpr c70) ?_
     refine seqRwI 25 kr (bne_iff_ne.mpr c70) ?_
     refine seqL12 kr ?_
     refine nl ?_
     exact J79 f true (jL [pV b4 17, pV b4 17, iV vw1.Camera.Mode, tV, tV, pV b4 0, pV b4 8, iV vw1.Mount.Mode, tV, tV, uV, uV, uV, uV, tV, tV, uV, uV, uV, uV, tV]) W5 _ fL h HS6 kr
   have c70 : ¬ (vw1.Mount.Mode ≠ 3) := c70
   refine seqRwI 24 (x := (vw1.Mount.Mode != 3)) (v := false) kr (bne_eq_false_iff_eq.mpr (Decidable.of_not_not c70)) ?_
   refine seqRwI 25 (x := (vw1.Mount.Mode != 3)) (v := false) kr (bne_eq_false_iff_eq.mpr (Decidable.of_not_not c70)) ?_
   refine seqL2 kr ?_
   refine seqG kr (does_run (run_load rfl Try.underlying3 rfl (kv (pV b4 9)) (HS6.cell 9)) ?_)
   refine seqL3 kr ?_
   replace h := ite_some h; rcases h with ⟨c71, h⟩ | ⟨c71, h⟩
   · have c71 : vw1.Dome.Shutter ≠ 100 := c71
     refine seqRwI 29 kr (bne_iff_ne.mpr c71) ?_
     refine seqRwI 30 kr (bne_iff_ne.mpr c71) ?_
     refine seqRwI 31 kr (bne_iff_ne.mpr c71) ?_
     refine seqL6 kr ?_
     refine nl ?_
     exact J79 f true (jL [pV b4 17, pV b4 17, iV vw1.Camera.Mode, tV, tV, pV b4 0, pV b4 8, iV vw1.Mount.Mode, fV, fV, pV b4 9, pV b4 9, iV vw1.Dome.Shutter, tV, tV, tV, uV, uV, uV, uV, tV]) W5 _ fL h HS6 kr
   have c71 : ¬ (vw1.Dome.Shutter ≠ 100) := c71
   refine seqRwI 29 (x := (vw1.Dome.Shutter != 100)) (v := false) kr (bne_eq_false_iff_eq.mpr (Decidable.of_not_not c71)) ?_
   refine seqRwI 30 (x := (vw1.Dome.Shutter != 100)) (v := false) kr (bne_eq_false_iff_eq.mpr (Decidable.of_not_not c71)) ?_
   refine seqRwI 31 (x := (vw1.Dome.Shutter != 100)) (v := false) kr (bne_eq_false_iff_eq.mpr (Decidable.of_not_not c71)) ?_
   refine seqL2 kr ?_
   refine seqG kr (does_run (run_load rfl Try.underlying3 rfl (kv (pV b4 10)) (HS6.cell 10)) ?_)
   refine seqL3 kr ?_
   refine nl ?_
   exact J79 f (vw1.Dome.Cover != 20) (jL [pV b4 17, pV b4 17, iV vw1.Camera.Mode, tV, tV, pV b4 0, pV b4 8, iV vw1.Mount.Mode, fV, fV, pV b4 9, pV b4 9, iV vw1.Dome.Shutter, fV, fV, fV, pV b4 9, pV b4 10, iV vw1.Dome.Cover, .bool (vw1.Dome.Cover != 20), .bool (vw1.Dome.Cover != 20)]) W5 _ fL h HS6 kr
 have c15 : vw1.Dome.Cover > 0 := c15
 refine seqRwI 7 kr (decide_eq_true c15) ?_
 refine seqRwI 8 kr (decide_eq_true c15) ?_
 refine seqL2 kr ?_
 refine seqG kr (does_run (run_load rfl Try.underlying3 rfl (kv (pV b4 9)) (HS6.cell 9)) ?_)
 refine seqL2 kr ?_
 refine nl (hK13 _ _ ?_)
 replace h := ite_some h; rcases h with ⟨c17, h⟩ | ⟨c17, h⟩
 · have c17 : vw1.Dome.Shutter < 100 := c17
   refine wpRwI 12 kr (decide_eq_true c17) ?_
   refine wpRwI 13 kr (decide_eq_true c17) ?_
   refine condT kr ?_
   refine rl ?_
   refine seqL3 kr ?_
   refine nl (hK11 _ _ ?_)
   refine wp_seq_k (fun K18 hK19 => ?_)
   refine wp_seq_k (fun K20 hK21 => ?_)
   replace h := bind_some h; obtain ⟨v22, hv32, h⟩ := h
   have J33 : ∀ (f26 : FM) (x31 : Bool) (j30 : Nat → Value) (W28 : World) (a_ : Act), FM.le f f26 → some (x31) = some v22 → St t W28 f26 ([(b4, .cells (cl_World vw1) 59 (0, 0))] :: H) → a_ = ⟨⟨[(ag_World vw1), pV b4 0, iV 0, iV (Go.bits .or .i64 0 1), pV b4 9, pV b4 10, iV vw1.Dome.Cover, tV, tV, pV b4 9, pV b4 9, iV vw1.Dome.Shutter, tV, tV, iV 0, iV (Go.bits .or .i64 0 1)] ++ (jr j30 0 21 [.bool x31, uV, uV, uV])⟩, []⟩ → K20 a_ W28 := by
    intro f26 x31 j30 W28 a_ L27 hj34 HS29  hfr_; subst hfr_
    injection hj34 with hj34; subst hj34; try dsimp only at h
    refine hK21 _ _ ?_
    replace h := ite_some h; rcases h with ⟨c36, h⟩ | ⟨c36, h⟩
    · have c36 : x31 = true := c36
      refine wpRwI 37 kr c36 ?_
      refine condT kr ?_
      refine rl ?_
      refine seqL3 kr ?_
      refine nl (hK19 _ _ ?_)
      refine wp_seq_k fun K37 hK38 => rl ?_
      refine seqL2 kr ?_
      refine nl (hK38 _ _ ?_)
      refine wp_ret ?_
      refine hret _ _ ?_
      refine ends_still (v := Value.int .i64 (Go.bits .or .i64 (Go.bits .or .i64 0 1) 2)) kr kr ?_
      have HS87 := HS29.drop
      injection h with h
      subst h
      exact ⟨f26, rfl, L27, HS87⟩
    have c36 : ¬ (x31 = true) := c36
    refine wpRwI 37 kr (Bool.eq_false_iff.mpr c36) ?_
    refine condF kr ?_
    refine wp_skip ?_
    refine hK19 _ _ ?_
    refine wp_seq_k fun K39 hK40 => rl ?_
    refine seqL2 kr ?_
    refine nl (hK40 _ _ ?_)
    refine wp_ret ?_
    refine hret _ _ ?_
    refine ends_still (v := Value.int .i64 (Go.bits .or .i64 0 1)) kr kr ?_
    have HS88 := HS29.drop
    injection h with h
    subst h
    exact ⟨f26, rfl, L27, HS88⟩
   clear h; have h := hv32; clear hv32
   refine rl ?_
   refine seqL2 kr ?_
   refine seqK rfl (does_run (run_load rfl Try.underlying3 rfl (kv (pV b4 17)) (HS6.cell 17)) ?_)
   refine seqL2 kr ?_
   replace h := ite_some h; rcases h with ⟨c23, h⟩ | ⟨c23, h⟩
   rotate_left
   · have c23 : ¬ (vw1.Camera.Mode = 1) := c23
     refine seqRwI 19 kr (beq_eq_false_iff_ne.mpr c23) ?_
     refine seqRwI 20 kr (beq_eq_false_iff_ne.mpr c23) ?_
     refine seqL17 kr ?_
     refine nl ?_
     exact J33 f false (jL [pV b4 17, pV b4 17, iV vw1.Camera.Mode, fV, fV]) W5 _ fL h HS6 kr
   have c23 : vw1.Camera.Mode = 1 := c23
   refine seqRwI 19 kr (beq_iff_eq.mpr c23) ?_
   refine seqRwI 20 kr (beq_iff_eq.mpr c23) ?_
   refine seqL2 kr ?_
   refine seqG kr (does_run (run_load rfl Try.underlying3 rfl (kv (pV b4 8)) (HS6.cell 8)) ?_)
   refine seqL2 kr ?_
   replace h := ite_some h; rcases h with ⟨c24, h⟩ | ⟨c24, h⟩
   · have c24 : vw1.Mount.Mode ≠ 3 := c24
     refine seqRwI 24 kr (bne_iff_ne.mpr c24) ?_
     refine seqRwI 25 kr (bne_iff_ne.mpr c24) ?_
     refine seqL12 kr ?_
     refine nl ?_
     exact J33 f true (jL [pV b4 17, pV b4 17, iV vw1.Camera.Mode, tV, tV, pV b4 0, pV b4 8, iV vw1.Mount.Mode, tV, tV, uV, uV, uV, uV, tV, tV, uV, uV, uV, uV, tV]) W5 _ fL h HS6 kr
   have c24 : ¬ (vw1.Mount.Mode ≠ 3) := c24
   refine seqRwI 24 (x := (vw1.Mount.Mode != 3)) (v := false) kr (bne_eq_false_iff_eq.mpr (Decidable.of_not_not c24)) ?_
   refine seqRwI 25 (x := (vw1.Mount.Mode != 3)) (v := false) kr (bne_eq_false_iff_eq.mpr (Decidable.of_not_not c24)) ?_
   refine seqL2 kr ?_
   refine seqG kr (does_run (run_load rfl Try.underlying3 rfl (kv (pV b4 9)) (HS6.cell 9)) ?_)
   refine seqL3 kr ?_
   replace h := ite_some h; rcases h with ⟨c25, h⟩ | ⟨c25, h⟩
   · have c25 : vw1.Dome.Shutter ≠ 100 := c25
     refine seqRwI 29 kr (bne_iff_ne.mpr c25) ?_
     refine seqRwI 30 kr (bne_iff_ne.mpr c25) ?_
     refine seqRwI 31 kr (bne_iff_ne.mpr c25) ?_
     refine seqL6 kr ?_
     refine nl ?_
     exact J33 f true (jL [pV b4 17, pV b4 17, iV vw1.Camera.Mode, tV, tV, pV b4 0, pV b4 8, iV vw1.Mount.Mode, fV, fV, pV b4 9, pV b4 9, iV vw1.Dome.Shutter, tV, tV, tV, uV, uV, uV, uV, tV]) W5 _ fL h HS6 kr
   have c25 : ¬ (vw1.Dome.Shutter ≠ 100) := c25
   refine seqRwI 29 (x := (vw1.Dome.Shutter != 100)) (v := false) kr (bne_eq_false_iff_eq.mpr (Decidable.of_not_not c25)) ?_
   refine seqRwI 30 (x := (vw1.Dome.Shutter != 100)) (v := false) kr (bne_eq_false_iff_eq.mpr (Decidable.of_not_not c25)) ?_
   refine seqRwI 31 (x := (vw1.Dome.Shutter != 100)) (v := false) kr (bne_eq_false_iff_eq.mpr (Decidable.of_not_not c25)) ?_
   refine seqL2 kr ?_
   refine seqG kr (does_run (run_load rfl Try.underlying3 rfl (kv (pV b4 10)) (HS6.cell 10)) ?_)
   refine seqL3 kr ?_
   refine nl ?_
   exact J33 f (vw1.Dome.Cover != 20) (jL [pV b4 17, pV b4 17, iV vw1.Camera.Mode, tV, tV, pV b4 0, pV b4 8, iV vw1.Mount.Mode, fV, fV, pV b4 9, pV b4 9, iV vw1.Dome.Shutter, fV, fV, fV, pV b4 9, pV b4 10, iV vw1.Dome.Cover, .bool (vw1.Dome.Cover != 20), .bool (vw1.Dome.Cover != 20)]) W5 _ fL h HS6 kr
 have c17 : ¬ (vw1.Dome.Shutter < 100) := c17
 refine wpRwI 12 kr (decide_eq_false c17) ?_
 refine wpRwI 13 kr (decide_eq_false c17) ?_
 refine condF kr ?_
 refine wp_skip ?_
 refine hK11 _ _ ?_
 refine wp_seq_k (fun K41 hK42 => ?_)
 refine wp_seq_k (fun K43 hK44 => ?_)
 replace h := bind_some h; obtain ⟨v45, hv55, h⟩ := h
 have J56 : ∀ (f49 : FM) (x54 : Bool) (j53 : Nat → Value) (W51 : World) (a_ : Act), FM.le f f49 → some (x54) = some v45 → St t W51 f49 ([(b4, .cells (cl_World vw1) 59 (0, 0))] :: H) → a_ = ⟨⟨[(ag_World vw1), pV b4 0, iV 0, iV 0, pV b4 9, pV b4 10, iV vw1.Dome.Cover, tV, tV, pV b4 9, pV b4 9, iV vw1.Dome.Shutter, fV, fV, uV, uV] ++ (jr j53 0 21 [.bool x54, uV, uV, uV])⟩, []⟩ → K43 a_ W51 := by
  intro f49 x54 j53 W51 a_ L50 hj57 HS52  hfr_; subst hfr_
  injection hj57 with hj57; subst hj57; try dsimp only at h
  refine hK44 _ _ ?_
  replace h := ite_some h; rcases h with ⟨c59, h⟩ | ⟨c59, h⟩
  · have c59 : x54 = true := c59
    refine wpRwI 37 kr c59 ?_
    refine condT kr ?_
    refine rl ?_
    refine seqL3 kr ?_
    refine nl (hK42 _ _ ?_)
    refine wp_seq_k fun K60 hK61 => rl ?_
    refine seqL2 kr ?_
    refine nl (hK61 _ _ ?_)
    refine wp_ret ?_
    refine hret _ _ ?_
    refine ends_still (v := Value.int .i64 (Go.bits .or .i64 0 2)) kr kr ?_
    have HS89 := HS52.drop
    injection h with h
    subst h
    exact ⟨f49, rfl, L50, HS89⟩
  have c59 : ¬ (x54 = true) := c59
  refine wpRwI 37 kr (Bool.eq_false_iff.mpr c59) ?_
  refine condF kr ?_
  refine wp_skip ?_
  refine hK42 _ _ ?_
  refine wp_seq_k fun K62 hK63 => rl ?_
  refine seqL2 kr ?_
  refine nl (hK63 _ _ ?_)
  refine wp_ret ?_
  refine hret _ _ ?_
  refine ends_still (v := Value.int .i64 0) kr kr ?_
  have HS90 := HS52.drop
  injection h with h
  subst h
  exact ⟨f49, rfl, L50, HS90⟩
 clear h; have h := hv55; clear hv55
 refine rl ?_
 refine seqL2 kr ?_
 refine seqK rfl (does_run (run_load rfl Try.underlying3 rfl (kv (pV b4 17)) (HS6.cell 17)) ?_)
 refine seqL2 kr ?_
 replace h := ite_some h; rcases h with ⟨c46, h⟩ | ⟨c46, h⟩
 rotate_left
 · have c46 : ¬ (vw1.Camera.Mode = 1) := c46
   refine seqRwI 19 kr (beq_eq_false_iff_ne.mpr c46) ?_
   refine seqRwI 20 kr (beq_eq_false_iff_ne.mpr c46) ?_
   refine seqL17 kr ?_
   refine nl ?_
   exact J56 f false (jL [pV b4 17, pV b4 17, iV vw1.Camera.Mode, fV, fV]) W5 _ fL h HS6 kr
 have c46 : vw1.Camera.Mode = 1 := c46
 refine seqRwI 19 kr (beq_iff_eq.mpr c46) ?_
 refine seqRwI 20 kr (beq_iff_eq.mpr c46) ?_
 refine seqL2 kr ?_
 refine seqG kr (does_run (run_load rfl Try.underlying3 rfl (kv (pV b4 8)) (HS6.cell 8)) ?_)
 refine seqL2 kr ?_
 replace h := ite_some h; rcases h with ⟨c47, h⟩ | ⟨c47, h⟩
 · have c47 : vw1.Mount.Mode ≠ 3 := c47
   refine seqRwI 24 kr (bne_iff_ne.mpr c47) ?_
   refine seqRwI 25 kr (bne_iff_ne.mpr c47) ?_
   refine seqL12 kr ?_
   refine nl ?_
   exact J56 f true (jL [pV b4 17, pV b4 17, iV vw1.Camera.Mode, tV, tV, pV b4 0, pV b4 8, iV vw1.Mount.Mode, tV, tV, uV, uV, uV, uV, tV, tV, uV, uV, uV, uV, tV]) W5 _ fL h HS6 kr
 have c47 : ¬ (vw1.Mount.Mode ≠ 3) := c47
 refine seqRwI 24 (x := (vw1.Mount.Mode != 3)) (v := false) kr (bne_eq_false_iff_eq.mpr (Decidable.of_not_not c47)) ?_
 refine seqRwI 25 (x := (vw1.Mount.Mode != 3)) (v := false) kr (bne_eq_false_iff_eq.mpr (Decidable.of_not_not c47)) ?_
 refine seqL2 kr ?_
 refine seqG kr (does_run (run_load rfl Try.underlying3 rfl (kv (pV b4 9)) (HS6.cell 9)) ?_)
 refine seqL3 kr ?_
 replace h := ite_some h; rcases h with ⟨c48, h⟩ | ⟨c48, h⟩
 · have c48 : vw1.Dome.Shutter ≠ 100 := c48
   refine seqRwI 29 kr (bne_iff_ne.mpr c48) ?_
   refine seqRwI 30 kr (bne_iff_ne.mpr c48) ?_
   refine seqRwI 31 kr (bne_iff_ne.mpr c48) ?_
   refine seqL6 kr ?_
   refine nl ?_
   exact J56 f true (jL [pV b4 17, pV b4 17, iV vw1.Camera.Mode, tV, tV, pV b4 0, pV b4 8, iV vw1.Mount.Mode, fV, fV, pV b4 9, pV b4 9, iV vw1.Dome.Shutter, tV, tV, tV, uV, uV, uV, uV, tV]) W5 _ fL h HS6 kr
 have c48 : ¬ (vw1.Dome.Shutter ≠ 100) := c48
 refine seqRwI 29 (x := (vw1.Dome.Shutter != 100)) (v := false) kr (bne_eq_false_iff_eq.mpr (Decidable.of_not_not c48)) ?_
 refine seqRwI 30 (x := (vw1.Dome.Shutter != 100)) (v := false) kr (bne_eq_false_iff_eq.mpr (Decidable.of_not_not c48)) ?_
 refine seqRwI 31 (x := (vw1.Dome.Shutter != 100)) (v := false) kr (bne_eq_false_iff_eq.mpr (Decidable.of_not_not c48)) ?_
 refine seqL2 kr ?_
 refine seqG kr (does_run (run_load rfl Try.underlying3 rfl (kv (pV b4 10)) (HS6.cell 10)) ?_)
 refine seqL3 kr ?_
 refine nl ?_
 exact J56 f (vw1.Dome.Cover != 20) (jL [pV b4 17, pV b4 17, iV vw1.Camera.Mode, tV, tV, pV b4 0, pV b4 8, iV vw1.Mount.Mode, fV, fV, pV b4 9, pV b4 9, iV vw1.Dome.Shutter, fV, fV, fV, pV b4 9, pV b4 10, iV vw1.Dome.Cover, .bool (vw1.Dome.Cover != 20), .bool (vw1.Dome.Cover != 20)]) W5 _ fL h HS6 kr

set_option maxRecDepth 100000 in
set_option maxHeartbeats 4000000 in
theorem guard_Sensors_Hazard.calls (k : Nat)  (s1 : S_Sensors) {t w : World} {f : FM} {H : List Seg} (HS : St t w f (H)) (rr1 : Bool) (h : guard_Sensors_Hazard k s1 = some rr1) :
    Calls Try.prog 33 #[.agg (cl_Sensors s1)] w (fun e w' => ∃ (g : FM), e = .returned (Value.bool rr1) ∧ FM.le f g ∧ St t w' g (H)) := by
 unfold guard_Sensors_Hazard at h
 refine enter Try.func33 rfl (tm := ⟨[(ag_Sensors s1)] ++ (un 16 [])⟩) kr ?_
 intro B hret hnor hnp
 refine wp_seq_k fun K2 hK3 => rl ?_
 refine seqK rfl (does_box (cs := (cl_Sensors s1)) rfl (kv (.agg (cl_Sensors s1))) rfl HS ?_)
 intro b4 W5 HS6
 refine seqL1 kr ?_
 refine nl (hK3 _ _ ?_)
 refine wp_seq_k fun K8 hK9 => rl ?_
 refine seqL1 kr ?_
 refine seqK rfl (does_run (run_load rfl Try.underlying4 rfl (kv (pV b4 0)) (HS6.cell 0)) ?_)
 refine seqL1 kr ?_
 replace h := ite_some h; rcases h with ⟨c11, h⟩ | ⟨c11, h⟩
 · have c11 : s1.Rain = true := c11
   refine seqRwI 4 kr c11 ?_
   refine seqRwI 5 kr c11 ?_
   refine seqL12 kr ?_
   refine nl (hK9 _ _ ?_)
   refine wp_ret ?_
   refine hret _ _ ?_
   refine ends_still (v := Value.bool true) kr kr ?_
   have HS14 := HS6.drop
   injection h with h
   subst h
   exact ⟨f, rfl, FM.le.refl _, HS14⟩
 have c11 : ¬ (s1.Rain = true) := c11
 refine seqRwI 4 kr (Bool.eq_false_iff.mpr c11) ?_
 refine seqRwI 5 kr (Bool.eq_false_iff.mpr c11) ?_
 refine seqL1 kr ?_
 refine seqG kr (does_run (run_load rfl Try.underlying4 rfl (kv (pV b4 1)) (HS6.cell 1)) ?_)
 refine seqL2 kr ?_
 replace h := ite_some h; rcases h with ⟨c12, h⟩ | ⟨c12, h⟩
 · have c12 : s1.Wind = true := c12
   refine seqRwI 7 kr c12 ?_
   refine seqRwI 8 kr c12 ?_
   refine seqRwI 9 kr c12 ?_
   refine seqL8 kr ?_
   refine nl (hK9 _ _ ?_)
   refine wp_ret ?_
   refine hret _ _ ?_
   refine ends_still (v := Value.bool true) kr kr ?_
   have HS15 := HS6.drop
   injection h with h
   subst h
   exact ⟨f, rfl, FM.le.refl _, HS15⟩
 have c12 : ¬ (s1.Wind = true) := c12
 refine seqRwI 7 kr (Bool.eq_false_iff.mpr c12) ?_
 refine seqRwI 8 kr (Bool.eq_false_iff.mpr c12) ?_
 refine seqRwI 9 kr (Bool.eq_false_iff.mpr c12) ?_
 refine seqL1 kr ?_
 refine seqG kr (does_run (run_load rfl Try.underlying4 rfl (kv (pV b4 2)) (HS6.cell 2)) ?_)
 refine seqL2 kr ?_
 replace h := ite_some h; rcases h with ⟨c13, h⟩ | ⟨c13, h⟩
 · have c13 : s1.Day = true := c13
   refine seqRwI 11 kr c13 ?_
   refine seqRwI 12 kr c13 ?_
   refine seqRwI 13 kr c13 ?_
   refine seqL4 kr ?_
   refine nl (hK9 _ _ ?_)
   refine wp_ret ?_
   refine hret _ _ ?_
   refine ends_still (v := Value.bool true) kr kr ?_
   have HS16 := HS6.drop
   injection h with h
   subst h
   exact ⟨f, rfl, FM.le.refl _, HS16⟩
 have c13 : ¬ (s1.Day = true) := c13
 refine seqRwI 11 kr (Bool.eq_false_iff.mpr c13) ?_
 refine seqRwI 12 kr (Bool.eq_false_iff.mpr c13) ?_
 refine seqRwI 13 kr (Bool.eq_false_iff.mpr c13) ?_
 refine seqL1 kr ?_
 refine seqG kr (does_run (run_load rfl Try.underlying4 rfl (kv (pV b4 3)) (HS6.cell 3)) ?_)
 refine seqL2 kr ?_
 refine nl (hK9 _ _ ?_)
 refine wp_ret ?_
 refine hret _ _ ?_
 refine ends_still (v := Value.bool s1.Power) kr kr ?_
 have HS17 := HS6.drop
 injection h with h
 subst h
 exact ⟨f, rfl, FM.le.refl _, HS17⟩

set_option maxRecDepth 100000 in
set_option maxHeartbeats 4000000 in
theorem mount_Moving.calls (k : Nat)  (s1 : S_State2) {t w : World} {f : FM} {H : List Seg} (HS : St t w f (H)) (rr1 : Bool) (h : mount_Moving k s1 = some rr1) :
    Calls Try.prog 39 #[.agg (cl_State2 s1)] w (fun e w' => ∃ (g : FM), e = .returned (Value.bool rr1) ∧ FM.le f g ∧ St t w' g (H)) := by
 unfold mount_Moving at h
 refine enter Try.func39 rfl (tm := ⟨[(ag_State2 s1)] ++ (un 12 [])⟩) kr ?_
 intro B hret hnor hnp
 refine wp_seq_k fun K2 hK3 => rl ?_
 refine seqK rfl (does_box (cs := (cl_State2 s1)) rfl (kv (.agg (cl_State2 s1))) rfl HS ?_)
 intro b4 W5 HS6
 refine seqL1 kr ?_
 refine nl (hK3 _ _ ?_)
 refine wp_seq_k fun K8 hK9 => rl ?_
 refine seqL2 kr ?_
 refine seqK rfl (does_run (run_load rfl Try.underlying2 rfl (kv (pV b4 1)) (HS6.cell 1)) ?_)
 refine seqL2 kr ?_
 replace h := ite_some h; rcases h with ⟨c11, h⟩ | ⟨c11, h⟩
 · have c11 : s1.Az.Speed ≠ 0 := c11
   refine seqRwI 6 kr (bne_iff_ne.mpr c11) ?_
   refine seqRwI 7 kr (bne_iff_ne.mpr c11) ?_
   refine seqL6 kr ?_
   refine nl (hK9 _ _ ?_)
   refine wp_ret ?_
   refine hret _ _ ?_
   refine ends_still (v := Value.bool true) kr kr ?_
   have HS12 := HS6.drop
   injection h with h
   subst h
   exact ⟨f, rfl, FM.le.refl _, HS12⟩
 have c11 : ¬ (s1.Az.Speed ≠ 0) := c11
 refine seqRwI 6 (x := (s1.Az.Speed != 0)) (v := false) kr (bne_eq_false_iff_eq.mpr (Decidable.of_not_not c11)) ?_
 refine seqRwI 7 (x := (s1.Az.Speed != 0)) (v := false) kr (bne_eq_false_iff_eq.mpr (Decidable.of_not_not c11)) ?_
 refine seqL2 kr ?_
 refine seqG kr (does_run (run_load rfl Try.underlying2 rfl (kv (pV b4 5)) (HS6.cell 5)) ?_)
 refine seqL3 kr ?_
 refine nl (hK9 _ _ ?_)
 refine wp_ret ?_
 refine hret _ _ ?_
 refine ends_still (v := Value.bool (s1.Alt.Speed != 0)) kr kr ?_
 have HS13 := HS6.drop
 injection h with h
 subst h
 exact ⟨f, rfl, FM.le.refl _, HS13⟩

set_option maxRecDepth 100000 in
set_option maxHeartbeats 4000000 in
theorem dome_Closed.calls (k : Nat)  (s1 : S_State3) {t w : World} {f : FM} {H : List Seg} (HS : St t w f (H)) (rr1 : Bool) (h : dome_Closed k s1 = some rr1) :
    Calls Try.prog 17 #[.agg (cl_State3 s1)] w (fun e w' => ∃ (g : FM), e = .returned (Value.bool rr1) ∧ FM.le f g ∧ St t w' g (H)) := by
 unfold dome_Closed at h
 refine enter Try.func17 rfl (tm := ⟨[(ag_State3 s1)] ++ (un 10 [])⟩) kr ?_
 intro B hret hnor hnp
 refine wp_seq_k fun K2 hK3 => rl ?_
 refine seqK rfl (does_box (cs := (cl_State3 s1)) rfl (kv (.agg (cl_State3 s1))) rfl HS ?_)
 intro b4 W5 HS6
 refine seqL1 kr ?_
 refine nl (hK3 _ _ ?_)
 refine wp_seq_k fun K8 hK9 => rl ?_
 refine seqL1 kr ?_
 refine seqK rfl (does_run (run_load rfl Try.underlying3 rfl (kv (pV b4 0)) (HS6.cell 0)) ?_)
 refine seqL2 kr ?_
 replace h := ite_some h; rcases h with ⟨c11, h⟩ | ⟨c11, h⟩
 · have c11 : s1.Shutter = 0 := c11
   refine seqRwI 5 kr (beq_iff_eq.mpr c11) ?_
   refine seqRwI 6 kr (beq_iff_eq.mpr c11) ?_
   refine seqL1 kr ?_
   refine seqG kr (does_run (run_load rfl Try.underlying3 rfl (kv (pV b4 1)) (HS6.cell 1)) ?_)
   refine seqL3 kr ?_
   refine nl (hK9 _ _ ?_)
   refine wp_ret ?_
   refine hret _ _ ?_
   refine ends_still (v := Value.bool (s1.Cover == 0)) kr kr ?_
   have HS12 := HS6.drop
   injection h with h
   subst h
   exact ⟨f, rfl, FM.le.refl _, HS12⟩
 have c11 : ¬ (s1.Shutter = 0) := c11
 refine seqRwI 5 kr (beq_eq_false_iff_ne.mpr c11) ?_
 refine seqRwI 6 kr (beq_eq_false_iff_ne.mpr c11) ?_
 refine seqL5 kr ?_
 refine nl (hK9 _ _ ?_)
 refine wp_ret ?_
 refine hret _ _ ?_
 refine ends_still (v := Value.bool false) kr kr ?_
 have HS13 := HS6.drop
 injection h with h
 subst h
 exact ⟨f, rfl, FM.le.refl _, HS13⟩

set_option maxRecDepth 100000 in
set_option maxHeartbeats 4000000 in
theorem guard_AtRest.calls (k : Nat)  (vw1 : S_World) {t w : World} {f : FM} {H : List Seg} (HS : St t w f (H)) (rr1 : Bool) (h : guard_AtRest k vw1 = some rr1) :
    Calls Try.prog 16 #[.agg (cl_World vw1)] w (fun e w' => ∃ (g : FM), e = .returned (Value.bool rr1) ∧ FM.le f g ∧ St t w' g (H)) := by
 unfold guard_AtRest at h
 refine enter Try.func16 rfl (tm := ⟨[(ag_World vw1)] ++ (un 24 [])⟩) kr ?_
 intro B hret hnor hnp
 refine wp_seq_k fun K2 hK3 => rl ?_
 refine seqK rfl (does_box (cs := (cl_World vw1)) rfl (kv (.agg (cl_World vw1))) rfl HS ?_)
 intro b4 W5 HS6
 refine seqL1 kr ?_
 refine nl (hK3 _ _ ?_)
 refine wp_seq_k fun K8 hK9 => rl ?_
 refine seqL1 kr ?_
 refine seqK rfl (does_run (run_loadN (n := 9) rfl Try.underlying51 rfl kr (kv (pV b4 0)) (cs := (ll_State2 vw1.Mount)) rfl (HS6.cells 0 9 _ rfl)) ?_)
 replace h := bind_some h; obtain ⟨vt11, hc12, h⟩ := h
 refine seqK rfl (does_call kr (mount_Moving.calls k vw1.Mount HS6 vt11 hc12) ?_)
 rintro _ W15 ⟨f13, rfl, L14, HS16⟩
 refine ⟨_, rfl, ?_⟩
 refine seqL2 kr ?_
 replace h := ite_some h; rcases h with ⟨c17, h⟩ | ⟨c17, h⟩
 rotate_left
 · have c17 : ¬ (¬ (vt11 = true)) := c17
   refine seqRwI 6 (x := (!vt11)) (v := false) kr (congrArg (fun b_ => !b_) (show vt11 = true from (Decidable.of_not_not c17)) : (!vt11) = false) ?_
   refine seqRwI 7 (x := (!vt11)) (v := false) kr (congrArg (fun b_ => !b_) (show vt11 = true from (Decidable.of_not_not c17)) : (!vt11) = false) ?_
   refine seqL18 kr ?_
   refine nl (hK9 _ _ ?_)
   refine wp_ret ?_
   refine hret _ _ ?_
   refine ends_still (v := Value.bool false) kr kr ?_
   have HS29 := HS16.drop
   injection h with h
   subst h
   exact ⟨f13, rfl, L14, HS29⟩
 have c17 : ¬ (vt11 = true) := c17
 refine seqRwI 6 kr (congrArg (fun b_ => !b_) (show vt11 = false from (Bool.eq_false_iff.mpr c17)) : (!vt11) = true) ?_
 refine seqRwI 7 kr (congrArg (fun b_ => !b_) (show vt11 = false from (Bool.eq_false_iff.mpr c17)) : (!vt11) = true) ?_
 refine seqL3 kr ?_
 refine seqG kr (does_run (run_load rfl Try.underlying2 rfl (kv (pV b4 14)) (HS16.cell 14)) ?_)
 refine seqL3 kr ?_
 replace h := ite_some h; rcases h with ⟨c18, h⟩ | ⟨c18, h⟩
 rotate_left
 · have c18 : ¬ (vw1.Dome.Turn.Speed = 0) := c18
   refine seqRwI 12 kr (beq_eq_false_iff_ne.mpr c18) ?_
   refine seqRwI 13 kr (beq_eq_false_iff_ne.mpr c18) ?_
   refine seqRwI 14 kr (beq_eq_false_iff_ne.mpr c18) ?_
   refine seqL11 kr ?_
   refine nl (hK9 _ _ ?_)
   refine wp_ret ?_
   refine hret _ _ ?_
   refine ends_still (v := Value.bool false) kr kr ?_
   have HS28 := HS16.drop
   injection h with h
   subst h
   exact ⟨f13, rfl, L14, HS28⟩
 have c18 : vw1.Dome.Turn.Speed = 0 := c18
 refine seqRwI 12 kr (beq_iff_eq.mpr c18) ?_
 refine seqRwI 13 kr (beq_iff_eq.mpr c18) ?_
 refine seqRwI 14 kr (beq_iff_eq.mpr c18) ?_
 refine seqL2 kr ?_
 refine seqG kr (does_run (run_load rfl Try.underlying3 rfl (kv (pV b4 17)) (HS16.cell 17)) ?_)
 refine seqL3 kr ?_
 replace h := ite_some h; rcases h with ⟨c19, h⟩ | ⟨c19, h⟩
 rotate_left
 · have c19 : ¬ (vw1.Camera.Mode ≠ 1) := c19
   refine seqRwI 18 (x := (vw1.Camera.Mode != 1)) (v := false) kr (bne_eq_false_iff_eq.mpr (Decidable.of_not_not c19)) ?_
   refine seqRwI 19 (x := (vw1.Camera.Mode != 1)) (v := false) kr (bne_eq_false_iff_eq.mpr (Decidable.of_not_not c19)) ?_
   refine seqRwI 20 (x := (vw1.Camera.Mode != 1)) (v := false) kr (bne_eq_false_iff_eq.mpr (Decidable.of_not_not c19)) ?_
   refine seqL5 kr ?_
   refine nl (hK9 _ _ ?_)
   refine wp_ret ?_
   refine hret _ _ ?_
   refine ends_still (v := Value.bool false) kr kr ?_
   have HS27 := HS16.drop
   injection h with h
   subst h
   exact ⟨f13, rfl, L14, HS27⟩
 have c19 : vw1.Camera.Mode ≠ 1 := c19
 refine seqRwI 18 kr (bne_iff_ne.mpr c19) ?_
 refine seqRwI 19 kr (bne_iff_ne.mpr c19) ?_
 refine seqRwI 20 kr (bne_iff_ne.mpr c19) ?_
 refine seqL1 kr ?_
 refine seqG kr (does_run (run_loadN (n := 8) rfl Try.underlying53 rfl kr (kv (pV b4 9)) (cs := (ll_State3 vw1.Dome)) rfl (HS16.cells 9 8 _ rfl)) ?_)
 replace h := bind_some h; obtain ⟨vt20, hc21, h⟩ := h
 refine seqG kr (does_call kr (dome_Closed.calls k vw1.Dome HS16 vt20 hc21) ?_)
 rintro _ W24 ⟨f22, rfl, L23, HS25⟩
 refine ⟨_, rfl, ?_⟩
 refine seqL2 kr ?_
 refine nl (hK9 _ _ ?_)
 refine wp_ret ?_
 refine hret _ _ ?_
 refine ends_still (v := Value.bool vt20) kr kr ?_
 have HS26 := HS25.drop
 injection h with h
 subst h
 exact ⟨f22, rfl, (L14.trans L23), HS26⟩

end Go.Sp.S4
