import Derived.Test.YtaddopcbneggiaaProg
import Derived.Test.YtaddopcbneggiaaSpCopy
import Derived.Test.YtaddopcbneggiaaFU7
import Derived.Test.YtaddopcbneggiaaSpMap
import Derived.Test.YtaddopcbneggiaaKU7n0
namespace Go.Sp.U7
open Go Go.Sp Go.Proofs
set_option linter.unusedVariables false
attribute [local irreducible] wpList AnyL Code.wp Calls Does
set_option maxRecDepth 100000 in
set_option maxHeartbeats 4000000 in
theorem sky_star.calls (k : Nat) (A2 : Option Addr) (c3 : Nat) (s1 : S_Star) {t w : World} {f : FM} {H : List Seg} (HS : St t w f (H)) (HR4 : SlR (tInt .i64) f A2 c3 s1.Wave) (r1 : Int) (h : sky_star k s1 = some r1) :
    Calls Try.prog 61 #[.agg #[.int .i64 s1.ID, .int .i64 s1.At.X, .int .i64 s1.At.Y, .int .i64 s1.At.Z, .int .i64 s1.Rate, .slice A2 s1.Wave.length c3, .int .i64 s1.Period, .int .i64 s1.From, .int .i64 s1.To]] w (fun e w' => ∃ (g : FM), e = .returned (Value.int .i64 r1) ∧ FM.le f g ∧ St t w' g (H)) := by
  unfold sky_star at h
  refine enter Try.func61 rfl (tm := #[.agg #[iV s1.ID, iV s1.At.X, iV s1.At.Y, iV s1.At.Z, iV s1.Rate, .slice A2 s1.Wave.length c3, iV s1.Period, iV s1.From, iV s1.To], uV, uV, uV, uV, uV, uV, uV, uV, uV, uV, uV, uV, uV, uV, uV, uV, uV, uV, uV, uV, uV, uV, uV, uV, uV, uV, uV, uV, uV, uV, uV, uV, uV, uV, uV, uV, uV, uV, uV, uV, uV, uV, uV, uV, uV, uV, uV, uV, uV, uV, uV, uV, uV, uV, uV, uV, uV, uV, uV, uV, uV, uV, uV, uV, uV, uV, uV, uV, uV, uV]) (by kernel_rfl) ?_
  intro B hret hnor hnp
  refine wp_seq_k (fun K5 hK6 => ?_)
  refine wp_region_lit ?_
  refine seqK rfl (does_box (cs := #[.int .i64 s1.ID, .int .i64 s1.At.X, .int .i64 s1.At.Y, .int .i64 s1.At.Z, .int .i64 s1.Rate, .slice A2 s1.Wave.length c3, .int .i64 s1.Period, .int .i64 s1.From, .int .i64 s1.To]) rfl (by kernel_rfl : _ = Value.agg #[.int .i64 s1.ID, .int .i64 s1.At.X, .int .i64 s1.At.Y, .int .i64 s1.At.Z, .int .i64 s1.Rate, .slice A2 s1.Wave.length c3, .int .i64 s1.Period, .int .i64 s1.From, .int .i64 s1.To]) rfl HS ?_)
  intro b7 W8 HS9
  refine seqS1 (a' := ⟨#[.agg #[iV s1.ID, iV s1.At.X, iV s1.At.Y, iV s1.At.Z, iV s1.Rate, .slice A2 s1.Wave.length c3, iV s1.Period, iV s1.From, iV s1.To], .pointer (some ⟨b7, 0, none⟩), iV 0, uV, uV, uV, uV, uV, uV, uV, uV, uV, uV, uV, uV, uV, uV, uV, uV, uV, uV, uV, uV, uV, uV, uV, uV, uV, uV, uV, uV, uV, uV, uV, uV, uV, uV, uV, uV, uV, uV, uV, uV, uV, uV, uV, uV, uV, uV, uV, uV, uV, uV, uV, uV, uV, uV, uV, uV, uV, uV, uV, uV, uV, uV, uV, uV, uV, uV, uV, uV], []⟩) (by kernel_rfl) ?_
  refine wpList_nil ?_
  refine hK6 _ _ ?_
  refine wp_seq_k (fun K11 hK12 => ?_)
  refine wp_seq_k (fun K13 hK14 => ?_)
  refine wp_region_lit ?_
  refine seqL1 (by kernel_rfl) ?_
  refine seqK rfl (does_run (run_loadN (n := 3) rfl Try.underlying23 rfl (by kernel_rfl) (by kernel_rfl : _ = Value.pointer (some ⟨b7, 1, none⟩)) (cs := [.int .i64 s1.At.X, .int .i64 s1.At.Y, .int .i64 s1.At.Z]) rfl (HS9.cells 1 3 _ rfl)) ?_)
  have hq_ := bind_some h; clear h; obtain ⟨vt15, hc16, h⟩ := hq_
  refine seqK rfl (does_call (f := 65) (args := #[.agg #[.int .i64 s1.At.X, .int .i64 s1.At.Y, .int .i64 s1.At.Z]]) (by kernel_rfl) (sphere_Check.calls k s1.At HS9 vt15 hc16) ?_)
  rintro _ W19 ⟨f17, rfl, L18, HS20⟩
  refine ⟨_, rfl, ?_⟩
  refine seqS1 (a' := ⟨#[.agg #[iV s1.ID, iV s1.At.X, iV s1.At.Y, iV s1.At.Z, iV s1.Rate, .slice A2 s1.Wave.length c3, iV s1.Period, iV s1.From, iV s1.To], .pointer (some ⟨b7, 0, none⟩), iV 0, iV vt15, uV, .pointer (some ⟨b7, 1, none⟩), .agg #[iV s1.At.X, iV s1.At.Y, iV s1.At.Z], iV vt15, uV, uV, uV, uV, uV, uV, uV, uV, uV, uV, uV, uV, uV, uV, uV, uV, uV, uV, uV, uV, uV, uV, uV, uV, uV, uV, uV, uV, uV, uV, uV, uV, uV, uV, uV, uV, uV, uV, uV, uV, uV, uV, uV, uV, uV, uV, uV, uV, uV, uV, uV, uV, uV, uV, uV, uV, uV, uV, uV, uV, uV, uV, uV], []⟩) (by kernel_rfl) ?_
  refine wpList_nil ?_
  refine hK14 _ _ ?_
  refine wp_seq_k (fun K21 hK22 => ?_)
  refine wp_region_lit ?_
  refine seqS2 (a' := ⟨#[.agg #[iV s1.ID, iV s1.At.X, iV s1.At.Y, iV s1.At.Z, iV s1.Rate, .slice A2 s1.Wave.length c3, iV s1.Period, iV s1.From, iV s1.To], .pointer (some ⟨b7, 0, none⟩), iV 0, iV vt15, uV, .pointer (some ⟨b7, 1, none⟩), .agg #[iV s1.At.X, iV s1.At.Y, iV s1.At.Z], iV vt15, iV vt15, .bool (vt15 != 0), uV, uV, uV, uV, uV, uV, uV, uV, uV, uV, uV, uV, uV, uV, uV, uV, uV, uV, uV, uV, uV, uV, uV, uV, uV, uV, uV, uV, uV, uV, uV, uV, uV, uV, uV, uV, uV, uV, uV, uV, uV, uV, uV, uV, uV, uV, uV, uV, uV, uV, uV, uV, uV, uV, uV, uV, uV, uV, uV, uV, uV], []⟩) (by kernel_rfl) ?_
  refine wpList_nil ?_
  refine hK22 _ _ ?_
  have hq_ := ite_some h; clear h; rcases hq_ with ⟨c24, h⟩ | ⟨c24, h⟩
  · have c24 : vt15 ≠ 0 := c24
    refine wpRwI 9 (x := (vt15 != 0)) (v := true) (by kernel_rfl) (bne_iff_ne.mpr c24) ?_
    refine condT (by kernel_rfl) ?_
    refine wp_seq_k (fun K25 hK26 => ?_)
    refine wp_region_lit ?_
    refine seqS2 (a' := ⟨#[.agg #[iV s1.ID, iV s1.At.X, iV s1.At.Y, iV s1.At.Z, iV s1.Rate, .slice A2 s1.Wave.length c3, iV s1.Period, iV s1.From, iV s1.To], .pointer (some ⟨b7, 0, none⟩), iV vt15, iV vt15, uV, .pointer (some ⟨b7, 1, none⟩), .agg #[iV s1.At.X, iV s1.At.Y, iV s1.At.Z], iV vt15, iV vt15, .bool true, iV vt15, uV, uV, uV, uV, uV, uV, uV, uV, uV, uV, uV, uV, uV, uV, uV, uV, uV, uV, uV, uV, uV, uV, uV, uV, uV, uV, uV, uV, uV, uV, uV, uV, uV, uV, uV, uV, uV, uV, uV, uV, uV, uV, uV, uV, uV, uV, uV, uV, uV, uV, uV, uV, uV, uV, uV, uV, uV, uV, uV, uV], []⟩) (by kernel_rfl) ?_
    refine wpList_nil ?_
    refine hK26 _ _ ?_
    refine wp_ret ?_
    refine hret _ _ ?_
    refine ends_still (v := Value.int .i64 vt15) (by kernel_rfl) (by kernel_rfl) ?_
    have HS195 := HS20.drop
    injection h with h
    subst h
    exact ⟨f17, rfl, L18, HS195⟩
  · have c24 : ¬ (vt15 ≠ 0) := c24
    refine wpRwI 9 (x := (vt15 != 0)) (v := false) (by kernel_rfl) (bne_eq_false_iff_eq.mpr (Decidable.of_not_not c24)) ?_
    refine condF (by kernel_rfl) ?_
    refine wp_skip ?_
    refine hK12 _ _ ?_
    refine wp_seq_k (fun K27 hK28 => ?_)
    refine wp_region_lit ?_
    refine seqL1 (by kernel_rfl) ?_
    refine seqK rfl (does_run (run_load rfl Try.underlying60 rfl (by kernel_rfl : _ = Value.pointer (some ⟨b7, 5, none⟩)) (HS20.cell 5)) ?_)
    refine seqS2 (a' := ⟨#[.agg #[iV s1.ID, iV s1.At.X, iV s1.At.Y, iV s1.At.Z, iV s1.Rate, .slice A2 s1.Wave.length c3, iV s1.Period, iV s1.From, iV s1.To], .pointer (some ⟨b7, 0, none⟩), iV 0, iV vt15, iV (s1.Wave.length : Int), .pointer (some ⟨b7, 1, none⟩), .agg #[iV s1.At.X, iV s1.At.Y, iV s1.At.Z], iV vt15, iV vt15, .bool false, uV, .pointer (some ⟨b7, 5, none⟩), .slice A2 s1.Wave.length c3, iV (s1.Wave.length : Int), uV, uV, uV, uV, uV, uV, uV, uV, uV, uV, uV, uV, uV, uV, uV, uV, uV, uV, uV, uV, uV, uV, uV, uV, uV, uV, uV, uV, uV, uV, uV, uV, uV, uV, uV, uV, uV, uV, uV, uV, uV, uV, uV, uV, uV, uV, uV, uV, uV, uV, uV, uV, uV, uV, uV, uV, uV], []⟩) (by kernel_rfl) ?_
    refine wpList_nil ?_
    refine hK28 _ _ ?_
    refine wp_seq_k (fun K29 hK30 => ?_)
    refine blockK (fun B31 hx32 hn33 hr34 ho35 hp36 => ?_)
    refine wp_seq_k (fun K38 hK39 => ?_)
    refine wp_region_lit ?_
    refine seqS3 (a' := ⟨#[.agg #[iV s1.ID, iV s1.At.X, iV s1.At.Y, iV s1.At.Z, iV s1.Rate, .slice A2 s1.Wave.length c3, iV s1.Period, iV s1.From, iV s1.To], .pointer (some ⟨b7, 0, none⟩), iV 0, iV vt15, iV (s1.Wave.length : Int), .pointer (some ⟨b7, 1, none⟩), .agg #[iV s1.At.X, iV s1.At.Y, iV s1.At.Z], iV vt15, iV vt15, .bool false, uV, .pointer (some ⟨b7, 5, none⟩), .slice A2 s1.Wave.length c3, iV (s1.Wave.length : Int), .bool (decide ((s1.Wave.length : Int) > 16)), iV (s1.Wave.length : Int), .bool (decide ((s1.Wave.length : Int) > 16)), uV, uV, uV, uV, uV, uV, uV, uV, uV, uV, uV, uV, uV, uV, uV, uV, uV, uV, uV, uV, uV, uV, uV, uV, uV, uV, uV, uV, uV, uV, uV, uV, uV, uV, uV, uV, uV, uV, uV, uV, uV, uV, uV, uV, uV, uV, uV, uV, uV, uV, uV, uV, uV, uV], []⟩) (by kernel_rfl) ?_
    refine wpList_nil ?_
    refine hK39 _ _ ?_
    have hq_ := ite_some h; clear h; rcases hq_ with ⟨c41, h⟩ | ⟨c41, h⟩
    · have c41 : (s1.Wave.length : Int) > 16 := c41
      refine wpRwI 14 (x := (decide ((s1.Wave.length : Int) > 16))) (v := true) (by kernel_rfl) (decide_eq_true c41) ?_
      refine wpRwI 16 (x := (decide ((s1.Wave.length : Int) > 16))) (v := true) (by kernel_rfl) (decide_eq_true c41) ?_
      refine condT (by kernel_rfl) ?_
      refine wp_seq_k (fun K42 hK43 => ?_)
      refine wp_region_lit ?_
      refine seqS1 (a' := ⟨#[.agg #[iV s1.ID, iV s1.At.X, iV s1.At.Y, iV s1.At.Z, iV s1.Rate, .slice A2 s1.Wave.length c3, iV s1.Period, iV s1.From, iV s1.To], .pointer (some ⟨b7, 0, none⟩), iV 2, iV vt15, iV (s1.Wave.length : Int), .pointer (some ⟨b7, 1, none⟩), .agg #[iV s1.At.X, iV s1.At.Y, iV s1.At.Z], iV vt15, iV vt15, .bool false, uV, .pointer (some ⟨b7, 5, none⟩), .slice A2 s1.Wave.length c3, iV (s1.Wave.length : Int), .bool true, iV (s1.Wave.length : Int), .bool true, uV, uV, uV, uV, uV, uV, uV, uV, uV, uV, uV, uV, uV, uV, uV, uV, uV, uV, uV, uV, uV, uV, uV, uV, uV, uV, uV, uV, uV, uV, uV, uV, uV, uV, uV, uV, uV, uV, uV, uV, uV, uV, uV, uV, uV, uV, uV, uV, uV, uV, uV, uV, uV, uV], []⟩) (by kernel_rfl) ?_
      refine wpList_nil ?_
      refine hK43 _ _ ?_
      refine wp_ret ?_
      refine hr34 _ _ ?_
      refine hret _ _ ?_
      refine ends_still (v := Value.int .i64 2) (by kernel_rfl) (by kernel_rfl) ?_
      have HS196 := HS20.drop
      injection h with h
      subst h
      exact ⟨f17, rfl, L18, HS196⟩
    · have c41 : ¬ ((s1.Wave.length : Int) > 16) := c41
      refine wpRwI 14 (x := (decide ((s1.Wave.length : Int) > 16))) (v := false) (by kernel_rfl) (decide_eq_false c41) ?_
      refine wpRwI 16 (x := (decide ((s1.Wave.length : Int) > 16))) (v := false) (by kernel_rfl) (decide_eq_false c41) ?_
      refine condF (by kernel_rfl) ?_
      refine wp_seq_k (fun K44 hK45 => ?_)
      refine wp_region_lit ?_
      refine seqS3 (a' := ⟨#[.agg #[iV s1.ID, iV s1.At.X, iV s1.At.Y, iV s1.At.Z, iV s1.Rate, .slice A2 s1.Wave.length c3, iV s1.Period, iV s1.From, iV s1.To], .pointer (some ⟨b7, 0, none⟩), iV 0, iV vt15, iV (s1.Wave.length : Int), .pointer (some ⟨b7, 1, none⟩), .agg #[iV s1.At.X, iV s1.At.Y, iV s1.At.Z], iV vt15, iV vt15, .bool false, uV, .pointer (some ⟨b7, 5, none⟩), .slice A2 s1.Wave.length c3, iV (s1.Wave.length : Int), .bool false, iV (s1.Wave.length : Int), .bool false, uV, iV (s1.Wave.length : Int), .bool ((s1.Wave.length : Int) == 0), .bool ((s1.Wave.length : Int) == 0), uV, uV, uV, uV, uV, uV, uV, uV, uV, uV, uV, uV, uV, uV, uV, uV, uV, uV, uV, uV, uV, uV, uV, uV, uV, uV, uV, uV, uV, uV, uV, uV, uV, uV, uV, uV, uV, uV, uV, uV, uV, uV, uV, uV, uV, uV, uV, uV, uV, uV], []⟩) (by kernel_rfl) ?_
      have hq_ := ite_some h; clear h; rcases hq_ with ⟨c46, h⟩ | ⟨c46, h⟩
      · have c46 : (s1.Wave.length : Int) = 0 := c46
        refine seqRwI 19 (x := ((s1.Wave.length : Int) == 0)) (v := true) (by kernel_rfl) (beq_iff_eq.mpr c46) ?_
        refine seqRwI 20 (x := ((s1.Wave.length : Int) == 0)) (v := true) (by kernel_rfl) (beq_iff_eq.mpr c46) ?_
        refine seqL1 (by kernel_rfl) ?_
        refine seqG (by kernel_rfl) (does_run (run_load rfl Try.underlying46 rfl (by kernel_rfl : _ = Value.pointer (some ⟨b7, 6, none⟩)) (HS20.cell 6)) ?_)
        refine seqS3 (a' := ⟨#[.agg #[iV s1.ID, iV s1.At.X, iV s1.At.Y, iV s1.At.Z, iV s1.Rate, .slice A2 s1.Wave.length c3, iV s1.Period, iV s1.From, iV s1.To], .pointer (some ⟨b7, 0, none⟩), iV 0, iV vt15, iV (s1.Wave.length : Int), .pointer (some ⟨b7, 1, none⟩), .agg #[iV s1.At.X, iV s1.At.Y, iV s1.At.Z], iV vt15, iV vt15, .bool false, uV, .pointer (some ⟨b7, 5, none⟩), .slice A2 s1.Wave.length c3, iV (s1.Wave.length : Int), .bool false, iV (s1.Wave.length : Int), .bool false, .bool (s1.Period != 0), iV (s1.Wave.length : Int), .bool true, .bool true, .pointer (some ⟨b7, 6, none⟩), iV s1.Period, .bool (s1.Period != 0), .bool (s1.Period != 0), uV, uV, uV, uV, uV, uV, uV, uV, uV, uV, uV, uV, uV, uV, uV, uV, uV, uV, uV, uV, uV, uV, uV, uV, uV, uV, uV, uV, uV, uV, uV, uV, uV, uV, uV, uV, uV, uV, uV, uV, uV, uV, uV, uV, uV, uV], []⟩) (by kernel_rfl) ?_
        refine wpList_nil ?_
        refine hK45 _ _ ?_
        have hq_ := ite_some h; clear h; rcases hq_ with ⟨c48, h⟩ | ⟨c48, h⟩
        · have c48 : s1.Period ≠ 0 := c48
          refine wpRwI 17 (x := (s1.Period != 0)) (v := true) (by kernel_rfl) (bne_iff_ne.mpr c48) ?_
          refine wpRwI 23 (x := (s1.Period != 0)) (v := true) (by kernel_rfl) (bne_iff_ne.mpr c48) ?_
          refine wpRwI 24 (x := (s1.Period != 0)) (v := true) (by kernel_rfl) (bne_iff_ne.mpr c48) ?_
          refine condT (by kernel_rfl) ?_
          refine wp_seq_k (fun K49 hK50 => ?_)
          refine wp_region_lit ?_
          refine seqS1 (a' := ⟨#[.agg #[iV s1.ID, iV s1.At.X, iV s1.At.Y, iV s1.At.Z, iV s1.Rate, .slice A2 s1.Wave.length c3, iV s1.Period, iV s1.From, iV s1.To], .pointer (some ⟨b7, 0, none⟩), iV 3, iV vt15, iV (s1.Wave.length : Int), .pointer (some ⟨b7, 1, none⟩), .agg #[iV s1.At.X, iV s1.At.Y, iV s1.At.Z], iV vt15, iV vt15, .bool false, uV, .pointer (some ⟨b7, 5, none⟩), .slice A2 s1.Wave.length c3, iV (s1.Wave.length : Int), .bool false, iV (s1.Wave.length : Int), .bool false, .bool true, iV (s1.Wave.length : Int), .bool true, .bool true, .pointer (some ⟨b7, 6, none⟩), iV s1.Period, .bool true, .bool true, uV, uV, uV, uV, uV, uV, uV, uV, uV, uV, uV, uV, uV, uV, uV, uV, uV, uV, uV, uV, uV, uV, uV, uV, uV, uV, uV, uV, uV, uV, uV, uV, uV, uV, uV, uV, uV, uV, uV, uV, uV, uV, uV, uV, uV, uV], []⟩) (by kernel_rfl) ?_
          refine wpList_nil ?_
          refine hK50 _ _ ?_
          refine wp_ret ?_
          refine hr34 _ _ ?_
          refine hret _ _ ?_
          refine ends_still (v := Value.int .i64 3) (by kernel_rfl) (by kernel_rfl) ?_
          have HS197 := HS20.drop
          injection h with h
          subst h
          exact ⟨f17, rfl, L18, HS197⟩
        · have c48 : ¬ (s1.Period ≠ 0) := c48
          refine wpRwI 17 (x := (s1.Period != 0)) (v := false) (by kernel_rfl) (bne_eq_false_iff_eq.mpr (Decidable.of_not_not c48)) ?_
          refine wpRwI 23 (x := (s1.Period != 0)) (v := false) (by kernel_rfl) (bne_eq_false_iff_eq.mpr (Decidable.of_not_not c48)) ?_
          refine wpRwI 24 (x := (s1.Period != 0)) (v := false) (by kernel_rfl) (bne_eq_false_iff_eq.mpr (Decidable.of_not_not c48)) ?_
          refine condF (by kernel_rfl) ?_
          refine wp_seq_k (fun K51 hK52 => ?_)
          refine wp_region_lit ?_
          refine seqS3 (a' := ⟨#[.agg #[iV s1.ID, iV s1.At.X, iV s1.At.Y, iV s1.At.Z, iV s1.Rate, .slice A2 s1.Wave.length c3, iV s1.Period, iV s1.From, iV s1.To], .pointer (some ⟨b7, 0, none⟩), iV 0, iV vt15, iV (s1.Wave.length : Int), .pointer (some ⟨b7, 1, none⟩), .agg #[iV s1.At.X, iV s1.At.Y, iV s1.At.Z], iV vt15, iV vt15, .bool false, uV, .pointer (some ⟨b7, 5, none⟩), .slice A2 s1.Wave.length c3, iV (s1.Wave.length : Int), .bool false, iV (s1.Wave.length : Int), .bool false, .bool false, iV (s1.Wave.length : Int), .bool true, .bool true, .pointer (some ⟨b7, 6, none⟩), iV s1.Period, .bool false, .bool false, uV, iV (s1.Wave.length : Int), .bool (decide ((s1.Wave.length : Int) > 0)), .bool (decide ((s1.Wave.length : Int) > 0)), uV, uV, uV, uV, uV, uV, uV, uV, uV, uV, uV, uV, uV, uV, uV, uV, uV, uV, uV, uV, uV, uV, uV, uV, uV, uV, uV, uV, uV, uV, uV, uV, uV, uV, uV, uV, uV, uV, uV, uV, uV, uV], []⟩) (by kernel_rfl) ?_
          have hq_ := ite_some h; clear h; rcases hq_ with ⟨c53, h⟩ | ⟨c53, h⟩
          · have c53 : (s1.Wave.length : Int) > 0 := c53
            refine seqRwI 27 (x := (decide ((s1.Wave.length : Int) > 0))) (v := true) (by kernel_rfl) (decide_eq_true c53) ?_
            refine seqRwI 28 (x := (decide ((s1.Wave.length : Int) > 0))) (v := true) (by kernel_rfl) (decide_eq_true c53) ?_
            refine seqL1 (by kernel_rfl) ?_
            refine seqG (by kernel_rfl) (does_run (run_load rfl Try.underlying46 rfl (by kernel_rfl : _ = Value.pointer (some ⟨b7, 6, none⟩)) (HS20.cell 6)) ?_)
            refine seqS2 (a' := ⟨#[.agg #[iV s1.ID, iV s1.At.X, iV s1.At.Y, iV s1.At.Z, iV s1.Rate, .slice A2 s1.Wave.length c3, iV s1.Period, iV s1.From, iV s1.To], .pointer (some ⟨b7, 0, none⟩), iV 0, iV vt15, iV (s1.Wave.length : Int), .pointer (some ⟨b7, 1, none⟩), .agg #[iV s1.At.X, iV s1.At.Y, iV s1.At.Z], iV vt15, iV vt15, .bool false, uV, .pointer (some ⟨b7, 5, none⟩), .slice A2 s1.Wave.length c3, iV (s1.Wave.length : Int), .bool false, iV (s1.Wave.length : Int), .bool false, .bool false, iV (s1.Wave.length : Int), .bool true, .bool true, .pointer (some ⟨b7, 6, none⟩), iV s1.Period, .bool false, .bool false, uV, iV (s1.Wave.length : Int), .bool true, .bool true, .pointer (some ⟨b7, 6, none⟩), iV s1.Period, .bool (decide (s1.Period < 1)), .bool (decide (s1.Period < 1)), uV, uV, uV, uV, uV, uV, uV, uV, uV, uV, uV, uV, uV, uV, uV, uV, uV, uV, uV, uV, uV, uV, uV, uV, uV, uV, uV, uV, uV, uV, uV, uV, uV, uV, uV, uV, uV, uV], []⟩) (by kernel_rfl) ?_
            have hq_ := ite_some h; clear h; rcases hq_ with ⟨c54, h⟩ | ⟨c54, h⟩
            · have c54 : s1.Period < 1 := c54
              refine seqRwI 31 (x := (decide (s1.Period < 1))) (v := true) (by kernel_rfl) (decide_eq_true c54) ?_
              refine seqRwI 32 (x := (decide (s1.Period < 1))) (v := true) (by kernel_rfl) (decide_eq_true c54) ?_
              refine seqS13 (a' := ⟨#[.agg #[iV s1.ID, iV s1.At.X, iV s1.At.Y, iV s1.At.Z, iV s1.Rate, .slice A2 s1.Wave.length c3, iV s1.Period, iV s1.From, iV s1.To], .pointer (some ⟨b7, 0, none⟩), iV 0, iV vt15, iV (s1.Wave.length : Int), .pointer (some ⟨b7, 1, none⟩), .agg #[iV s1.At.X, iV s1.At.Y, iV s1.At.Z], iV vt15, iV vt15, .bool false, uV, .pointer (some ⟨b7, 5, none⟩), .slice A2 s1.Wave.length c3, iV (s1.Wave.length : Int), .bool false, iV (s1.Wave.length : Int), .bool false, .bool false, iV (s1.Wave.length : Int), .bool true, .bool true, .pointer (some ⟨b7, 6, none⟩), iV s1.Period, .bool false, .bool false, .bool true, iV (s1.Wave.length : Int), .bool true, .bool true, .pointer (some ⟨b7, 6, none⟩), iV s1.Period, .bool true, .bool true, uV, uV, uV, .bool true, .bool true, uV, uV, uV, uV, uV, .bool true, .bool true, uV, uV, uV, uV, uV, uV, uV, uV, uV, uV, uV, uV, uV, uV, uV, uV, uV, uV, uV, uV, uV, uV, uV, uV, uV, uV], []⟩) (by kernel_rfl) ?_
              refine wpList_nil ?_
              refine hK52 _ _ ?_
              refine condT (by kernel_rfl) ?_
              refine wp_seq_k (fun K55 hK56 => ?_)
              refine wp_region_lit ?_
              refine seqS1 (a' := ⟨#[.agg #[iV s1.ID, iV s1.At.X, iV s1.At.Y, iV s1.At.Z, iV s1.Rate, .slice A2 s1.Wave.length c3, iV s1.Period, iV s1.From, iV s1.To], .pointer (some ⟨b7, 0, none⟩), iV 4, iV vt15, iV (s1.Wave.length : Int), .pointer (some ⟨b7, 1, none⟩), .agg #[iV s1.At.X, iV s1.At.Y, iV s1.At.Z], iV vt15, iV vt15, .bool false, uV, .pointer (some ⟨b7, 5, none⟩), .slice A2 s1.Wave.length c3, iV (s1.Wave.length : Int), .bool false, iV (s1.Wave.length : Int), .bool false, .bool false, iV (s1.Wave.length : Int), .bool true, .bool true, .pointer (some ⟨b7, 6, none⟩), iV s1.Period, .bool false, .bool false, .bool true, iV (s1.Wave.length : Int), .bool true, .bool true, .pointer (some ⟨b7, 6, none⟩), iV s1.Period, .bool true, .bool true, uV, uV, uV, .bool true, .bool true, uV, uV, uV, uV, uV, .bool true, .bool true, uV, uV, uV, uV, uV, uV, uV, uV, uV, uV, uV, uV, uV, uV, uV, uV, uV, uV, uV, uV, uV, uV, uV, uV, uV, uV], []⟩) (by kernel_rfl) ?_
              refine wpList_nil ?_
              refine hK56 _ _ ?_
              refine wp_ret ?_
              refine hr34 _ _ ?_
              refine hret _ _ ?_
              refine ends_still (v := Value.int .i64 4) (by kernel_rfl) (by kernel_rfl) ?_
              have HS198 := HS20.drop
              injection h with h
              subst h
              exact ⟨f17, rfl, L18, HS198⟩
            · have c54 : ¬ (s1.Period < 1) := c54
              refine seqRwI 31 (x := (decide (s1.Period < 1))) (v := false) (by kernel_rfl) (decide_eq_false c54) ?_
              refine seqRwI 32 (x := (decide (s1.Period < 1))) (v := false) (by kernel_rfl) (decide_eq_false c54) ?_
              refine seqL1 (by kernel_rfl) ?_
              refine seqG (by kernel_rfl) (does_run (run_load rfl Try.underlying46 rfl (by kernel_rfl : _ = Value.pointer (some ⟨b7, 6, none⟩)) (HS20.cell 6)) ?_)
              refine seqS3 (a' := ⟨#[.agg #[iV s1.ID, iV s1.At.X, iV s1.At.Y, iV s1.At.Z, iV s1.Rate, .slice A2 s1.Wave.length c3, iV s1.Period, iV s1.From, iV s1.To], .pointer (some ⟨b7, 0, none⟩), iV 0, iV vt15, iV (s1.Wave.length : Int), .pointer (some ⟨b7, 1, none⟩), .agg #[iV s1.At.X, iV s1.At.Y, iV s1.At.Z], iV vt15, iV vt15, .bool false, uV, .pointer (some ⟨b7, 5, none⟩), .slice A2 s1.Wave.length c3, iV (s1.Wave.length : Int), .bool false, iV (s1.Wave.length : Int), .bool false, .bool false, iV (s1.Wave.length : Int), .bool true, .bool true, .pointer (some ⟨b7, 6, none⟩), iV s1.Period, .bool false, .bool false, uV, iV (s1.Wave.length : Int), .bool true, .bool true, .pointer (some ⟨b7, 6, none⟩), iV s1.Period, .bool false, .bool false, .pointer (some ⟨b7, 6, none⟩), iV s1.Period, .bool (decide (s1.Period > 17592186044416)), .bool (decide (s1.Period > 17592186044416)), .bool (decide (s1.Period > 17592186044416)), uV, uV, uV, uV, uV, uV, uV, uV, uV, uV, uV, uV, uV, uV, uV, uV, uV, uV, uV, uV, uV, uV, uV, uV, uV, uV, uV, uV, uV, uV, uV, uV, uV], []⟩) (by kernel_rfl) ?_
              have hq_ := ite_some h; clear h; rcases hq_ with ⟨c57, h⟩ | ⟨c57, h⟩
              · have c57 : s1.Period > 17592186044416 := c57
                refine seqRwI 35 (x := (decide (s1.Period > 17592186044416))) (v := true) (by kernel_rfl) (decide_eq_true c57) ?_
                refine seqRwI 36 (x := (decide (s1.Period > 17592186044416))) (v := true) (by kernel_rfl) (decide_eq_true c57) ?_
                refine seqRwI 37 (x := (decide (s1.Period > 17592186044416))) (v := true) (by kernel_rfl) (decide_eq_true c57) ?_
                refine seqS8 (a' := ⟨#[.agg #[iV s1.ID, iV s1.At.X, iV s1.At.Y, iV s1.At.Z, iV s1.Rate, .slice A2 s1.Wave.length c3, iV s1.Period, iV s1.From, iV s1.To], .pointer (some ⟨b7, 0, none⟩), iV 0, iV vt15, iV (s1.Wave.length : Int), .pointer (some ⟨b7, 1, none⟩), .agg #[iV s1.At.X, iV s1.At.Y, iV s1.At.Z], iV vt15, iV vt15, .bool false, uV, .pointer (some ⟨b7, 5, none⟩), .slice A2 s1.Wave.length c3, iV (s1.Wave.length : Int), .bool false, iV (s1.Wave.length : Int), .bool false, .bool false, iV (s1.Wave.length : Int), .bool true, .bool true, .pointer (some ⟨b7, 6, none⟩), iV s1.Period, .bool false, .bool false, .bool true, iV (s1.Wave.length : Int), .bool true, .bool true, .pointer (some ⟨b7, 6, none⟩), iV s1.Period, .bool false, .bool false, .pointer (some ⟨b7, 6, none⟩), iV s1.Period, .bool true, .bool true, .bool true, uV, uV, uV, uV, uV, .bool true, .bool true, uV, uV, uV, uV, uV, uV, uV, uV, uV, uV, uV, uV, uV, uV, uV, uV, uV, uV, uV, uV, uV, uV, uV, uV, uV, uV], []⟩) (by kernel_rfl) ?_
                refine wpList_nil ?_
                refine hK52 _ _ ?_
                refine condT (by kernel_rfl) ?_
                refine wp_seq_k (fun K58 hK59 => ?_)
                refine wp_region_lit ?_
                refine seqS1 (a' := ⟨#[.agg #[iV s1.ID, iV s1.At.X, iV s1.At.Y, iV s1.At.Z, iV s1.Rate, .slice A2 s1.Wave.length c3, iV s1.Period, iV s1.From, iV s1.To], .pointer (some ⟨b7, 0, none⟩), iV 4, iV vt15, iV (s1.Wave.length : Int), .pointer (some ⟨b7, 1, none⟩), .agg #[iV s1.At.X, iV s1.At.Y, iV s1.At.Z], iV vt15, iV vt15, .bool false, uV, .pointer (some ⟨b7, 5, none⟩), .slice A2 s1.Wave.length c3, iV (s1.Wave.length : Int), .bool false, iV (s1.Wave.length : Int), .bool false, .bool false, iV (s1.Wave.length : Int), .bool true, .bool true, .pointer (some ⟨b7, 6, none⟩), iV s1.Period, .bool false, .bool false, .bool true, iV (s1.Wave.length : Int), .bool true, .bool true, .pointer (some ⟨b7, 6, none⟩), iV s1.Period, .bool false, .bool false, .pointer (some ⟨b7, 6, none⟩), iV s1.Period, .bool true, .bool true, .bool true, uV, uV, uV, uV, uV, .bool true, .bool true, uV, uV, uV, uV, uV, uV, uV, uV, uV, uV, uV, uV, uV, uV, uV, uV, uV, uV, uV, uV, uV, uV, uV, uV, uV, uV], []⟩) (by kernel_rfl) ?_
                refine wpList_nil ?_
                refine hK59 _ _ ?_
                refine wp_ret ?_
                refine hr34 _ _ ?_
                refine hret _ _ ?_
                refine ends_still (v := Value.int .i64 4) (by kernel_rfl) (by kernel_rfl) ?_
                have HS199 := HS20.drop
                injection h with h
                subst h
                exact ⟨f17, rfl, L18, HS199⟩
              · have c57 : ¬ (s1.Period > 17592186044416) := c57
                refine seqRwI 35 (x := (decide (s1.Period > 17592186044416))) (v := false) (by kernel_rfl) (decide_eq_false c57) ?_
                refine seqRwI 36 (x := (decide (s1.Period > 17592186044416))) (v := false) (by kernel_rfl) (decide_eq_false c57) ?_
                refine seqRwI 37 (x := (decide (s1.Period > 17592186044416))) (v := false) (by kernel_rfl) (decide_eq_false c57) ?_
                refine seqL1 (by kernel_rfl) ?_
                refine seqG (by kernel_rfl) (does_run (run_load rfl Try.underlying46 rfl (by kernel_rfl : _ = Value.pointer (some ⟨b7, 6, none⟩)) (HS20.cell 6)) ?_)
                have hq_ := guard_some h; clear h; obtain ⟨c60, h⟩ := hq_
                have c60 : ¬ ((s1.Wave.length : Int) = 0) := c60
                refine seqL1 (by kernel_rfl) ?_
                refine seqG (by kernel_rfl) (does_run (run_rem rfl (by kernel_rfl : _ = Value.int .i64 s1.Period) (by kernel_rfl : _ = Value.int .i64 (s1.Wave.length : Int)) c60 W19) ?_)
                refine seqS4 (a' := ⟨#[.agg #[iV s1.ID, iV s1.At.X, iV s1.At.Y, iV s1.At.Z, iV s1.Rate, .slice A2 s1.Wave.length c3, iV s1.Period, iV s1.From, iV s1.To], .pointer (some ⟨b7, 0, none⟩), iV 0, iV vt15, iV (s1.Wave.length : Int), .pointer (some ⟨b7, 1, none⟩), .agg #[iV s1.At.X, iV s1.At.Y, iV s1.At.Z], iV vt15, iV vt15, .bool false, uV, .pointer (some ⟨b7, 5, none⟩), .slice A2 s1.Wave.length c3, iV (s1.Wave.length : Int), .bool false, iV (s1.Wave.length : Int), .bool false, .bool false, iV (s1.Wave.length : Int), .bool true, .bool true, .pointer (some ⟨b7, 6, none⟩), iV s1.Period, .bool false, .bool false, .bool ((Int.tmod s1.Period (s1.Wave.length : Int)) != 0), iV (s1.Wave.length : Int), .bool true, .bool true, .pointer (some ⟨b7, 6, none⟩), iV s1.Period, .bool false, .bool false, .pointer (some ⟨b7, 6, none⟩), iV s1.Period, .bool false, .bool false, .bool false, .pointer (some ⟨b7, 6, none⟩), iV s1.Period, iV (s1.Wave.length : Int), iV (Int.tmod s1.Period (s1.Wave.length : Int)), .bool ((Int.tmod s1.Period (s1.Wave.length : Int)) != 0), .bool ((Int.tmod s1.Period (s1.Wave.length : Int)) != 0), .bool ((Int.tmod s1.Period (s1.Wave.length : Int)) != 0), uV, uV, uV, uV, uV, uV, uV, uV, uV, uV, uV, uV, uV, uV, uV, uV, uV, uV, uV, uV, uV, uV, uV, uV, uV, uV], []⟩) (by kernel_rfl) ?_
                refine wpList_nil ?_
                refine hK52 _ _ ?_
                have hq_ := ite_some h; clear h; rcases hq_ with ⟨c62, h⟩ | ⟨c62, h⟩
                · have c62 : (Int.tmod s1.Period (s1.Wave.length : Int)) ≠ 0 := c62
                  refine wpRwI 25 (x := ((Int.tmod s1.Period (s1.Wave.length : Int)) != 0)) (v := true) (by kernel_rfl) (bne_iff_ne.mpr c62) ?_
                  refine wpRwI 42 (x := ((Int.tmod s1.Period (s1.Wave.length : Int)) != 0)) (v := true) (by kernel_rfl) (bne_iff_ne.mpr c62) ?_
                  refine wpRwI 43 (x := ((Int.tmod s1.Period (s1.Wave.length : Int)) != 0)) (v := true) (by kernel_rfl) (bne_iff_ne.mpr c62) ?_
                  refine wpRwI 44 (x := ((Int.tmod s1.Period (s1.Wave.length : Int)) != 0)) (v := true) (by kernel_rfl) (bne_iff_ne.mpr c62) ?_
                  refine condT (by kernel_rfl) ?_
                  refine wp_seq_k (fun K63 hK64 => ?_)
                  refine wp_region_lit ?_
                  refine seqS1 (a' := ⟨#[.agg #[iV s1.ID, iV s1.At.X, iV s1.At.Y, iV s1.At.Z, iV s1.Rate, .slice A2 s1.Wave.length c3, iV s1.Period, iV s1.From, iV s1.To], .pointer (some ⟨b7, 0, none⟩), iV 4, iV vt15, iV (s1.Wave.length : Int), .pointer (some ⟨b7, 1, none⟩), .agg #[iV s1.At.X, iV s1.At.Y, iV s1.At.Z], iV vt15, iV vt15, .bool false, uV, .pointer (some ⟨b7, 5, none⟩), .slice A2 s1.Wave.length c3, iV (s1.Wave.length : Int), .bool false, iV (s1.Wave.length : Int), .bool false, .bool false, iV (s1.Wave.length : Int), .bool true, .bool true, .pointer (some ⟨b7, 6, none⟩), iV s1.Period, .bool false, .bool false, .bool true, iV (s1.Wave.length : Int), .bool true, .bool true, .pointer (some ⟨b7, 6, none⟩), iV s1.Period, .bool false, .bool false, .pointer (some ⟨b7, 6, none⟩), iV s1.Period, .bool false, .bool false, .bool false, .pointer (some ⟨b7, 6, none⟩), iV s1.Period, iV (s1.Wave.length : Int), iV (Int.tmod s1.Period (s1.Wave.length : Int)), .bool true, .bool true, .bool true, uV, uV, uV, uV, uV, uV, uV, uV, uV, uV, uV, uV, uV, uV, uV, uV, uV, uV, uV, uV, uV, uV, uV, uV, uV, uV], []⟩) (by kernel_rfl) ?_
                  refine wpList_nil ?_
                  refine hK64 _ _ ?_
                  refine wp_ret ?_
                  refine hr34 _ _ ?_
                  refine hret _ _ ?_
                  refine ends_still (v := Value.int .i64 4) (by kernel_rfl) (by kernel_rfl) ?_
                  have HS200 := HS20.drop
                  injection h with h
                  subst h
                  exact ⟨f17, rfl, L18, HS200⟩
                · have c62 : ¬ ((Int.tmod s1.Period (s1.Wave.length : Int)) ≠ 0) := c62
                  refine wpRwI 25 (x := ((Int.tmod s1.Period (s1.Wave.length : Int)) != 0)) (v := false) (by kernel_rfl) (bne_eq_false_iff_eq.mpr (Decidable.of_not_not c62)) ?_
                  refine wpRwI 42 (x := ((Int.tmod s1.Period (s1.Wave.length : Int)) != 0)) (v := false) (by kernel_rfl) (bne_eq_false_iff_eq.mpr (Decidable.of_not_not c62)) ?_
                  refine wpRwI 43 (x := ((Int.tmod s1.Period (s1.Wave.length : Int)) != 0)) (v := false) (by kernel_rfl) (bne_eq_false_iff_eq.mpr (Decidable.of_not_not c62)) ?_
                  refine wpRwI 44 (x := ((Int.tmod s1.Period (s1.Wave.length : Int)) != 0)) (v := false) (by kernel_rfl) (bne_eq_false_iff_eq.mpr (Decidable.of_not_not c62)) ?_
                  refine condF (by kernel_rfl) ?_
                  refine wp_seq_k (fun K65 hK66 => ?_)
                  refine wp_region_lit ?_
                  refine seqL1 (by kernel_rfl) ?_
                  refine seqK rfl (does_run (run_load rfl Try.underlying60 rfl (by kernel_rfl : _ = Value.pointer (some ⟨b7, 5, none⟩)) (HS20.cell 5)) ?_)
                  have hq_ := bind_some h; clear h; obtain ⟨vt67, hc68, h⟩ := hq_
                  refine seqL1 (by kernel_rfl) ?_
                  refine seqK rfl (does_call (f := 66) (args := #[.slice A2 s1.Wave.length c3, .func (.func 67) #[] #[.pointer (some ⟨b7, 0, none⟩)]]) (by kernel_rfl) (slices_ContainsFunc_Quanta__sky_star_1.calls k b7 A2 c3 A2 c3 s1 s1.Wave HS20 (HR4.mono L18) (HR4.mono L18) vt67 hc68) ?_)
                  rintro _ W71 ⟨f69, rfl, L70, HS72⟩
                  refine ⟨_, rfl, ?_⟩
                  refine seqS1 (a' := ⟨#[.agg #[iV s1.ID, iV s1.At.X, iV s1.At.Y, iV s1.At.Z, iV s1.Rate, .slice A2 s1.Wave.length c3, iV s1.Period, iV s1.From, iV s1.To], .pointer (some ⟨b7, 0, none⟩), iV 0, iV vt15, iV (s1.Wave.length : Int), .pointer (some ⟨b7, 1, none⟩), .agg #[iV s1.At.X, iV s1.At.Y, iV s1.At.Z], iV vt15, iV vt15, .bool false, uV, .pointer (some ⟨b7, 5, none⟩), .slice A2 s1.Wave.length c3, iV (s1.Wave.length : Int), .bool false, iV (s1.Wave.length : Int), .bool false, .bool false, iV (s1.Wave.length : Int), .bool true, .bool true, .pointer (some ⟨b7, 6, none⟩), iV s1.Period, .bool false, .bool false, .bool false, iV (s1.Wave.length : Int), .bool true, .bool true, .pointer (some ⟨b7, 6, none⟩), iV s1.Period, .bool false, .bool false, .pointer (some ⟨b7, 6, none⟩), iV s1.Period, .bool false, .bool false, .bool false, .pointer (some ⟨b7, 6, none⟩), iV s1.Period, iV (s1.Wave.length : Int), iV (Int.tmod s1.Period (s1.Wave.length : Int)), .bool false, .bool false, .bool false, .bool vt67, .pointer (some ⟨b7, 5, none⟩), .slice A2 s1.Wave.length c3, .func (.func 67) #[] #[.pointer (some ⟨b7, 0, none⟩)], .bool vt67, uV, uV, uV, uV, uV, uV, uV, uV, uV, uV, uV, uV, uV, uV, uV, uV, uV, uV, uV, uV, uV], []⟩) (by kernel_rfl) ?_
                  refine wpList_nil ?_
                  refine hK66 _ _ ?_
                  have hq_ := ite_some h; clear h; rcases hq_ with ⟨c74, h⟩ | ⟨c74, h⟩
                  · have c74 : vt67 = true := c74
                    refine wpRwI 45 (x := vt67) (v := true) (by kernel_rfl) c74 ?_
                    refine wpRwI 49 (x := vt67) (v := true) (by kernel_rfl) c74 ?_
                    refine condT (by kernel_rfl) ?_
                    refine wp_seq_k (fun K75 hK76 => ?_)
                    refine wp_region_lit ?_
                    refine seqS1 (a' := ⟨#[.agg #[iV s1.ID, iV s1.At.X, iV s1.At.Y, iV s1.At.Z, iV s1.Rate, .slice A2 s1.Wave.length c3, iV s1.Period, iV s1.From, iV s1.To], .pointer (some ⟨b7, 0, none⟩), iV 4, iV vt15, iV (s1.Wave.length : Int), .pointer (some ⟨b7, 1, none⟩), .agg #[iV s1.At.X, iV s1.At.Y, iV s1.At.Z], iV vt15, iV vt15, .bool false, uV, .pointer (some ⟨b7, 5, none⟩), .slice A2 s1.Wave.length c3, iV (s1.Wave.length : Int), .bool false, iV (s1.Wave.length : Int), .bool false, .bool false, iV (s1.Wave.length : Int), .bool true, .bool true, .pointer (some ⟨b7, 6, none⟩), iV s1.Period, .bool false, .bool false, .bool false, iV (s1.Wave.length : Int), .bool true, .bool true, .pointer (some ⟨b7, 6, none⟩), iV s1.Period, .bool false, .bool false, .pointer (some ⟨b7, 6, none⟩), iV s1.Period, .bool false, .bool false, .bool false, .pointer (some ⟨b7, 6, none⟩), iV s1.Period, iV (s1.Wave.length : Int), iV (Int.tmod s1.Period (s1.Wave.length : Int)), .bool false, .bool false, .bool false, .bool true, .pointer (some ⟨b7, 5, none⟩), .slice A2 s1.Wave.length c3, .func (.func 67) #[] #[.pointer (some ⟨b7, 0, none⟩)], .bool true, uV, uV, uV, uV, uV, uV, uV, uV, uV, uV, uV, uV, uV, uV, uV, uV, uV, uV, uV, uV, uV], []⟩) (by kernel_rfl) ?_
                    refine wpList_nil ?_
                    refine hK76 _ _ ?_
                    refine wp_ret ?_
                    refine hr34 _ _ ?_
                    refine hret _ _ ?_
                    refine ends_still (v := Value.int .i64 4) (by kernel_rfl) (by kernel_rfl) ?_
                    have HS201 := HS72.drop
                    injection h with h
                    subst h
                    exact ⟨f69, rfl, (L18.trans L70), HS201⟩
                  · have c74 : ¬ (vt67 = true) := c74
                    refine wpRwI 45 (x := vt67) (v := false) (by kernel_rfl) (Bool.eq_false_iff.mpr c74) ?_
                    refine wpRwI 49 (x := vt67) (v := false) (by kernel_rfl) (Bool.eq_false_iff.mpr c74) ?_
                    refine condF (by kernel_rfl) ?_
                    refine wp_seq_k (fun K77 hK78 => ?_)
                    refine wp_region_lit ?_
                    refine seqL1 (by kernel_rfl) ?_
                    refine seqK rfl (does_run (run_load rfl Try.underlying46 rfl (by kernel_rfl : _ = Value.pointer (some ⟨b7, 7, none⟩)) (HS72.cell 7)) ?_)
                    refine seqL1 (by kernel_rfl) ?_
                    refine seqK rfl (does_run (run_load rfl Try.underlying46 rfl (by kernel_rfl : _ = Value.pointer (some ⟨b7, 8, none⟩)) (HS72.cell 8)) ?_)
                    refine seqS3 (a' := ⟨#[.agg #[iV s1.ID, iV s1.At.X, iV s1.At.Y, iV s1.At.Z, iV s1.Rate, .slice A2 s1.Wave.length c3, iV s1.Period, iV s1.From, iV s1.To], .pointer (some ⟨b7, 0, none⟩), iV 0, iV vt15, iV (s1.Wave.length : Int), .pointer (some ⟨b7, 1, none⟩), .agg #[iV s1.At.X, iV s1.At.Y, iV s1.At.Z], iV vt15, iV vt15, .bool false, uV, .pointer (some ⟨b7, 5, none⟩), .slice A2 s1.Wave.length c3, iV (s1.Wave.length : Int), .bool false, iV (s1.Wave.length : Int), .bool false, .bool false, iV (s1.Wave.length : Int), .bool true, .bool true, .pointer (some ⟨b7, 6, none⟩), iV s1.Period, .bool false, .bool false, .bool false, iV (s1.Wave.length : Int), .bool true, .bool true, .pointer (some ⟨b7, 6, none⟩), iV s1.Period, .bool false, .bool false, .pointer (some ⟨b7, 6, none⟩), iV s1.Period, .bool false, .bool false, .bool false, .pointer (some ⟨b7, 6, none⟩), iV s1.Period, iV (s1.Wave.length : Int), iV (Int.tmod s1.Period (s1.Wave.length : Int)), .bool false, .bool false, .bool false, .bool false, .pointer (some ⟨b7, 5, none⟩), .slice A2 s1.Wave.length c3, .func (.func 67) #[] #[.pointer (some ⟨b7, 0, none⟩)], .bool false, uV, .pointer (some ⟨b7, 7, none⟩), iV s1.From, .pointer (some ⟨b7, 8, none⟩), iV s1.To, iV (mn s1.From s1.To), .bool (decide ((mn s1.From s1.To) < (-17592186044416))), .bool (decide ((mn s1.From s1.To) < (-17592186044416))), uV, uV, uV, uV, uV, uV, uV, uV, uV, uV, uV, uV, uV], []⟩) (by kernel_rfl) ?_
                    have hq_ := ite_some h; clear h; rcases hq_ with ⟨c79, h⟩ | ⟨c79, h⟩
                    · have c79 : (mn s1.From s1.To) < (-17592186044416) := c79
                      refine seqRwI 56 (x := (decide ((mn s1.From s1.To) < (-17592186044416)))) (v := true) (by kernel_rfl) (decide_eq_true c79) ?_
                      refine seqRwI 57 (x := (decide ((mn s1.From s1.To) < (-17592186044416)))) (v := true) (by kernel_rfl) (decide_eq_true c79) ?_
                      refine seqS8 (a' := ⟨#[.agg #[iV s1.ID, iV s1.At.X, iV s1.At.Y, iV s1.At.Z, iV s1.Rate, .slice A2 s1.Wave.length c3, iV s1.Period, iV s1.From, iV s1.To], .pointer (some ⟨b7, 0, none⟩), iV 0, iV vt15, iV (s1.Wave.length : Int), .pointer (some ⟨b7, 1, none⟩), .agg #[iV s1.At.X, iV s1.At.Y, iV s1.At.Z], iV vt15, iV vt15, .bool false, uV, .pointer (some ⟨b7, 5, none⟩), .slice A2 s1.Wave.length c3, iV (s1.Wave.length : Int), .bool false, iV (s1.Wave.length : Int), .bool false, .bool false, iV (s1.Wave.length : Int), .bool true, .bool true, .pointer (some ⟨b7, 6, none⟩), iV s1.Period, .bool false, .bool false, .bool false, iV (s1.Wave.length : Int), .bool true, .bool true, .pointer (some ⟨b7, 6, none⟩), iV s1.Period, .bool false, .bool false, .pointer (some ⟨b7, 6, none⟩), iV s1.Period, .bool false, .bool false, .bool false, .pointer (some ⟨b7, 6, none⟩), iV s1.Period, iV (s1.Wave.length : Int), iV (Int.tmod s1.Period (s1.Wave.length : Int)), .bool false, .bool false, .bool false, .bool false, .pointer (some ⟨b7, 5, none⟩), .slice A2 s1.Wave.length c3, .func (.func 67) #[] #[.pointer (some ⟨b7, 0, none⟩)], .bool false, .bool true, .pointer (some ⟨b7, 7, none⟩), iV s1.From, .pointer (some ⟨b7, 8, none⟩), iV s1.To, iV (mn s1.From s1.To), .bool true, .bool true, uV, uV, uV, uV, uV, uV, .bool true, uV, uV, uV, uV, uV, uV], []⟩) (by kernel_rfl) ?_
                      refine wpList_nil ?_
                      refine hK78 _ _ ?_
                      refine condT (by kernel_rfl) ?_
                      refine wp_seq_k (fun K80 hK81 => ?_)
                      refine wp_region_lit ?_
                      refine seqS1 (a' := ⟨#[.agg #[iV s1.ID, iV s1.At.X, iV s1.At.Y, iV s1.At.Z, iV s1.Rate, .slice A2 s1.Wave.length c3, iV s1.Period, iV s1.From, iV s1.To], .pointer (some ⟨b7, 0, none⟩), iV 4, iV vt15, iV (s1.Wave.length : Int), .pointer (some ⟨b7, 1, none⟩), .agg #[iV s1.At.X, iV s1.At.Y, iV s1.At.Z], iV vt15, iV vt15, .bool false, uV, .pointer (some ⟨b7, 5, none⟩), .slice A2 s1.Wave.length c3, iV (s1.Wave.length : Int), .bool false, iV (s1.Wave.length : Int), .bool false, .bool false, iV (s1.Wave.length : Int), .bool true, .bool true, .pointer (some ⟨b7, 6, none⟩), iV s1.Period, .bool false, .bool false, .bool false, iV (s1.Wave.length : Int), .bool true, .bool true, .pointer (some ⟨b7, 6, none⟩), iV s1.Period, .bool false, .bool false, .pointer (some ⟨b7, 6, none⟩), iV s1.Period, .bool false, .bool false, .bool false, .pointer (some ⟨b7, 6, none⟩), iV s1.Period, iV (s1.Wave.length : Int), iV (Int.tmod s1.Period (s1.Wave.length : Int)), .bool false, .bool false, .bool false, .bool false, .pointer (some ⟨b7, 5, none⟩), .slice A2 s1.Wave.length c3, .func (.func 67) #[] #[.pointer (some ⟨b7, 0, none⟩)], .bool false, .bool true, .pointer (some ⟨b7, 7, none⟩), iV s1.From, .pointer (some ⟨b7, 8, none⟩), iV s1.To, iV (mn s1.From s1.To), .bool true, .bool true, uV, uV, uV, uV, uV, uV, .bool true, uV, uV, uV, uV, uV, uV], []⟩) (by kernel_rfl) ?_
                      refine wpList_nil ?_
                      refine hK81 _ _ ?_
                      refine wp_ret ?_
                      refine hr34 _ _ ?_
                      refine hret _ _ ?_
                      refine ends_still (v := Value.int .i64 4) (by kernel_rfl) (by kernel_rfl) ?_
                      have HS202 := HS72.drop
                      injection h with h
                      subst h
                      exact ⟨f69, rfl, (L18.trans L70), HS202⟩
                    · have c79 : ¬ ((mn s1.From s1.To) < (-17592186044416)) := c79
                      refine seqRwI 56 (x := (decide ((mn s1.From s1.To) < (-17592186044416)))) (v := false) (by kernel_rfl) (decide_eq_false c79) ?_
                      refine seqRwI 57 (x := (decide ((mn s1.From s1.To) < (-17592186044416)))) (v := false) (by kernel_rfl) (decide_eq_false c79) ?_
                      refine seqL1 (by kernel_rfl) ?_
                      refine seqG (by kernel_rfl) (does_run (run_load rfl Try.underlying46 rfl (by kernel_rfl : _ = Value.pointer (some ⟨b7, 7, none⟩)) (HS72.cell 7)) ?_)
                      refine seqL1 (by kernel_rfl) ?_
                      refine seqG (by kernel_rfl) (does_run (run_load rfl Try.underlying46 rfl (by kernel_rfl : _ = Value.pointer (some ⟨b7, 8, none⟩)) (HS72.cell 8)) ?_)
                      refine seqS4 (a' := ⟨#[.agg #[iV s1.ID, iV s1.At.X, iV s1.At.Y, iV s1.At.Z, iV s1.Rate, .slice A2 s1.Wave.length c3, iV s1.Period, iV s1.From, iV s1.To], .pointer (some ⟨b7, 0, none⟩), iV 0, iV vt15, iV (s1.Wave.length : Int), .pointer (some ⟨b7, 1, none⟩), .agg #[iV s1.At.X, iV s1.At.Y, iV s1.At.Z], iV vt15, iV vt15, .bool false, uV, .pointer (some ⟨b7, 5, none⟩), .slice A2 s1.Wave.length c3, iV (s1.Wave.length : Int), .bool false, iV (s1.Wave.length : Int), .bool false, .bool false, iV (s1.Wave.length : Int), .bool true, .bool true, .pointer (some ⟨b7, 6, none⟩), iV s1.Period, .bool false, .bool false, .bool false, iV (s1.Wave.length : Int), .bool true, .bool true, .pointer (some ⟨b7, 6, none⟩), iV s1.Period, .bool false, .bool false, .pointer (some ⟨b7, 6, none⟩), iV s1.Period, .bool false, .bool false, .bool false, .pointer (some ⟨b7, 6, none⟩), iV s1.Period, iV (s1.Wave.length : Int), iV (Int.tmod s1.Period (s1.Wave.length : Int)), .bool false, .bool false, .bool false, .bool false, .pointer (some ⟨b7, 5, none⟩), .slice A2 s1.Wave.length c3, .func (.func 67) #[] #[.pointer (some ⟨b7, 0, none⟩)], .bool false, .bool (decide ((mx s1.From s1.To) > 17592186044416)), .pointer (some ⟨b7, 7, none⟩), iV s1.From, .pointer (some ⟨b7, 8, none⟩), iV s1.To, iV (mn s1.From s1.To), .bool false, .bool false, .pointer (some ⟨b7, 7, none⟩), iV s1.From, .pointer (some ⟨b7, 8, none⟩), iV s1.To, iV (mx s1.From s1.To), .bool (decide ((mx s1.From s1.To) > 17592186044416)), .bool (decide ((mx s1.From s1.To) > 17592186044416)), uV, uV, uV, uV, uV, uV], []⟩) (by kernel_rfl) ?_
                      refine wpList_nil ?_
                      refine hK78 _ _ ?_
                      have hq_ := ite_some h; clear h; rcases hq_ with ⟨c83, h⟩ | ⟨c83, h⟩
                      · have c83 : (mx s1.From s1.To) > 17592186044416 := c83
                        refine wpRwI 50 (x := (decide ((mx s1.From s1.To) > 17592186044416))) (v := true) (by kernel_rfl) (decide_eq_true c83) ?_
                        refine wpRwI 63 (x := (decide ((mx s1.From s1.To) > 17592186044416))) (v := true) (by kernel_rfl) (decide_eq_true c83) ?_
                        refine wpRwI 64 (x := (decide ((mx s1.From s1.To) > 17592186044416))) (v := true) (by kernel_rfl) (decide_eq_true c83) ?_
                        refine condT (by kernel_rfl) ?_
                        refine wp_seq_k (fun K84 hK85 => ?_)
                        refine wp_region_lit ?_
                        refine seqS1 (a' := ⟨#[.agg #[iV s1.ID, iV s1.At.X, iV s1.At.Y, iV s1.At.Z, iV s1.Rate, .slice A2 s1.Wave.length c3, iV s1.Period, iV s1.From, iV s1.To], .pointer (some ⟨b7, 0, none⟩), iV 4, iV vt15, iV (s1.Wave.length : Int), .pointer (some ⟨b7, 1, none⟩), .agg #[iV s1.At.X, iV s1.At.Y, iV s1.At.Z], iV vt15, iV vt15, .bool false, uV, .pointer (some ⟨b7, 5, none⟩), .slice A2 s1.Wave.length c3, iV (s1.Wave.length : Int), .bool false, iV (s1.Wave.length : Int), .bool false, .bool false, iV (s1.Wave.length : Int), .bool true, .bool true, .pointer (some ⟨b7, 6, none⟩), iV s1.Period, .bool false, .bool false, .bool false, iV (s1.Wave.length : Int), .bool true, .bool true, .pointer (some ⟨b7, 6, none⟩), iV s1.Period, .bool false, .bool false, .pointer (some ⟨b7, 6, none⟩), iV s1.Period, .bool false, .bool false, .bool false, .pointer (some ⟨b7, 6, none⟩), iV s1.Period, iV (s1.Wave.length : Int), iV (Int.tmod s1.Period (s1.Wave.length : Int)), .bool false, .bool false, .bool false, .bool false, .pointer (some ⟨b7, 5, none⟩), .slice A2 s1.Wave.length c3, .func (.func 67) #[] #[.pointer (some ⟨b7, 0, none⟩)], .bool false, .bool true, .pointer (some ⟨b7, 7, none⟩), iV s1.From, .pointer (some ⟨b7, 8, none⟩), iV s1.To, iV (mn s1.From s1.To), .bool false, .bool false, .pointer (some ⟨b7, 7, none⟩), iV s1.From, .pointer (some ⟨b7, 8, none⟩), iV s1.To, iV (mx s1.From s1.To), .bool true, .bool true, uV, uV, uV, uV, uV, uV], []⟩) (by kernel_rfl) ?_
                        refine wpList_nil ?_
                        refine hK85 _ _ ?_
                        refine wp_ret ?_
                        refine hr34 _ _ ?_
                        refine hret _ _ ?_
                        refine ends_still (v := Value.int .i64 4) (by kernel_rfl) (by kernel_rfl) ?_
                        have HS203 := HS72.drop
                        injection h with h
                        subst h
                        exact ⟨f69, rfl, (L18.trans L70), HS203⟩
                      · have c83 : ¬ ((mx s1.From s1.To) > 17592186044416) := c83
                        refine wpRwI 50 (x := (decide ((mx s1.From s1.To) > 17592186044416))) (v := false) (by kernel_rfl) (decide_eq_false c83) ?_
                        refine wpRwI 63 (x := (decide ((mx s1.From s1.To) > 17592186044416))) (v := false) (by kernel_rfl) (decide_eq_false c83) ?_
                        refine wpRwI 64 (x := (decide ((mx s1.From s1.To) > 17592186044416))) (v := false) (by kernel_rfl) (decide_eq_false c83) ?_
                        refine condF (by kernel_rfl) ?_
                        refine wp_seq_k (fun K86 hK87 => ?_)
                        refine wp_region_lit ?_
                        refine seqL1 (by kernel_rfl) ?_
                        refine seqK rfl (does_run (run_load rfl Try.underlying46 rfl (by kernel_rfl : _ = Value.pointer (some ⟨b7, 7, none⟩)) (HS72.cell 7)) ?_)
                        refine seqL1 (by kernel_rfl) ?_
                        refine seqK rfl (does_run (run_load rfl Try.underlying46 rfl (by kernel_rfl : _ = Value.pointer (some ⟨b7, 8, none⟩)) (HS72.cell 8)) ?_)
                        refine seqS2 (a' := ⟨#[.agg #[iV s1.ID, iV s1.At.X, iV s1.At.Y, iV s1.At.Z, iV s1.Rate, .slice A2 s1.Wave.length c3, iV s1.Period, iV s1.From, iV s1.To], .pointer (some ⟨b7, 0, none⟩), iV 0, iV vt15, iV (s1.Wave.length : Int), .pointer (some ⟨b7, 1, none⟩), .agg #[iV s1.At.X, iV s1.At.Y, iV s1.At.Z], iV vt15, iV vt15, .bool false, uV, .pointer (some ⟨b7, 5, none⟩), .slice A2 s1.Wave.length c3, iV (s1.Wave.length : Int), .bool false, iV (s1.Wave.length : Int), .bool false, .bool false, iV (s1.Wave.length : Int), .bool true, .bool true, .pointer (some ⟨b7, 6, none⟩), iV s1.Period, .bool false, .bool false, .bool false, iV (s1.Wave.length : Int), .bool true, .bool true, .pointer (some ⟨b7, 6, none⟩), iV s1.Period, .bool false, .bool false, .pointer (some ⟨b7, 6, none⟩), iV s1.Period, .bool false, .bool false, .bool false, .pointer (some ⟨b7, 6, none⟩), iV s1.Period, iV (s1.Wave.length : Int), iV (Int.tmod s1.Period (s1.Wave.length : Int)), .bool false, .bool false, .bool false, .bool false, .pointer (some ⟨b7, 5, none⟩), .slice A2 s1.Wave.length c3, .func (.func 67) #[] #[.pointer (some ⟨b7, 0, none⟩)], .bool false, .bool false, .pointer (some ⟨b7, 7, none⟩), iV s1.From, .pointer (some ⟨b7, 8, none⟩), iV s1.To, iV (mn s1.From s1.To), .bool false, .bool false, .pointer (some ⟨b7, 7, none⟩), iV s1.From, .pointer (some ⟨b7, 8, none⟩), iV s1.To, iV (mx s1.From s1.To), .bool false, .bool false, .bool (decide (s1.From > s1.To)), .pointer (some ⟨b7, 7, none⟩), iV s1.From, .pointer (some ⟨b7, 8, none⟩), iV s1.To, .bool (decide (s1.From > s1.To))], []⟩) (by kernel_rfl) ?_
                        refine wpList_nil ?_
                        refine hK87 _ _ ?_
                        have hq_ := ite_some h; clear h; rcases hq_ with ⟨c89, h⟩ | ⟨c89, h⟩
                        · have c89 : s1.From > s1.To := c89
                          refine wpRwI 65 (x := (decide (s1.From > s1.To))) (v := true) (by kernel_rfl) (decide_eq_true c89) ?_
                          refine wpRwI 70 (x := (decide (s1.From > s1.To))) (v := true) (by kernel_rfl) (decide_eq_true c89) ?_
                          refine condT (by kernel_rfl) ?_
                          refine wp_seq_k (fun K90 hK91 => ?_)
                          refine wp_region_lit ?_
                          refine seqS1 (a' := ⟨#[.agg #[iV s1.ID, iV s1.At.X, iV s1.At.Y, iV s1.At.Z, iV s1.Rate, .slice A2 s1.Wave.length c3, iV s1.Period, iV s1.From, iV s1.To], .pointer (some ⟨b7, 0, none⟩), iV 11, iV vt15, iV (s1.Wave.length : Int), .pointer (some ⟨b7, 1, none⟩), .agg #[iV s1.At.X, iV s1.At.Y, iV s1.At.Z], iV vt15, iV vt15, .bool false, uV, .pointer (some ⟨b7, 5, none⟩), .slice A2 s1.Wave.length c3, iV (s1.Wave.length : Int), .bool false, iV (s1.Wave.length : Int), .bool false, .bool false, iV (s1.Wave.length : Int), .bool true, .bool true, .pointer (some ⟨b7, 6, none⟩), iV s1.Period, .bool false, .bool false, .bool false, iV (s1.Wave.length : Int), .bool true, .bool true, .pointer (some ⟨b7, 6, none⟩), iV s1.Period, .bool false, .bool false, .pointer (some ⟨b7, 6, none⟩), iV s1.Period, .bool false, .bool false, .bool false, .pointer (some ⟨b7, 6, none⟩), iV s1.Period, iV (s1.Wave.length : Int), iV (Int.tmod s1.Period (s1.Wave.length : Int)), .bool false, .bool false, .bool false, .bool false, .pointer (some ⟨b7, 5, none⟩), .slice A2 s1.Wave.length c3, .func (.func 67) #[] #[.pointer (some ⟨b7, 0, none⟩)], .bool false, .bool false, .pointer (some ⟨b7, 7, none⟩), iV s1.From, .pointer (some ⟨b7, 8, none⟩), iV s1.To, iV (mn s1.From s1.To), .bool false, .bool false, .pointer (some ⟨b7, 7, none⟩), iV s1.From, .pointer (some ⟨b7, 8, none⟩), iV s1.To, iV (mx s1.From s1.To), .bool false, .bool false, .bool true, .pointer (some ⟨b7, 7, none⟩), iV s1.From, .pointer (some ⟨b7, 8, none⟩), iV s1.To, .bool true], []⟩) (by kernel_rfl) ?_
                          refine wpList_nil ?_
                          refine hK91 _ _ ?_
                          refine wp_ret ?_
                          refine hr34 _ _ ?_
                          refine hret _ _ ?_
                          refine ends_still (v := Value.int .i64 11) (by kernel_rfl) (by kernel_rfl) ?_
                          have HS204 := HS72.drop
                          injection h with h
                          subst h
                          exact ⟨f69, rfl, (L18.trans L70), HS204⟩
                        · have c89 : ¬ (s1.From > s1.To) := c89
                          refine wpRwI 65 (x := (decide (s1.From > s1.To))) (v := false) (by kernel_rfl) (decide_eq_false c89) ?_
                          refine wpRwI 70 (x := (decide (s1.From > s1.To))) (v := false) (by kernel_rfl) (decide_eq_false c89) ?_
                          refine condF (by kernel_rfl) ?_
                          refine wp_skip ?_
                          refine hn33 _ _ ?_
                          refine hK30 _ _ ?_
                          refine wp_seq_k (fun K187 hK188 => ?_)
                          refine wp_region_lit ?_
                          refine seqS1 (a' := ⟨#[.agg #[iV s1.ID, iV s1.At.X, iV s1.At.Y, iV s1.At.Z, iV s1.Rate, .slice A2 s1.Wave.length c3, iV s1.Period, iV s1.From, iV s1.To], .pointer (some ⟨b7, 0, none⟩), iV 0, iV vt15, iV (s1.Wave.length : Int), .pointer (some ⟨b7, 1, none⟩), .agg #[iV s1.At.X, iV s1.At.Y, iV s1.At.Z], iV vt15, iV vt15, .bool false, uV, .pointer (some ⟨b7, 5, none⟩), .slice A2 s1.Wave.length c3, iV (s1.Wave.length : Int), .bool false, iV (s1.Wave.length : Int), .bool false, .bool false, iV (s1.Wave.length : Int), .bool true, .bool true, .pointer (some ⟨b7, 6, none⟩), iV s1.Period, .bool false, .bool false, .bool false, iV (s1.Wave.length : Int), .bool true, .bool true, .pointer (some ⟨b7, 6, none⟩), iV s1.Period, .bool false, .bool false, .pointer (some ⟨b7, 6, none⟩), iV s1.Period, .bool false, .bool false, .bool false, .pointer (some ⟨b7, 6, none⟩), iV s1.Period, iV (s1.Wave.length : Int), iV (Int.tmod s1.Period (s1.Wave.length : Int)), .bool false, .bool false, .bool false, .bool false, .pointer (some ⟨b7, 5, none⟩), .slice A2 s1.Wave.length c3, .func (.func 67) #[] #[.pointer (some ⟨b7, 0, none⟩)], .bool false, .bool false, .pointer (some ⟨b7, 7, none⟩), iV s1.From, .pointer (some ⟨b7, 8, none⟩), iV s1.To, iV (mn s1.From s1.To), .bool false, .bool false, .pointer (some ⟨b7, 7, none⟩), iV s1.From, .pointer (some ⟨b7, 8, none⟩), iV s1.To, iV (mx s1.From s1.To), .bool false, .bool false, .bool false, .pointer (some ⟨b7, 7, none⟩), iV s1.From, .pointer (some ⟨b7, 8, none⟩), iV s1.To, .bool false], []⟩) (by kernel_rfl) ?_
                          refine wpList_nil ?_
                          refine hK188 _ _ ?_
                          refine wp_ret ?_
                          refine hret _ _ ?_
                          refine ends_still (v := Value.int .i64 0) (by kernel_rfl) (by kernel_rfl) ?_
                          have HS220 := HS72.drop
                          injection h with h
                          subst h
                          exact ⟨f69, rfl, (L18.trans L70), HS220⟩
          · have c53 : ¬ ((s1.Wave.length : Int) > 0) := c53
            refine seqRwI 27 (x := (decide ((s1.Wave.length : Int) > 0))) (v := false) (by kernel_rfl) (decide_eq_false c53) ?_
            refine seqRwI 28 (x := (decide ((s1.Wave.length : Int) > 0))) (v := false) (by kernel_rfl) (decide_eq_false c53) ?_
            refine seqS17 (a' := ⟨#[.agg #[iV s1.ID, iV s1.At.X, iV s1.At.Y, iV s1.At.Z, iV s1.Rate, .slice A2 s1.Wave.length c3, iV s1.Period, iV s1.From, iV s1.To], .pointer (some ⟨b7, 0, none⟩), iV 0, iV vt15, iV (s1.Wave.length : Int), .pointer (some ⟨b7, 1, none⟩), .agg #[iV s1.At.X, iV s1.At.Y, iV s1.At.Z], iV vt15, iV vt15, .bool false, uV, .pointer (some ⟨b7, 5, none⟩), .slice A2 s1.Wave.length c3, iV (s1.Wave.length : Int), .bool false, iV (s1.Wave.length : Int), .bool false, .bool false, iV (s1.Wave.length : Int), .bool true, .bool true, .pointer (some ⟨b7, 6, none⟩), iV s1.Period, .bool false, .bool false, .bool false, iV (s1.Wave.length : Int), .bool false, .bool false, uV, uV, uV, uV, uV, uV, uV, uV, uV, uV, uV, uV, uV, uV, uV, .bool false, uV, uV, uV, uV, uV, uV, uV, uV, uV, uV, uV, uV, uV, uV, uV, uV, uV, uV, uV, uV, uV, uV, uV, uV, uV, uV], []⟩) (by kernel_rfl) ?_
            refine wpList_nil ?_
            refine hK52 _ _ ?_
            refine condF (by kernel_rfl) ?_
            refine wp_seq_k (fun K92 hK93 => ?_)
            refine wp_region_lit ?_
            refine seqL1 (by kernel_rfl) ?_
            refine seqK rfl (does_run (run_load rfl Try.underlying60 rfl (by kernel_rfl : _ = Value.pointer (some ⟨b7, 5, none⟩)) (HS20.cell 5)) ?_)
            have hq_ := bind_some h; clear h; obtain ⟨vt94, hc95, h⟩ := hq_
            refine seqL1 (by kernel_rfl) ?_
            refine seqK rfl (does_call (f := 66) (args := #[.slice A2 s1.Wave.length c3, .func (.func 67) #[] #[.pointer (some ⟨b7, 0, none⟩)]]) (by kernel_rfl) (slices_ContainsFunc_Quanta__sky_star_1.calls k b7 A2 c3 A2 c3 s1 s1.Wave HS20 (HR4.mono L18) (HR4.mono L18) vt94 hc95) ?_)
            rintro _ W98 ⟨f96, rfl, L97, HS99⟩
            refine ⟨_, rfl, ?_⟩
            refine seqS1 (a' := ⟨#[.agg #[iV s1.ID, iV s1.At.X, iV s1.At.Y, iV s1.At.Z, iV s1.Rate, .slice A2 s1.Wave.length c3, iV s1.Period, iV s1.From, iV s1.To], .pointer (some ⟨b7, 0, none⟩), iV 0, iV vt15, iV (s1.Wave.length : Int), .pointer (some ⟨b7, 1, none⟩), .agg #[iV s1.At.X, iV s1.At.Y, iV s1.At.Z], iV vt15, iV vt15, .bool false, uV, .pointer (some ⟨b7, 5, none⟩), .slice A2 s1.Wave.length c3, iV (s1.Wave.length : Int), .bool false, iV (s1.Wave.length : Int), .bool false, .bool false, iV (s1.Wave.length : Int), .bool true, .bool true, .pointer (some ⟨b7, 6, none⟩), iV s1.Period, .bool false, .bool false, .bool false, iV (s1.Wave.length : Int), .bool false, .bool false, uV, uV, uV, uV, uV, uV, uV, uV, uV, uV, uV, uV, uV, uV, uV, .bool false, .bool vt94, .pointer (some ⟨b7, 5, none⟩), .slice A2 s1.Wave.length c3, .func (.func 67) #[] #[.pointer (some ⟨b7, 0, none⟩)], .bool vt94, uV, uV, uV, uV, uV, uV, uV, uV, uV, uV, uV, uV, uV, uV, uV, uV, uV, uV, uV, uV, uV], []⟩) (by kernel_rfl) ?_
            refine wpList_nil ?_
            refine hK93 _ _ ?_
            have hq_ := ite_some h; clear h; rcases hq_ with ⟨c101, h⟩ | ⟨c101, h⟩
            · have c101 : vt94 = true := c101
              refine wpRwI 45 (x := vt94) (v := true) (by kernel_rfl) c101 ?_
              refine wpRwI 49 (x := vt94) (v := true) (by kernel_rfl) c101 ?_
              refine condT (by kernel_rfl) ?_
              refine wp_seq_k (fun K102 hK103 => ?_)
              refine wp_region_lit ?_
              refine seqS1 (a' := ⟨#[.agg #[iV s1.ID, iV s1.At.X, iV s1.At.Y, iV s1.At.Z, iV s1.Rate, .slice A2 s1.Wave.length c3, iV s1.Period, iV s1.From, iV s1.To], .pointer (some ⟨b7, 0, none⟩), iV 4, iV vt15, iV (s1.Wave.length : Int), .pointer (some ⟨b7, 1, none⟩), .agg #[iV s1.At.X, iV s1.At.Y, iV s1.At.Z], iV vt15, iV vt15, .bool false, uV, .pointer (some ⟨b7, 5, none⟩), .slice A2 s1.Wave.length c3, iV (s1.Wave.length : Int), .bool false, iV (s1.Wave.length : Int), .bool false, .bool false, iV (s1.Wave.length : Int), .bool true, .bool true, .pointer (some ⟨b7, 6, none⟩), iV s1.Period, .bool false, .bool false, .bool false, iV (s1.Wave.length : Int), .bool false, .bool false, uV, uV, uV, uV, uV, uV, uV, uV, uV, uV, uV, uV, uV, uV, uV, .bool false, .bool true, .pointer (some ⟨b7, 5, none⟩), .slice A2 s1.Wave.length c3, .func (.func 67) #[] #[.pointer (some ⟨b7, 0, none⟩)], .bool true, uV, uV, uV, uV, uV, uV, uV, uV, uV, uV, uV, uV, uV, uV, uV, uV, uV, uV, uV, uV, uV], []⟩) (by kernel_rfl) ?_
              refine wpList_nil ?_
              refine hK103 _ _ ?_
              refine wp_ret ?_
              refine hr34 _ _ ?_
              refine hret _ _ ?_
              refine ends_still (v := Value.int .i64 4) (by kernel_rfl) (by kernel_rfl) ?_
              have HS205 := HS99.drop
              injection h with h
              subst h
              exact ⟨f96, rfl, (L18.trans L97), HS205⟩
            · have c101 : ¬ (vt94 = true) := c101
              refine wpRwI 45 (x := vt94) (v := false) (by kernel_rfl) (Bool.eq_false_iff.mpr c101) ?_
              refine wpRwI 49 (x := vt94) (v := false) (by kernel_rfl) (Bool.eq_false_iff.mpr c101) ?_
              refine condF (by kernel_rfl) ?_
              refine wp_seq_k (fun K104 hK105 => ?_)
              refine wp_region_lit ?_
              refine seqL1 (by kernel_rfl) ?_
              refine seqK rfl (does_run (run_load rfl Try.underlying46 rfl (by kernel_rfl : _ = Value.pointer (some ⟨b7, 7, none⟩)) (HS99.cell 7)) ?_)
              refine seqL1 (by kernel_rfl) ?_
              refine seqK rfl (does_run (run_load rfl Try.underlying46 rfl (by kernel_rfl : _ = Value.pointer (some ⟨b7, 8, none⟩)) (HS99.cell 8)) ?_)
              refine seqS3 (a' := ⟨#[.agg #[iV s1.ID, iV s1.At.X, iV s1.At.Y, iV s1.At.Z, iV s1.Rate, .slice A2 s1.Wave.length c3, iV s1.Period, iV s1.From, iV s1.To], .pointer (some ⟨b7, 0, none⟩), iV 0, iV vt15, iV (s1.Wave.length : Int), .pointer (some ⟨b7, 1, none⟩), .agg #[iV s1.At.X, iV s1.At.Y, iV s1.At.Z], iV vt15, iV vt15, .bool false, uV, .pointer (some ⟨b7, 5, none⟩), .slice A2 s1.Wave.length c3, iV (s1.Wave.length : Int), .bool false, iV (s1.Wave.length : Int), .bool false, .bool false, iV (s1.Wave.length : Int), .bool true, .bool true, .pointer (some ⟨b7, 6, none⟩), iV s1.Period, .bool false, .bool false, .bool false, iV (s1.Wave.length : Int), .bool false, .bool false, uV, uV, uV, uV, uV, uV, uV, uV, uV, uV, uV, uV, uV, uV, uV, .bool false, .bool false, .pointer (some ⟨b7, 5, none⟩), .slice A2 s1.Wave.length c3, .func (.func 67) #[] #[.pointer (some ⟨b7, 0, none⟩)], .bool false, uV, .pointer (some ⟨b7, 7, none⟩), iV s1.From, .pointer (some ⟨b7, 8, none⟩), iV s1.To, iV (mn s1.From s1.To), .bool (decide ((mn s1.From s1.To) < (-17592186044416))), .bool (decide ((mn s1.From s1.To) < (-17592186044416))), uV, uV, uV, uV, uV, uV, uV, uV, uV, uV, uV, uV, uV], []⟩) (by kernel_rfl) ?_
              have hq_ := ite_some h; clear h; rcases hq_ with ⟨c106, h⟩ | ⟨c106, h⟩
              · have c106 : (mn s1.From s1.To) < (-17592186044416) := c106
                refine seqRwI 56 (x := (decide ((mn s1.From s1.To) < (-17592186044416)))) (v := true) (by kernel_rfl) (decide_eq_true c106) ?_
                refine seqRwI 57 (x := (decide ((mn s1.From s1.To) < (-17592186044416)))) (v := true) (by kernel_rfl) (decide_eq_true c106) ?_
                refine seqS8 (a' := ⟨#[.agg #[iV s1.ID, iV s1.At.X, iV s1.At.Y, iV s1.At.Z, iV s1.Rate, .slice A2 s1.Wave.length c3, iV s1.Period, iV s1.From, iV s1.To], .pointer (some ⟨b7, 0, none⟩), iV 0, iV vt15, iV (s1.Wave.length : Int), .pointer (some ⟨b7, 1, none⟩), .agg #[iV s1.At.X, iV s1.At.Y, iV s1.At.Z], iV vt15, iV vt15, .bool false, uV, .pointer (some ⟨b7, 5, none⟩), .slice A2 s1.Wave.length c3, iV (s1.Wave.length : Int), .bool false, iV (s1.Wave.length : Int), .bool false, .bool false, iV (s1.Wave.length : Int), .bool true, .bool true, .pointer (some ⟨b7, 6, none⟩), iV s1.Period, .bool false, .bool false, .bool false, iV (s1.Wave.length : Int), .bool false, .bool false, uV, uV, uV, uV, uV, uV, uV, uV, uV, uV, uV, uV, uV, uV, uV, .bool false, .bool false, .pointer (some ⟨b7, 5, none⟩), .slice A2 s1.Wave.length c3, .func (.func 67) #[] #[.pointer (some ⟨b7, 0, none⟩)], .bool false, .bool true, .pointer (some ⟨b7, 7, none⟩), iV s1.From, .pointer (some ⟨b7, 8, none⟩), iV s1.To, iV (mn s1.From s1.To), .bool true, .bool true, uV, uV, uV, uV, uV, uV, .bool true, uV, uV, uV, uV, uV, uV], []⟩) (by kernel_rfl) ?_
                refine wpList_nil ?_
                refine hK105 _ _ ?_
                refine condT (by kernel_rfl) ?_
                refine wp_seq_k (fun K107 hK108 => ?_)
                refine wp_region_lit ?_
                refine seqS1 (a' := ⟨#[.agg #[iV s1.ID, iV s1.At.X, iV s1.At.Y, iV s1.At.Z, iV s1.Rate, .slice A2 s1.Wave.length c3, iV s1.Period, iV s1.From, iV s1.To], .pointer (some ⟨b7, 0, none⟩), iV 4, iV vt15, iV (s1.Wave.length : Int), .pointer (some ⟨b7, 1, none⟩), .agg #[iV s1.At.X, iV s1.At.Y, iV s1.At.Z], iV vt15, iV vt15, .bool false, uV, .pointer (some ⟨b7, 5, none⟩), .slice A2 s1.Wave.length c3, iV (s1.Wave.length : Int), .bool false, iV (s1.Wave.length : Int), .bool false, .bool false, iV (s1.Wave.length : Int), .bool true, .bool true, .pointer (some ⟨b7, 6, none⟩), iV s1.Period, .bool false, .bool false, .bool false, iV (s1.Wave.length : Int), .bool false, .bool false, uV, uV, uV, uV, uV, uV, uV, uV, uV, uV, uV, uV, uV, uV, uV, .bool false, .bool false, .pointer (some ⟨b7, 5, none⟩), .slice A2 s1.Wave.length c3, .func (.func 67) #[] #[.pointer (some ⟨b7, 0, none⟩)], .bool false, .bool true, .pointer (some ⟨b7, 7, none⟩), iV s1.From, .pointer (some ⟨b7, 8, none⟩), iV s1.To, iV (mn s1.From s1.To), .bool true, .bool true, uV, uV, uV, uV, uV, uV, .bool true, uV, uV, uV, uV, uV, uV], []⟩) (by kernel_rfl) ?_
                refine wpList_nil ?_
                refine hK108 _ _ ?_
                refine wp_ret ?_
                refine hr34 _ _ ?_
                refine hret _ _ ?_
                refine ends_still (v := Value.int .i64 4) (by kernel_rfl) (by kernel_rfl) ?_
                have HS206 := HS99.drop
                injection h with h
                subst h
                exact ⟨f96, rfl, (L18.trans L97), HS206⟩
              · have c106 : ¬ ((mn s1.From s1.To) < (-17592186044416)) := c106
                refine seqRwI 56 (x := (decide ((mn s1.From s1.To) < (-17592186044416)))) (v := false) (by kernel_rfl) (decide_eq_false c106) ?_
                refine seqRwI 57 (x := (decide ((mn s1.From s1.To) < (-17592186044416)))) (v := false) (by kernel_rfl) (decide_eq_false c106) ?_
                refine seqL1 (by kernel_rfl) ?_
                refine seqG (by kernel_rfl) (does_run (run_load rfl Try.underlying46 rfl (by kernel_rfl : _ = Value.pointer (some ⟨b7, 7, none⟩)) (HS99.cell 7)) ?_)
                refine seqL1 (by kernel_rfl) ?_
                refine seqG (by kernel_rfl) (does_run (run_load rfl Try.underlying46 rfl (by kernel_rfl : _ = Value.pointer (some ⟨b7, 8, none⟩)) (HS99.cell 8)) ?_)
                refine seqS4 (a' := ⟨#[.agg #[iV s1.ID, iV s1.At.X, iV s1.At.Y, iV s1.At.Z, iV s1.Rate, .slice A2 s1.Wave.length c3, iV s1.Period, iV s1.From, iV s1.To], .pointer (some ⟨b7, 0, none⟩), iV 0, iV vt15, iV (s1.Wave.length : Int), .pointer (some ⟨b7, 1, none⟩), .agg #[iV s1.At.X, iV s1.At.Y, iV s1.At.Z], iV vt15, iV vt15, .bool false, uV, .pointer (some ⟨b7, 5, none⟩), .slice A2 s1.Wave.length c3, iV (s1.Wave.length : Int), .bool false, iV (s1.Wave.length : Int), .bool false, .bool false, iV (s1.Wave.length : Int), .bool true, .bool true, .pointer (some ⟨b7, 6, none⟩), iV s1.Period, .bool false, .bool false, .bool false, iV (s1.Wave.length : Int), .bool false, .bool false, uV, uV, uV, uV, uV, uV, uV, uV, uV, uV, uV, uV, uV, uV, uV, .bool false, .bool false, .pointer (some ⟨b7, 5, none⟩), .slice A2 s1.Wave.length c3, .func (.func 67) #[] #[.pointer (some ⟨b7, 0, none⟩)], .bool false, .bool (decide ((mx s1.From s1.To) > 17592186044416)), .pointer (some ⟨b7, 7, none⟩), iV s1.From, .pointer (some ⟨b7, 8, none⟩), iV s1.To, iV (mn s1.From s1.To), .bool false, .bool false, .pointer (some ⟨b7, 7, none⟩), iV s1.From, .pointer (some ⟨b7, 8, none⟩), iV s1.To, iV (mx s1.From s1.To), .bool (decide ((mx s1.From s1.To) > 17592186044416)), .bool (decide ((mx s1.From s1.To) > 17592186044416)), uV, uV, uV, uV, uV, uV], []⟩) (by kernel_rfl) ?_
                refine wpList_nil ?_
                refine hK105 _ _ ?_
                have hq_ := ite_some h; clear h; rcases hq_ with ⟨c110, h⟩ | ⟨c110, h⟩
                · have c110 : (mx s1.From s1.To) > 17592186044416 := c110
                  refine wpRwI 50 (x := (decide ((mx s1.From s1.To) > 17592186044416))) (v := true) (by kernel_rfl) (decide_eq_true c110) ?_
                  refine wpRwI 63 (x := (decide ((mx s1.From s1.To) > 17592186044416))) (v := true) (by kernel_rfl) (decide_eq_true c110) ?_
                  refine wpRwI 64 (x := (decide ((mx s1.From s1.To) > 17592186044416))) (v := true) (by kernel_rfl) (decide_eq_true c110) ?_
                  refine condT (by kernel_rfl) ?_
                  refine wp_seq_k (fun K111 hK112 => ?_)
                  refine wp_region_lit ?_
                  refine seqS1 (a' := ⟨#[.agg #[iV s1.ID, iV s1.At.X, iV s1.At.Y, iV s1.At.Z, iV s1.Rate, .slice A2 s1.Wave.length c3, iV s1.Period, iV s1.From, iV s1.To], .pointer (some ⟨b7, 0, none⟩), iV 4, iV vt15, iV (s1.Wave.length : Int), .pointer (some ⟨b7, 1, none⟩), .agg #[iV s1.At.X, iV s1.At.Y, iV s1.At.Z], iV vt15, iV vt15, .bool false, uV, .pointer (some ⟨b7, 5, none⟩), .slice A2 s1.Wave.length c3, iV (s1.Wave.length : Int), .bool false, iV (s1.Wave.length : Int), .bool false, .bool false, iV (s1.Wave.length : Int), .bool true, .bool true, .pointer (some ⟨b7, 6, none⟩), iV s1.Period, .bool false, .bool false, .bool false, iV (s1.Wave.length : Int), .bool false, .bool false, uV, uV, uV, uV, uV, uV, uV, uV, uV, uV, uV, uV, uV, uV, uV, .bool false, .bool false, .pointer (some ⟨b7, 5, none⟩), .slice A2 s1.Wave.length c3, .func (.func 67) #[] #[.pointer (some ⟨b7, 0, none⟩)], .bool false, .bool true, .pointer (some ⟨b7, 7, none⟩), iV s1.From, .pointer (some ⟨b7, 8, none⟩), iV s1.To, iV (mn s1.From s1.To), .bool false, .bool false, .pointer (some ⟨b7, 7, none⟩), iV s1.From, .pointer (some ⟨b7, 8, none⟩), iV s1.To, iV (mx s1.From s1.To), .bool true, .bool true, uV, uV, uV, uV, uV, uV], []⟩) (by kernel_rfl) ?_
                  refine wpList_nil ?_
                  refine hK112 _ _ ?_
                  refine wp_ret ?_
                  refine hr34 _ _ ?_
                  refine hret _ _ ?_
                  refine ends_still (v := Value.int .i64 4) (by kernel_rfl) (by kernel_rfl) ?_
                  have HS207 := HS99.drop
                  injection h with h
                  subst h
                  exact ⟨f96, rfl, (L18.trans L97), HS207⟩
                · have c110 : ¬ ((mx s1.From s1.To) > 17592186044416) := c110
                  refine wpRwI 50 (x := (decide ((mx s1.From s1.To) > 17592186044416))) (v := false) (by kernel_rfl) (decide_eq_false c110) ?_
                  refine wpRwI 63 (x := (decide ((mx s1.From s1.To) > 17592186044416))) (v := false) (by kernel_rfl) (decide_eq_false c110) ?_
                  refine wpRwI 64 (x := (decide ((mx s1.From s1.To) > 17592186044416))) (v := false) (by kernel_rfl) (decide_eq_false c110) ?_
                  refine condF (by kernel_rfl) ?_
                  refine wp_seq_k (fun K113 hK114 => ?_)
                  refine wp_region_lit ?_
                  refine seqL1 (by kernel_rfl) ?_
                  refine seqK rfl (does_run (run_load rfl Try.underlying46 rfl (by kernel_rfl : _ = Value.pointer (some ⟨b7, 7, none⟩)) (HS99.cell 7)) ?_)
                  refine seqL1 (by kernel_rfl) ?_
                  refine seqK rfl (does_run (run_load rfl Try.underlying46 rfl (by kernel_rfl : _ = Value.pointer (some ⟨b7, 8, none⟩)) (HS99.cell 8)) ?_)
                  refine seqS2 (a' := ⟨#[.agg #[iV s1.ID, iV s1.At.X, iV s1.At.Y, iV s1.At.Z, iV s1.Rate, .slice A2 s1.Wave.length c3, iV s1.Period, iV s1.From, iV s1.To], .pointer (some ⟨b7, 0, none⟩), iV 0, iV vt15, iV (s1.Wave.length : Int), .pointer (some ⟨b7, 1, none⟩), .agg #[iV s1.At.X, iV s1.At.Y, iV s1.At.Z], iV vt15, iV vt15, .bool false, uV, .pointer (some ⟨b7, 5, none⟩), .slice A2 s1.Wave.length c3, iV (s1.Wave.length : Int), .bool false, iV (s1.Wave.length : Int), .bool false, .bool false, iV (s1.Wave.length : Int), .bool true, .bool true, .pointer (some ⟨b7, 6, none⟩), iV s1.Period, .bool false, .bool false, .bool false, iV (s1.Wave.length : Int), .bool false, .bool false, uV, uV, uV, uV, uV, uV, uV, uV, uV, uV, uV, uV, uV, uV, uV, .bool false, .bool false, .pointer (some ⟨b7, 5, none⟩), .slice A2 s1.Wave.length c3, .func (.func 67) #[] #[.pointer (some ⟨b7, 0, none⟩)], .bool false, .bool false, .pointer (some ⟨b7, 7, none⟩), iV s1.From, .pointer (some ⟨b7, 8, none⟩), iV s1.To, iV (mn s1.From s1.To), .bool false, .bool false, .pointer (some ⟨b7, 7, none⟩), iV s1.From, .pointer (some ⟨b7, 8, none⟩), iV s1.To, iV (mx s1.From s1.To), .bool false, .bool false, .bool (decide (s1.From > s1.To)), .pointer (some ⟨b7, 7, none⟩), iV s1.From, .pointer (some ⟨b7, 8, none⟩), iV s1.To, .bool (decide (s1.From > s1.To))], []⟩) (by kernel_rfl) ?_
                  refine wpList_nil ?_
                  refine hK114 _ _ ?_
                  have hq_ := ite_some h; clear h; rcases hq_ with ⟨c116, h⟩ | ⟨c116, h⟩
                  · have c116 : s1.From > s1.To := c116
                    refine wpRwI 65 (x := (decide (s1.From > s1.To))) (v := true) (by kernel_rfl) (decide_eq_true c116) ?_
                    refine wpRwI 70 (x := (decide (s1.From > s1.To))) (v := true) (by kernel_rfl) (decide_eq_true c116) ?_
                    refine condT (by kernel_rfl) ?_
                    refine wp_seq_k (fun K117 hK118 => ?_)
                    refine wp_region_lit ?_
                    refine seqS1 (a' := ⟨#[.agg #[iV s1.ID, iV s1.At.X, iV s1.At.Y, iV s1.At.Z, iV s1.Rate, .slice A2 s1.Wave.length c3, iV s1.Period, iV s1.From, iV s1.To], .pointer (some ⟨b7, 0, none⟩), iV 11, iV vt15, iV (s1.Wave.length : Int), .pointer (some ⟨b7, 1, none⟩), .agg #[iV s1.At.X, iV s1.At.Y, iV s1.At.Z], iV vt15, iV vt15, .bool false, uV, .pointer (some ⟨b7, 5, none⟩), .slice A2 s1.Wave.length c3, iV (s1.Wave.length : Int), .bool false, iV (s1.Wave.length : Int), .bool false, .bool false, iV (s1.Wave.length : Int), .bool true, .bool true, .pointer (some ⟨b7, 6, none⟩), iV s1.Period, .bool false, .bool false, .bool false, iV (s1.Wave.length : Int), .bool false, .bool false, uV, uV, uV, uV, uV, uV, uV, uV, uV, uV, uV, uV, uV, uV, uV, .bool false, .bool false, .pointer (some ⟨b7, 5, none⟩), .slice A2 s1.Wave.length c3, .func (.func 67) #[] #[.pointer (some ⟨b7, 0, none⟩)], .bool false, .bool false, .pointer (some ⟨b7, 7, none⟩), iV s1.From, .pointer (some ⟨b7, 8, none⟩), iV s1.To, iV (mn s1.From s1.To), .bool false, .bool false, .pointer (some ⟨b7, 7, none⟩), iV s1.From, .pointer (some ⟨b7, 8, none⟩), iV s1.To, iV (mx s1.From s1.To), .bool false, .bool false, .bool true, .pointer (some ⟨b7, 7, none⟩), iV s1.From, .pointer (some ⟨b7, 8, none⟩), iV s1.To, .bool true], []⟩) (by kernel_rfl) ?_
                    refine wpList_nil ?_
                    refine hK118 _ _ ?_
                    refine wp_ret ?_
                    refine hr34 _ _ ?_
                    refine hret _ _ ?_
                    refine ends_still (v := Value.int .i64 11) (by kernel_rfl) (by kernel_rfl) ?_
                    have HS208 := HS99.drop
                    injection h with h
                    subst h
                    exact ⟨f96, rfl, (L18.trans L97), HS208⟩
                  · have c116 : ¬ (s1.From > s1.To) := c116
                    refine wpRwI 65 (x := (decide (s1.From > s1.To))) (v := false) (by kernel_rfl) (decide_eq_false c116) ?_
                    refine wpRwI 70 (x := (decide (s1.From > s1.To))) (v := false) (by kernel_rfl) (decide_eq_false c116) ?_
                    refine condF (by kernel_rfl) ?_
                    refine wp_skip ?_
                    refine hn33 _ _ ?_
                    refine hK30 _ _ ?_
                    refine wp_seq_k (fun K189 hK190 => ?_)
                    refine wp_region_lit ?_
                    refine seqS1 (a' := ⟨#[.agg #[iV s1.ID, iV s1.At.X, iV s1.At.Y, iV s1.At.Z, iV s1.Rate, .slice A2 s1.Wave.length c3, iV s1.Period, iV s1.From, iV s1.To], .pointer (some ⟨b7, 0, none⟩), iV 0, iV vt15, iV (s1.Wave.length : Int), .pointer (some ⟨b7, 1, none⟩), .agg #[iV s1.At.X, iV s1.At.Y, iV s1.At.Z], iV vt15, iV vt15, .bool false, uV, .pointer (some ⟨b7, 5, none⟩), .slice A2 s1.Wave.length c3, iV (s1.Wave.length : Int), .bool false, iV (s1.Wave.length : Int), .bool false, .bool false, iV (s1.Wave.length : Int), .bool true, .bool true, .pointer (some ⟨b7, 6, none⟩), iV s1.Period, .bool false, .bool false, .bool false, iV (s1.Wave.length : Int), .bool false, .bool false, uV, uV, uV, uV, uV, uV, uV, uV, uV, uV, uV, uV, uV, uV, uV, .bool false, .bool false, .pointer (some ⟨b7, 5, none⟩), .slice A2 s1.Wave.length c3, .func (.func 67) #[] #[.pointer (some ⟨b7, 0, none⟩)], .bool false, .bool false, .pointer (some ⟨b7, 7, none⟩), iV s1.From, .pointer (some ⟨b7, 8, none⟩), iV s1.To, iV (mn s1.From s1.To), .bool false, .bool false, .pointer (some ⟨b7, 7, none⟩), iV s1.From, .pointer (some ⟨b7, 8, none⟩), iV s1.To, iV (mx s1.From s1.To), .bool false, .bool false, .bool false, .pointer (some ⟨b7, 7, none⟩), iV s1.From, .pointer (some ⟨b7, 8, none⟩), iV s1.To, .bool false], []⟩) (by kernel_rfl) ?_
                    refine wpList_nil ?_
                    refine hK190 _ _ ?_
                    refine wp_ret ?_
                    refine hret _ _ ?_
                    refine ends_still (v := Value.int .i64 0) (by kernel_rfl) (by kernel_rfl) ?_
                    have HS221 := HS99.drop
                    injection h with h
                    subst h
                    exact ⟨f96, rfl, (L18.trans L97), HS221⟩
      · have c46 : ¬ ((s1.Wave.length : Int) = 0) := c46
        refine seqRwI 19 (x := ((s1.Wave.length : Int) == 0)) (v := false) (by kernel_rfl) (beq_eq_false_iff_ne.mpr c46) ?_
        refine seqRwI 20 (x := ((s1.Wave.length : Int) == 0)) (v := false) (by kernel_rfl) (beq_eq_false_iff_ne.mpr c46) ?_
        refine seqS5 (a' := ⟨#[.agg #[iV s1.ID, iV s1.At.X, iV s1.At.Y, iV s1.At.Z, iV s1.Rate, .slice A2 s1.Wave.length c3, iV s1.Period, iV s1.From, iV s1.To], .pointer (some ⟨b7, 0, none⟩), iV 0, iV vt15, iV (s1.Wave.length : Int), .pointer (some ⟨b7, 1, none⟩), .agg #[iV s1.At.X, iV s1.At.Y, iV s1.At.Z], iV vt15, iV vt15, .bool false, uV, .pointer (some ⟨b7, 5, none⟩), .slice A2 s1.Wave.length c3, iV (s1.Wave.length : Int), .bool false, iV (s1.Wave.length : Int), .bool false, .bool false, iV (s1.Wave.length : Int), .bool false, .bool false, uV, uV, uV, .bool false, uV, uV, uV, uV, uV, uV, uV, uV, uV, uV, uV, uV, uV, uV, uV, uV, uV, uV, uV, uV, uV, uV, uV, uV, uV, uV, uV, uV, uV, uV, uV, uV, uV, uV, uV, uV, uV, uV, uV, uV, uV, uV, uV, uV, uV, uV], []⟩) (by kernel_rfl) ?_
        refine wpList_nil ?_
        refine hK45 _ _ ?_
        refine condF (by kernel_rfl) ?_
        refine wp_seq_k (fun K119 hK120 => ?_)
        refine wp_region_lit ?_
        refine seqS3 (a' := ⟨#[.agg #[iV s1.ID, iV s1.At.X, iV s1.At.Y, iV s1.At.Z, iV s1.Rate, .slice A2 s1.Wave.length c3, iV s1.Period, iV s1.From, iV s1.To], .pointer (some ⟨b7, 0, none⟩), iV 0, iV vt15, iV (s1.Wave.length : Int), .pointer (some ⟨b7, 1, none⟩), .agg #[iV s1.At.X, iV s1.At.Y, iV s1.At.Z], iV vt15, iV vt15, .bool false, uV, .pointer (some ⟨b7, 5, none⟩), .slice A2 s1.Wave.length c3, iV (s1.Wave.length : Int), .bool false, iV (s1.Wave.length : Int), .bool false, .bool false, iV (s1.Wave.length : Int), .bool false, .bool false, uV, uV, uV, .bool false, uV, iV (s1.Wave.length : Int), .bool (decide ((s1.Wave.length : Int) > 0)), .bool (decide ((s1.Wave.length : Int) > 0)), uV, uV, uV, uV, uV, uV, uV, uV, uV, uV, uV, uV, uV, uV, uV, uV, uV, uV, uV, uV, uV, uV, uV, uV, uV, uV, uV, uV, uV, uV, uV, uV, uV, uV, uV, uV, uV, uV, uV, uV, uV, uV], []⟩) (by kernel_rfl) ?_
        have hq_ := ite_some h; clear h; rcases hq_ with ⟨c121, h⟩ | ⟨c121, h⟩
        · have c121 : (s1.Wave.length : Int) > 0 := c121
          refine seqRwI 27 (x := (decide ((s1.Wave.length : Int) > 0))) (v := true) (by kernel_rfl) (decide_eq_true c121) ?_
          refine seqRwI 28 (x := (decide ((s1.Wave.length : Int) > 0))) (v := true) (by kernel_rfl) (decide_eq_true c121) ?_
          refine seqL1 (by kernel_rfl) ?_
          refine seqG (by kernel_rfl) (does_run (run_load rfl Try.underlying46 rfl (by kernel_rfl : _ = Value.pointer (some ⟨b7, 6, none⟩)) (HS20.cell 6)) ?_)
          refine seqS2 (a' := ⟨#[.agg #[iV s1.ID, iV s1.At.X, iV s1.At.Y, iV s1.At.Z, iV s1.Rate, .slice A2 s1.Wave.length c3, iV s1.Period, iV s1.From, iV s1.To], .pointer (some ⟨b7, 0, none⟩), iV 0, iV vt15, iV (s1.Wave.length : Int), .pointer (some ⟨b7, 1, none⟩), .agg #[iV s1.At.X, iV s1.At.Y, iV s1.At.Z], iV vt15, iV vt15, .bool false, uV, .pointer (some ⟨b7, 5, none⟩), .slice A2 s1.Wave.length c3, iV (s1.Wave.length : Int), .bool false, iV (s1.Wave.length : Int), .bool false, .bool false, iV (s1.Wave.length : Int), .bool false, .bool false, uV, uV, uV, .bool false, uV, iV (s1.Wave.length : Int), .bool true, .bool true, .pointer (some ⟨b7, 6, none⟩), iV s1.Period, .bool (decide (s1.Period < 1)), .bool (decide (s1.Period < 1)), uV, uV, uV, uV, uV, uV, uV, uV, uV, uV, uV, uV, uV, uV, uV, uV, uV, uV, uV, uV, uV, uV, uV, uV, uV, uV, uV, uV, uV, uV, uV, uV, uV, uV, uV, uV, uV, uV], []⟩) (by kernel_rfl) ?_
          have hq_ := ite_some h; clear h; rcases hq_ with ⟨c122, h⟩ | ⟨c122, h⟩
          · have c122 : s1.Period < 1 := c122
            refine seqRwI 31 (x := (decide (s1.Period < 1))) (v := true) (by kernel_rfl) (decide_eq_true c122) ?_
            refine seqRwI 32 (x := (decide (s1.Period < 1))) (v := true) (by kernel_rfl) (decide_eq_true c122) ?_
            refine seqS13 (a' := ⟨#[.agg #[iV s1.ID, iV s1.At.X, iV s1.At.Y, iV s1.At.Z, iV s1.Rate, .slice A2 s1.Wave.length c3, iV s1.Period, iV s1.From, iV s1.To], .pointer (some ⟨b7, 0, none⟩), iV 0, iV vt15, iV (s1.Wave.length : Int), .pointer (some ⟨b7, 1, none⟩), .agg #[iV s1.At.X, iV s1.At.Y, iV s1.At.Z], iV vt15, iV vt15, .bool false, uV, .pointer (some ⟨b7, 5, none⟩), .slice A2 s1.Wave.length c3, iV (s1.Wave.length : Int), .bool false, iV (s1.Wave.length : Int), .bool false, .bool false, iV (s1.Wave.length : Int), .bool false, .bool false, uV, uV, uV, .bool false, .bool true, iV (s1.Wave.length : Int), .bool true, .bool true, .pointer (some ⟨b7, 6, none⟩), iV s1.Period, .bool true, .bool true, uV, uV, uV, .bool true, .bool true, uV, uV, uV, uV, uV, .bool true, .bool true, uV, uV, uV, uV, uV, uV, uV, uV, uV, uV, uV, uV, uV, uV, uV, uV, uV, uV, uV, uV, uV, uV, uV, uV, uV, uV], []⟩) (by kernel_rfl) ?_
            refine wpList_nil ?_
            refine hK120 _ _ ?_
            refine condT (by kernel_rfl) ?_
            refine wp_seq_k (fun K123 hK124 => ?_)
            refine wp_region_lit ?_
            refine seqS1 (a' := ⟨#[.agg #[iV s1.ID, iV s1.At.X, iV s1.At.Y, iV s1.At.Z, iV s1.Rate, .slice A2 s1.Wave.length c3, iV s1.Period, iV s1.From, iV s1.To], .pointer (some ⟨b7, 0, none⟩), iV 4, iV vt15, iV (s1.Wave.length : Int), .pointer (some ⟨b7, 1, none⟩), .agg #[iV s1.At.X, iV s1.At.Y, iV s1.At.Z], iV vt15, iV vt15, .bool false, uV, .pointer (some ⟨b7, 5, none⟩), .slice A2 s1.Wave.length c3, iV (s1.Wave.length : Int), .bool false, iV (s1.Wave.length : Int), .bool false, .bool false, iV (s1.Wave.length : Int), .bool false, .bool false, uV, uV, uV, .bool false, .bool true, iV (s1.Wave.length : Int), .bool true, .bool true, .pointer (some ⟨b7, 6, none⟩), iV s1.Period, .bool true, .bool true, uV, uV, uV, .bool true, .bool true, uV, uV, uV, uV, uV, .bool true, .bool true, uV, uV, uV, uV, uV, uV, uV, uV, uV, uV, uV, uV, uV, uV, uV, uV, uV, uV, uV, uV, uV, uV, uV, uV, uV, uV], []⟩) (by kernel_rfl) ?_
            refine wpList_nil ?_
            refine hK124 _ _ ?_
            refine wp_ret ?_
            refine hr34 _ _ ?_
            refine hret _ _ ?_
            refine ends_still (v := Value.int .i64 4) (by kernel_rfl) (by kernel_rfl) ?_
            have HS209 := HS20.drop
            injection h with h
            subst h
            exact ⟨f17, rfl, L18, HS209⟩
          · have c122 : ¬ (s1.Period < 1) := c122
            refine seqRwI 31 (x := (decide (s1.Period < 1))) (v := false) (by kernel_rfl) (decide_eq_false c122) ?_
            refine seqRwI 32 (x := (decide (s1.Period < 1))) (v := false) (by kernel_rfl) (decide_eq_false c122) ?_
            refine seqL1 (by kernel_rfl) ?_
            refine seqG (by kernel_rfl) (does_run (run_load rfl Try.underlying46 rfl (by kernel_rfl : _ = Value.pointer (some ⟨b7, 6, none⟩)) (HS20.cell 6)) ?_)
            refine seqS3 (a' := ⟨#[.agg #[iV s1.ID, iV s1.At.X, iV s1.At.Y, iV s1.At.Z, iV s1.Rate, .slice A2 s1.Wave.length c3, iV s1.Period, iV s1.From, iV s1.To], .pointer (some ⟨b7, 0, none⟩), iV 0, iV vt15, iV (s1.Wave.length : Int), .pointer (some ⟨b7, 1, none⟩), .agg #[iV s1.At.X, iV s1.At.Y, iV s1.At.Z], iV vt15, iV vt15, .bool false, uV, .pointer (some ⟨b7, 5, none⟩), .slice A2 s1.Wave.length c3, iV (s1.Wave.length : Int), .bool false, iV (s1.Wave.length : Int), .bool false, .bool false, iV (s1.Wave.length : Int), .bool false, .bool false, uV, uV, uV, .bool false, uV, iV (s1.Wave.length : Int), .bool true, .bool true, .pointer (some ⟨b7, 6, none⟩), iV s1.Period, .bool false, .bool false, .pointer (some ⟨b7, 6, none⟩), iV s1.Period, .bool (decide (s1.Period > 17592186044416)), .bool (decide (s1.Period > 17592186044416)), .bool (decide (s1.Period > 17592186044416)), uV, uV, uV, uV, uV, uV, uV, uV, uV, uV, uV, uV, uV, uV, uV, uV, uV, uV, uV, uV, uV, uV, uV, uV, uV, uV, uV, uV, uV, uV, uV, uV, uV], []⟩) (by kernel_rfl) ?_
            have hq_ := ite_some h; clear h; rcases hq_ with ⟨c125, h⟩ | ⟨c125, h⟩
            · have c125 : s1.Period > 17592186044416 := c125
              refine seqRwI 35 (x := (decide (s1.Period > 17592186044416))) (v := true) (by kernel_rfl) (decide_eq_true c125) ?_
              refine seqRwI 36 (x := (decide (s1.Period > 17592186044416))) (v := true) (by kernel_rfl) (decide_eq_true c125) ?_
              refine seqRwI 37 (x := (decide (s1.Period > 17592186044416))) (v := true) (by kernel_rfl) (decide_eq_true c125) ?_
              refine seqS8 (a' := ⟨#[.agg #[iV s1.ID, iV s1.At.X, iV s1.At.Y, iV s1.At.Z, iV s1.Rate, .slice A2 s1.Wave.length c3, iV s1.Period, iV s1.From, iV s1.To], .pointer (some ⟨b7, 0, none⟩), iV 0, iV vt15, iV (s1.Wave.length : Int), .pointer (some ⟨b7, 1, none⟩), .agg #[iV s1.At.X, iV s1.At.Y, iV s1.At.Z], iV vt15, iV vt15, .bool false, uV, .pointer (some ⟨b7, 5, none⟩), .slice A2 s1.Wave.length c3, iV (s1.Wave.length : Int), .bool false, iV (s1.Wave.length : Int), .bool false, .bool false, iV (s1.Wave.length : Int), .bool false, .bool false, uV, uV, uV, .bool false, .bool true, iV (s1.Wave.length : Int), .bool true, .bool true, .pointer (some ⟨b7, 6, none⟩), iV s1.Period, .bool false, .bool false, .pointer (some ⟨b7, 6, none⟩), iV s1.Period, .bool true, .bool true, .bool true, uV, uV, uV, uV, uV, .bool true, .bool true, uV, uV, uV, uV, uV, uV, uV, uV, uV, uV, uV, uV, uV, uV, uV, uV, uV, uV, uV, uV, uV, uV, uV, uV, uV, uV], []⟩) (by kernel_rfl) ?_
              refine wpList_nil ?_
              refine hK120 _ _ ?_
              refine condT (by kernel_rfl) ?_
              refine wp_seq_k (fun K126 hK127 => ?_)
              refine wp_region_lit ?_
              refine seqS1 (a' := ⟨#[.agg #[iV s1.ID, iV s1.At.X, iV s1.At.Y, iV s1.At.Z, iV s1.Rate, .slice A2 s1.Wave.length c3, iV s1.Period, iV s1.From, iV s1.To], .pointer (some ⟨b7, 0, none⟩), iV 4, iV vt15, iV (s1.Wave.length : Int), .pointer (some ⟨b7, 1, none⟩), .agg #[iV s1.At.X, iV s1.At.Y, iV s1.At.Z], iV vt15, iV vt15, .bool false, uV, .pointer (some ⟨b7, 5, none⟩), .slice A2 s1.Wave.length c3, iV (s1.Wave.length : Int), .bool false, iV (s1.Wave.length : Int), .bool false, .bool false, iV (s1.Wave.length : Int), .bool false, .bool false, uV, uV, uV, .bool false, .bool true, iV (s1.Wave.length : Int), .bool true, .bool true, .pointer (some ⟨b7, 6, none⟩), iV s1.Period, .bool false, .bool false, .pointer (some ⟨b7, 6, none⟩), iV s1.Period, .bool true, .bool true, .bool true, uV, uV, uV, uV, uV, .bool true, .bool true, uV, uV, uV, uV, uV, uV, uV, uV, uV, uV, uV, uV, uV, uV, uV, uV, uV, uV, uV, uV, uV, uV, uV, uV, uV, uV], []⟩) (by kernel_rfl) ?_
              refine wpList_nil ?_
              refine hK127 _ _ ?_
              refine wp_ret ?_
              refine hr34 _ _ ?_
              refine hret _ _ ?_
              refine ends_still (v := Value.int .i64 4) (by kernel_rfl) (by kernel_rfl) ?_
              have HS210 := HS20.drop
              injection h with h
              subst h
              exact ⟨f17, rfl, L18, HS210⟩
            · have c125 : ¬ (s1.Period > 17592186044416) := c125
              refine seqRwI 35 (x := (decide (s1.Period > 17592186044416))) (v := false) (by kernel_rfl) (decide_eq_false c125) ?_
              refine seqRwI 36 (x := (decide (s1.Period > 17592186044416))) (v := false) (by kernel_rfl) (decide_eq_false c125) ?_
              refine seqRwI 37 (x := (decide (s1.Period > 17592186044416))) (v := false) (by kernel_rfl) (decide_eq_false c125) ?_
              refine seqL1 (by kernel_rfl) ?_
              refine seqG (by kernel_rfl) (does_run (run_load rfl Try.underlying46 rfl (by kernel_rfl : _ = Value.pointer (some ⟨b7, 6, none⟩)) (HS20.cell 6)) ?_)
              have hq_ := guard_some h; clear h; obtain ⟨c128, h⟩ := hq_
              have c128 : ¬ ((s1.Wave.length : Int) = 0) := c128
              refine seqL1 (by kernel_rfl) ?_
              refine seqG (by kernel_rfl) (does_run (run_rem rfl (by kernel_rfl : _ = Value.int .i64 s1.Period) (by kernel_rfl : _ = Value.int .i64 (s1.Wave.length : Int)) c128 W19) ?_)
              refine seqS4 (a' := ⟨#[.agg #[iV s1.ID, iV s1.At.X, iV s1.At.Y, iV s1.At.Z, iV s1.Rate, .slice A2 s1.Wave.length c3, iV s1.Period, iV s1.From, iV s1.To], .pointer (some ⟨b7, 0, none⟩), iV 0, iV vt15, iV (s1.Wave.length : Int), .pointer (some ⟨b7, 1, none⟩), .agg #[iV s1.At.X, iV s1.At.Y, iV s1.At.Z], iV vt15, iV vt15, .bool false, uV, .pointer (some ⟨b7, 5, none⟩), .slice A2 s1.Wave.length c3, iV (s1.Wave.length : Int), .bool false, iV (s1.Wave.length : Int), .bool false, .bool false, iV (s1.Wave.length : Int), .bool false, .bool false, uV, uV, uV, .bool false, .bool ((Int.tmod s1.Period (s1.Wave.length : Int)) != 0), iV (s1.Wave.length : Int), .bool true, .bool true, .pointer (some ⟨b7, 6, none⟩), iV s1.Period, .bool false, .bool false, .pointer (some ⟨b7, 6, none⟩), iV s1.Period, .bool false, .bool false, .bool false, .pointer (some ⟨b7, 6, none⟩), iV s1.Period, iV (s1.Wave.length : Int), iV (Int.tmod s1.Period (s1.Wave.length : Int)), .bool ((Int.tmod s1.Period (s1.Wave.length : Int)) != 0), .bool ((Int.tmod s1.Period (s1.Wave.length : Int)) != 0), .bool ((Int.tmod s1.Period (s1.Wave.length : Int)) != 0), uV, uV, uV, uV, uV, uV, uV, uV, uV, uV, uV, uV, uV, uV, uV, uV, uV, uV, uV, uV, uV, uV, uV, uV, uV, uV], []⟩) (by kernel_rfl) ?_
              refine wpList_nil ?_
              refine hK120 _ _ ?_
              have hq_ := ite_some h; clear h; rcases hq_ with ⟨c130, h⟩ | ⟨c130, h⟩
              · have c130 : (Int.tmod s1.Period (s1.Wave.length : Int)) ≠ 0 := c130
                refine wpRwI 25 (x := ((Int.tmod s1.Period (s1.Wave.length : Int)) != 0)) (v := true) (by kernel_rfl) (bne_iff_ne.mpr c130) ?_
                refine wpRwI 42 (x := ((Int.tmod s1.Period (s1.Wave.length : Int)) != 0)) (v := true) (by kernel_rfl) (bne_iff_ne.mpr c130) ?_
                refine wpRwI 43 (x := ((Int.tmod s1.Period (s1.Wave.length : Int)) != 0)) (v := true) (by kernel_rfl) (bne_iff_ne.mpr c130) ?_
                refine wpRwI 44 (x := ((Int.tmod s1.Period (s1.Wave.length : Int)) != 0)) (v := true) (by kernel_rfl) (bne_iff_ne.mpr c130) ?_
                refine condT (by kernel_rfl) ?_
                refine wp_seq_k (fun K131 hK132 => ?_)
                refine wp_region_lit ?_
                refine seqS1 (a' := ⟨#[.agg #[iV s1.ID, iV s1.At.X, iV s1.At.Y, iV s1.At.Z, iV s1.Rate, .slice A2 s1.Wave.length c3, iV s1.Period, iV s1.From, iV s1.To], .pointer (some ⟨b7, 0, none⟩), iV 4, iV vt15, iV (s1.Wave.length : Int), .pointer (some ⟨b7, 1, none⟩), .agg #[iV s1.At.X, iV s1.At.Y, iV s1.At.Z], iV vt15, iV vt15, .bool false, uV, .pointer (some ⟨b7, 5, none⟩), .slice A2 s1.Wave.length c3, iV (s1.Wave.length : Int), .bool false, iV (s1.Wave.length : Int), .bool false, .bool false, iV (s1.Wave.length : Int), .bool false, .bool false, uV, uV, uV, .bool false, .bool true, iV (s1.Wave.length : Int), .bool true, .bool true, .pointer (some ⟨b7, 6, none⟩), iV s1.Period, .bool false, .bool false, .pointer (some ⟨b7, 6, none⟩), iV s1.Period, .bool false, .bool false, .bool false, .pointer (some ⟨b7, 6, none⟩), iV s1.Period, iV (s1.Wave.length : Int), iV (Int.tmod s1.Period (s1.Wave.length : Int)), .bool true, .bool true, .bool true, uV, uV, uV, uV, uV, uV, uV, uV, uV, uV, uV, uV, uV, uV, uV, uV, uV, uV, uV, uV, uV, uV, uV, uV, uV, uV], []⟩) (by kernel_rfl) ?_
                refine wpList_nil ?_
                refine hK132 _ _ ?_
                refine wp_ret ?_
                refine hr34 _ _ ?_
                refine hret _ _ ?_
                refine ends_still (v := Value.int .i64 4) (by kernel_rfl) (by kernel_rfl) ?_
                have HS211 := HS20.drop
                injection h with h
                subst h
                exact ⟨f17, rfl, L18, HS211⟩
              · have c130 : ¬ ((Int.tmod s1.Period (s1.Wave.length : Int)) ≠ 0) := c130
                refine wpRwI 25 (x := ((Int.tmod s1.Period (s1.Wave.length : Int)) != 0)) (v := false) (by kernel_rfl) (bne_eq_false_iff_eq.mpr (Decidable.of_not_not c130)) ?_
                refine wpRwI 42 (x := ((Int.tmod s1.Period (s1.Wave.length : Int)) != 0)) (v := false) (by kernel_rfl) (bne_eq_false_iff_eq.mpr (Decidable.of_not_not c130)) ?_
                refine wpRwI 43 (x := ((Int.tmod s1.Period (s1.Wave.length : Int)) != 0)) (v := false) (by kernel_rfl) (bne_eq_false_iff_eq.mpr (Decidable.of_not_not c130)) ?_
                refine wpRwI 44 (x := ((Int.tmod s1.Period (s1.Wave.length : Int)) != 0)) (v := false) (by kernel_rfl) (bne_eq_false_iff_eq.mpr (Decidable.of_not_not c130)) ?_
                refine condF (by kernel_rfl) ?_
                refine wp_seq_k (fun K133 hK134 => ?_)
                refine wp_region_lit ?_
                refine seqL1 (by kernel_rfl) ?_
                refine seqK rfl (does_run (run_load rfl Try.underlying60 rfl (by kernel_rfl : _ = Value.pointer (some ⟨b7, 5, none⟩)) (HS20.cell 5)) ?_)
                have hq_ := bind_some h; clear h; obtain ⟨vt135, hc136, h⟩ := hq_
                refine seqL1 (by kernel_rfl) ?_
                refine seqK rfl (does_call (f := 66) (args := #[.slice A2 s1.Wave.length c3, .func (.func 67) #[] #[.pointer (some ⟨b7, 0, none⟩)]]) (by kernel_rfl) (slices_ContainsFunc_Quanta__sky_star_1.calls k b7 A2 c3 A2 c3 s1 s1.Wave HS20 (HR4.mono L18) (HR4.mono L18) vt135 hc136) ?_)
                rintro _ W139 ⟨f137, rfl, L138, HS140⟩
                refine ⟨_, rfl, ?_⟩
                refine seqS1 (a' := ⟨#[.agg #[iV s1.ID, iV s1.At.X, iV s1.At.Y, iV s1.At.Z, iV s1.Rate, .slice A2 s1.Wave.length c3, iV s1.Period, iV s1.From, iV s1.To], .pointer (some ⟨b7, 0, none⟩), iV 0, iV vt15, iV (s1.Wave.length : Int), .pointer (some ⟨b7, 1, none⟩), .agg #[iV s1.At.X, iV s1.At.Y, iV s1.At.Z], iV vt15, iV vt15, .bool false, uV, .pointer (some ⟨b7, 5, none⟩), .slice A2 s1.Wave.length c3, iV (s1.Wave.length : Int), .bool false, iV (s1.Wave.length : Int), .bool false, .bool false, iV (s1.Wave.length : Int), .bool false, .bool false, uV, uV, uV, .bool false, .bool false, iV (s1.Wave.length : Int), .bool true, .bool true, .pointer (some ⟨b7, 6, none⟩), iV s1.Period, .bool false, .bool false, .pointer (some ⟨b7, 6, none⟩), iV s1.Period, .bool false, .bool false, .bool false, .pointer (some ⟨b7, 6, none⟩), iV s1.Period, iV (s1.Wave.length : Int), iV (Int.tmod s1.Period (s1.Wave.length : Int)), .bool false, .bool false, .bool false, .bool vt135, .pointer (some ⟨b7, 5, none⟩), .slice A2 s1.Wave.length c3, .func (.func 67) #[] #[.pointer (some ⟨b7, 0, none⟩)], .bool vt135, uV, uV, uV, uV, uV, uV, uV, uV, uV, uV, uV, uV, uV, uV, uV, uV, uV, uV, uV, uV, uV], []⟩) (by kernel_rfl) ?_
                refine wpList_nil ?_
                refine hK134 _ _ ?_
                have hq_ := ite_some h; clear h; rcases hq_ with ⟨c142, h⟩ | ⟨c142, h⟩
                · have c142 : vt135 = true := c142
                  refine wpRwI 45 (x := vt135) (v := true) (by kernel_rfl) c142 ?_
                  refine wpRwI 49 (x := vt135) (v := true) (by kernel_rfl) c142 ?_
                  refine condT (by kernel_rfl) ?_
                  refine wp_seq_k (fun K143 hK144 => ?_)
                  refine wp_region_lit ?_
                  refine seqS1 (a' := ⟨#[.agg #[iV s1.ID, iV s1.At.X, iV s1.At.Y, iV s1.At.Z, iV s1.Rate, .slice A2 s1.Wave.length c3, iV s1.Period, iV s1.From, iV s1.To], .pointer (some ⟨b7, 0, none⟩), iV 4, iV vt15, iV (s1.Wave.length : Int), .pointer (some ⟨b7, 1, none⟩), .agg #[iV s1.At.X, iV s1.At.Y, iV s1.At.Z], iV vt15, iV vt15, .bool false, uV, .pointer (some ⟨b7, 5, none⟩), .slice A2 s1.Wave.length c3, iV (s1.Wave.length : Int), .bool false, iV (s1.Wave.length : Int), .bool false, .bool false, iV (s1.Wave.length : Int), .bool false, .bool false, uV, uV, uV, .bool false, .bool false, iV (s1.Wave.length : Int), .bool true, .bool true, .pointer (some ⟨b7, 6, none⟩), iV s1.Period, .bool false, .bool false, .pointer (some ⟨b7, 6, none⟩), iV s1.Period, .bool false, .bool false, .bool false, .pointer (some ⟨b7, 6, none⟩), iV s1.Period, iV (s1.Wave.length : Int), iV (Int.tmod s1.Period (s1.Wave.length : Int)), .bool false, .bool false, .bool false, .bool true, .pointer (some ⟨b7, 5, none⟩), .slice A2 s1.Wave.length c3, .func (.func 67) #[] #[.pointer (some ⟨b7, 0, none⟩)], .bool true, uV, uV, uV, uV, uV, uV, uV, uV, uV, uV, uV, uV, uV, uV, uV, uV, uV, uV, uV, uV, uV], []⟩) (by kernel_rfl) ?_
                  refine wpList_nil ?_
                  refine hK144 _ _ ?_
                  refine wp_ret ?_
                  refine hr34 _ _ ?_
                  refine hret _ _ ?_
                  refine ends_still (v := Value.int .i64 4) (by kernel_rfl) (by kernel_rfl) ?_
                  have HS212 := HS140.drop
                  injection h with h
                  subst h
                  exact ⟨f137, rfl, (L18.trans L138), HS212⟩
                · have c142 : ¬ (vt135 = true) := c142
                  refine wpRwI 45 (x := vt135) (v := false) (by kernel_rfl) (Bool.eq_false_iff.mpr c142) ?_
                  refine wpRwI 49 (x := vt135) (v := false) (by kernel_rfl) (Bool.eq_false_iff.mpr c142) ?_
                  refine condF (by kernel_rfl) ?_
                  refine wp_seq_k (fun K145 hK146 => ?_)
                  refine wp_region_lit ?_
                  refine seqL1 (by kernel_rfl) ?_
                  refine seqK rfl (does_run (run_load rfl Try.underlying46 rfl (by kernel_rfl : _ = Value.pointer (some ⟨b7, 7, none⟩)) (HS140.cell 7)) ?_)
                  refine seqL1 (by kernel_rfl) ?_
                  refine seqK rfl (does_run (run_load rfl Try.underlying46 rfl (by kernel_rfl : _ = Value.pointer (some ⟨b7, 8, none⟩)) (HS140.cell 8)) ?_)
                  refine seqS3 (a' := ⟨#[.agg #[iV s1.ID, iV s1.At.X, iV s1.At.Y, iV s1.At.Z, iV s1.Rate, .slice A2 s1.Wave.length c3, iV s1.Period, iV s1.From, iV s1.To], .pointer (some ⟨b7, 0, none⟩), iV 0, iV vt15, iV (s1.Wave.length : Int), .pointer (some ⟨b7, 1, none⟩), .agg #[iV s1.At.X, iV s1.At.Y, iV s1.At.Z], iV vt15, iV vt15, .bool false, uV, .pointer (some ⟨b7, 5, none⟩), .slice A2 s1.Wave.length c3, iV (s1.Wave.length : Int), .bool false, iV (s1.Wave.length : Int), .bool false, .bool false, iV (s1.Wave.length : Int), .bool false, .bool false, uV, uV, uV, .bool false, .bool false, iV (s1.Wave.length : Int), .bool true, .bool true, .pointer (some ⟨b7, 6, none⟩), iV s1.Period, .bool false, .bool false, .pointer (some ⟨b7, 6, none⟩), iV s1.Period, .bool false, .bool false, .bool false, .pointer (some ⟨b7, 6, none⟩), iV s1.Period, iV (s1.Wave.length : Int), iV (Int.tmod s1.Period (s1.Wave.length : Int)), .bool false, .bool false, .bool false, .bool false, .pointer (some ⟨b7, 5, none⟩), .slice A2 s1.Wave.length c3, .func (.func 67) #[] #[.pointer (some ⟨b7, 0, none⟩)], .bool false, uV, .pointer (some ⟨b7, 7, none⟩), iV s1.From, .pointer (some ⟨b7, 8, none⟩), iV s1.To, iV (mn s1.From s1.To), .bool (decide ((mn s1.From s1.To) < (-17592186044416))), .bool (decide ((mn s1.From s1.To) < (-17592186044416))), uV, uV, uV, uV, uV, uV, uV, uV, uV, uV, uV, uV, uV], []⟩) (by kernel_rfl) ?_
                  have hq_ := ite_some h; clear h; rcases hq_ with ⟨c147, h⟩ | ⟨c147, h⟩
                  · have c147 : (mn s1.From s1.To) < (-17592186044416) := c147
                    refine seqRwI 56 (x := (decide ((mn s1.From s1.To) < (-17592186044416)))) (v := true) (by kernel_rfl) (decide_eq_true c147) ?_
                    refine seqRwI 57 (x := (decide ((mn s1.From s1.To) < (-17592186044416)))) (v := true) (by kernel_rfl) (decide_eq_true c147) ?_
                    refine seqS8 (a' := ⟨#[.agg #[iV s1.ID, iV s1.At.X, iV s1.At.Y, iV s1.At.Z, iV s1.Rate, .slice A2 s1.Wave.length c3, iV s1.Period, iV s1.From, iV s1.To], .pointer (some ⟨b7, 0, none⟩), iV 0, iV vt15, iV (s1.Wave.length : Int), .pointer (some ⟨b7, 1, none⟩), .agg #[iV s1.At.X, iV s1.At.Y, iV s1.At.Z], iV vt15, iV vt15, .bool false, uV, .pointer (some ⟨b7, 5, none⟩), .slice A2 s1.Wave.length c3, iV (s1.Wave.length : Int), .bool false, iV (s1.Wave.length : Int), .bool false, .bool false, iV (s1.Wave.length : Int), .bool false, .bool false, uV, uV, uV, .bool false, .bool false, iV (s1.Wave.length : Int), .bool true, .bool true, .pointer (some ⟨b7, 6, none⟩), iV s1.Period, .bool false, .bool false, .pointer (some ⟨b7, 6, none⟩), iV s1.Period, .bool false, .bool false, .bool false, .pointer (some ⟨b7, 6, none⟩), iV s1.Period, iV (s1.Wave.length : Int), iV (Int.tmod s1.Period (s1.Wave.length : Int)), .bool false, .bool false, .bool false, .bool false, .pointer (some ⟨b7, 5, none⟩), .slice A2 s1.Wave.length c3, .func (.func 67) #[] #[.pointer (some ⟨b7, 0, none⟩)], .bool false, .bool true, .pointer (some ⟨b7, 7, none⟩), iV s1.From, .pointer (some ⟨b7, 8, none⟩), iV s1.To, iV (mn s1.From s1.To), .bool true, .bool true, uV, uV, uV, uV, uV, uV, .bool true, uV, uV, uV, uV, uV, uV], []⟩) (by kernel_rfl) ?_
                    refine wpList_nil ?_
                    refine hK146 _ _ ?_
                    refine condT (by kernel_rfl) ?_
                    refine wp_seq_k (fun K148 hK149 => ?_)
                    refine wp_region_lit ?_
                    refine seqS1 (a' := ⟨#[.agg #[iV s1.ID, iV s1.At.X, iV s1.At.Y, iV s1.At.Z, iV s1.Rate, .slice A2 s1.Wave.length c3, iV s1.Period, iV s1.From, iV s1.To], .pointer (some ⟨b7, 0, none⟩), iV 4, iV vt15, iV (s1.Wave.length : Int), .pointer (some ⟨b7, 1, none⟩), .agg #[iV s1.At.X, iV s1.At.Y, iV s1.At.Z], iV vt15, iV vt15, .bool false, uV, .pointer (some ⟨b7, 5, none⟩), .slice A2 s1.Wave.length c3, iV (s1.Wave.length : Int), .bool false, iV (s1.Wave.length : Int), .bool false, .bool false, iV (s1.Wave.length : Int), .bool false, .bool false, uV, uV, uV, .bool false, .bool false, iV (s1.Wave.length : Int), .bool true, .bool true, .pointer (some ⟨b7, 6, none⟩), iV s1.Period, .bool false, .bool false, .pointer (some ⟨b7, 6, none⟩), iV s1.Period, .bool false, .bool false, .bool false, .pointer (some ⟨b7, 6, none⟩), iV s1.Period, iV (s1.Wave.length : Int), iV (Int.tmod s1.Period (s1.Wave.length : Int)), .bool false, .bool false, .bool false, .bool false, .pointer (some ⟨b7, 5, none⟩), .slice A2 s1.Wave.length c3, .func (.func 67) #[] #[.pointer (some ⟨b7, 0, none⟩)], .bool false, .bool true, .pointer (some ⟨b7, 7, none⟩), iV s1.From, .pointer (some ⟨b7, 8, none⟩), iV s1.To, iV (mn s1.From s1.To), .bool true, .bool true, uV, uV, uV, uV, uV, uV, .bool true, uV, uV, uV, uV, uV, uV], []⟩) (by kernel_rfl) ?_
                    refine wpList_nil ?_
                    refine hK149 _ _ ?_
                    refine wp_ret ?_
                    refine hr34 _ _ ?_
                    refine hret _ _ ?_
                    refine ends_still (v := Value.int .i64 4) (by kernel_rfl) (by kernel_rfl) ?_
                    have HS213 := HS140.drop
                    injection h with h
                    subst h
                    exact ⟨f137, rfl, (L18.trans L138), HS213⟩
                  · have c147 : ¬ ((mn s1.From s1.To) < (-17592186044416)) := c147
                    refine seqRwI 56 (x := (decide ((mn s1.From s1.To) < (-17592186044416)))) (v := false) (by kernel_rfl) (decide_eq_false c147) ?_
                    refine seqRwI 57 (x := (decide ((mn s1.From s1.To) < (-17592186044416)))) (v := false) (by kernel_rfl) (decide_eq_false c147) ?_
                    refine seqL1 (by kernel_rfl) ?_
                    refine seqG (by kernel_rfl) (does_run (run_load rfl Try.underlying46 rfl (by kernel_rfl : _ = Value.pointer (some ⟨b7, 7, none⟩)) (HS140.cell 7)) ?_)
                    refine seqL1 (by kernel_rfl) ?_
                    refine seqG (by kernel_rfl) (does_run (run_load rfl Try.underlying46 rfl (by kernel_rfl : _ = Value.pointer (some ⟨b7, 8, none⟩)) (HS140.cell 8)) ?_)
                    refine seqS4 (a' := ⟨#[.agg #[iV s1.ID, iV s1.At.X, iV s1.At.Y, iV s1.At.Z, iV s1.Rate, .slice A2 s1.Wave.length c3, iV s1.Period, iV s1.From, iV s1.To], .pointer (some ⟨b7, 0, none⟩), iV 0, iV vt15, iV (s1.Wave.length : Int), .pointer (some ⟨b7, 1, none⟩), .agg #[iV s1.At.X, iV s1.At.Y, iV s1.At.Z], iV vt15, iV vt15, .bool false, uV, .pointer (some ⟨b7, 5, none⟩), .slice A2 s1.Wave.length c3, iV (s1.Wave.length : Int), .bool false, iV (s1.Wave.length : Int), .bool false, .bool false, iV (s1.Wave.length : Int), .bool false, .bool false, uV, uV, uV, .bool false, .bool false, iV (s1.Wave.length : Int), .bool true, .bool true, .pointer (some ⟨b7, 6, none⟩), iV s1.Period, .bool false, .bool false, .pointer (some ⟨b7, 6, none⟩), iV s1.Period, .bool false, .bool false, .bool false, .pointer (some ⟨b7, 6, none⟩), iV s1.Period, iV (s1.Wave.length : Int), iV (Int.tmod s1.Period (s1.Wave.length : Int)), .bool false, .bool false, .bool false, .bool false, .pointer (some ⟨b7, 5, none⟩), .slice A2 s1.Wave.length c3, .func (.func 67) #[] #[.pointer (some ⟨b7, 0, none⟩)], .bool false, .bool (decide ((mx s1.From s1.To) > 17592186044416)), .pointer (some ⟨b7, 7, none⟩), iV s1.From, .pointer (some ⟨b7, 8, none⟩), iV s1.To, iV (mn s1.From s1.To), .bool false, .bool false, .pointer (some ⟨b7, 7, none⟩), iV s1.From, .pointer (some ⟨b7, 8, none⟩), iV s1.To, iV (mx s1.From s1.To), .bool (decide ((mx s1.From s1.To) > 17592186044416)), .bool (decide ((mx s1.From s1.To) > 17592186044416)), uV, uV, uV, uV, uV, uV], []⟩) (by kernel_rfl) ?_
                    refine wpList_nil ?_
                    refine hK146 _ _ ?_
                    have hq_ := ite_some h; clear h; rcases hq_ with ⟨c151, h⟩ | ⟨c151, h⟩
                    · have c151 : (mx s1.From s1.To) > 17592186044416 := c151
                      refine wpRwI 50 (x := (decide ((mx s1.From s1.To) > 17592186044416))) (v := true) (by kernel_rfl) (decide_eq_true c151) ?_
                      refine wpRwI 63 (x := (decide ((mx s1.From s1.To) > 17592186044416))) (v := true) (by kernel_rfl) (decide_eq_true c151) ?_
                      refine wpRwI 64 (x := (decide ((mx s1.From s1.To) > 17592186044416))) (v := true) (by kernel_rfl) (decide_eq_true c151) ?_
                      refine condT (by kernel_rfl) ?_
                      refine wp_seq_k (fun K152 hK153 => ?_)
                      refine wp_region_lit ?_
                      refine seqS1 (a' := ⟨#[.agg #[iV s1.ID, iV s1.At.X, iV s1.At.Y, iV s1.At.Z, iV s1.Rate, .slice A2 s1.Wave.length c3, iV s1.Period, iV s1.From, iV s1.To], .pointer (some ⟨b7, 0, none⟩), iV 4, iV vt15, iV (s1.Wave.length : Int), .pointer (some ⟨b7, 1, none⟩), .agg #[iV s1.At.X, iV s1.At.Y, iV s1.At.Z], iV vt15, iV vt15, .bool false, uV, .pointer (some ⟨b7, 5, none⟩), .slice A2 s1.Wave.length c3, iV (s1.Wave.length : Int), .bool false, iV (s1.Wave.length : Int), .bool false, .bool false, iV (s1.Wave.length : Int), .bool false, .bool false, uV, uV, uV, .bool false, .bool false, iV (s1.Wave.length : Int), .bool true, .bool true, .pointer (some ⟨b7, 6, none⟩), iV s1.Period, .bool false, .bool false, .pointer (some ⟨b7, 6, none⟩), iV s1.Period, .bool false, .bool false, .bool false, .pointer (some ⟨b7, 6, none⟩), iV s1.Period, iV (s1.Wave.length : Int), iV (Int.tmod s1.Period (s1.Wave.length : Int)), .bool false, .bool false, .bool false, .bool false, .pointer (some ⟨b7, 5, none⟩), .slice A2 s1.Wave.length c3, .func (.func 67) #[] #[.pointer (some ⟨b7, 0, none⟩)], .bool false, .bool true, .pointer (some ⟨b7, 7, none⟩), iV s1.From, .pointer (some ⟨b7, 8, none⟩), iV s1.To, iV (mn s1.From s1.To), .bool false, .bool false, .pointer (some ⟨b7, 7, none⟩), iV s1.From, .pointer (some ⟨b7, 8, none⟩), iV s1.To, iV (mx s1.From s1.To), .bool true, .bool true, uV, uV, uV, uV, uV, uV], []⟩) (by kernel_rfl) ?_
                      refine wpList_nil ?_
                      refine hK153 _ _ ?_
                      refine wp_ret ?_
                      refine hr34 _ _ ?_
                      refine hret _ _ ?_
                      refine ends_still (v := Value.int .i64 4) (by kernel_rfl) (by kernel_rfl) ?_
                      have HS214 := HS140.drop
                      injection h with h
                      subst h
                      exact ⟨f137, rfl, (L18.trans L138), HS214⟩
                    · have c151 : ¬ ((mx s1.From s1.To) > 17592186044416) := c151
                      refine wpRwI 50 (x := (decide ((mx s1.From s1.To) > 17592186044416))) (v := false) (by kernel_rfl) (decide_eq_false c151) ?_
                      refine wpRwI 63 (x := (decide ((mx s1.From s1.To) > 17592186044416))) (v := false) (by kernel_rfl) (decide_eq_false c151) ?_
                      refine wpRwI 64 (x := (decide ((mx s1.From s1.To) > 17592186044416))) (v := false) (by kernel_rfl) (decide_eq_false c151) ?_
                      refine condF (by kernel_rfl) ?_
                      refine wp_seq_k (fun K154 hK155 => ?_)
                      refine wp_region_lit ?_
                      refine seqL1 (by kernel_rfl) ?_
                      refine seqK rfl (does_run (run_load rfl Try.underlying46 rfl (by kernel_rfl : _ = Value.pointer (some ⟨b7, 7, none⟩)) (HS140.cell 7)) ?_)
                      refine seqL1 (by kernel_rfl) ?_
                      refine seqK rfl (does_run (run_load rfl Try.underlying46 rfl (by kernel_rfl : _ = Value.pointer (some ⟨b7, 8, none⟩)) (HS140.cell 8)) ?_)
                      refine seqS2 (a' := ⟨#[.agg #[iV s1.ID, iV s1.At.X, iV s1.At.Y, iV s1.At.Z, iV s1.Rate, .slice A2 s1.Wave.length c3, iV s1.Period, iV s1.From, iV s1.To], .pointer (some ⟨b7, 0, none⟩), iV 0, iV vt15, iV (s1.Wave.length : Int), .pointer (some ⟨b7, 1, none⟩), .agg #[iV s1.At.X, iV s1.At.Y, iV s1.At.Z], iV vt15, iV vt15, .bool false, uV, .pointer (some ⟨b7, 5, none⟩), .slice A2 s1.Wave.length c3, iV (s1.Wave.length : Int), .bool false, iV (s1.Wave.length : Int), .bool false, .bool false, iV (s1.Wave.length : Int), .bool false, .bool false, uV, uV, uV, .bool false, .bool false, iV (s1.Wave.length : Int), .bool true, .bool true, .pointer (some ⟨b7, 6, none⟩), iV s1.Period, .bool false, .bool false, .pointer (some ⟨b7, 6, none⟩), iV s1.Period, .bool false, .bool false, .bool false, .pointer (some ⟨b7, 6, none⟩), iV s1.Period, iV (s1.Wave.length : Int), iV (Int.tmod s1.Period (s1.Wave.length : Int)), .bool false, .bool false, .bool false, .bool false, .pointer (some ⟨b7, 5, none⟩), .slice A2 s1.Wave.length c3, .func (.func 67) #[] #[.pointer (some ⟨b7, 0, none⟩)], .bool false, .bool false, .pointer (some ⟨b7, 7, none⟩), iV s1.From, .pointer (some ⟨b7, 8, none⟩), iV s1.To, iV (mn s1.From s1.To), .bool false, .bool false, .pointer (some ⟨b7, 7, none⟩), iV s1.From, .pointer (some ⟨b7, 8, none⟩), iV s1.To, iV (mx s1.From s1.To), .bool false, .bool false, .bool (decide (s1.From > s1.To)), .pointer (some ⟨b7, 7, none⟩), iV s1.From, .pointer (some ⟨b7, 8, none⟩), iV s1.To, .bool (decide (s1.From > s1.To))], []⟩) (by kernel_rfl) ?_
                      refine wpList_nil ?_
                      refine hK155 _ _ ?_
                      have hq_ := ite_some h; clear h; rcases hq_ with ⟨c157, h⟩ | ⟨c157, h⟩
                      · have c157 : s1.From > s1.To := c157
                        refine wpRwI 65 (x := (decide (s1.From > s1.To))) (v := true) (by kernel_rfl) (decide_eq_true c157) ?_
                        refine wpRwI 70 (x := (decide (s1.From > s1.To))) (v := true) (by kernel_rfl) (decide_eq_true c157) ?_
                        refine condT (by kernel_rfl) ?_
                        refine wp_seq_k (fun K158 hK159 => ?_)
                        refine wp_region_lit ?_
                        refine seqS1 (a' := ⟨#[.agg #[iV s1.ID, iV s1.At.X, iV s1.At.Y, iV s1.At.Z, iV s1.Rate, .slice A2 s1.Wave.length c3, iV s1.Period, iV s1.From, iV s1.To], .pointer (some ⟨b7, 0, none⟩), iV 11, iV vt15, iV (s1.Wave.length : Int), .pointer (some ⟨b7, 1, none⟩), .agg #[iV s1.At.X, iV s1.At.Y, iV s1.At.Z], iV vt15, iV vt15, .bool false, uV, .pointer (some ⟨b7, 5, none⟩), .slice A2 s1.Wave.length c3, iV (s1.Wave.length : Int), .bool false, iV (s1.Wave.length : Int), .bool false, .bool false, iV (s1.Wave.length : Int), .bool false, .bool false, uV, uV, uV, .bool false, .bool false, iV (s1.Wave.length : Int), .bool true, .bool true, .pointer (some ⟨b7, 6, none⟩), iV s1.Period, .bool false, .bool false, .pointer (some ⟨b7, 6, none⟩), iV s1.Period, .bool false, .bool false, .bool false, .pointer (some ⟨b7, 6, none⟩), iV s1.Period, iV (s1.Wave.length : Int), iV (Int.tmod s1.Period (s1.Wave.length : Int)), .bool false, .bool false, .bool false, .bool false, .pointer (some ⟨b7, 5, none⟩), .slice A2 s1.Wave.length c3, .func (.func 67) #[] #[.pointer (some ⟨b7, 0, none⟩)], .bool false, .bool false, .pointer (some ⟨b7, 7, none⟩), iV s1.From, .pointer (some ⟨b7, 8, none⟩), iV s1.To, iV (mn s1.From s1.To), .bool false, .bool false, .pointer (some ⟨b7, 7, none⟩), iV s1.From, .pointer (some ⟨b7, 8, none⟩), iV s1.To, iV (mx s1.From s1.To), .bool false, .bool false, .bool true, .pointer (some ⟨b7, 7, none⟩), iV s1.From, .pointer (some ⟨b7, 8, none⟩), iV s1.To, .bool true], []⟩) (by kernel_rfl) ?_
                        refine wpList_nil ?_
                        refine hK159 _ _ ?_
                        refine wp_ret ?_
                        refine hr34 _ _ ?_
                        refine hret _ _ ?_
                        refine ends_still (v := Value.int .i64 11) (by kernel_rfl) (by kernel_rfl) ?_
                        have HS215 := HS140.drop
                        injection h with h
                        subst h
                        exact ⟨f137, rfl, (L18.trans L138), HS215⟩
                      · have c157 : ¬ (s1.From > s1.To) := c157
                        refine wpRwI 65 (x := (decide (s1.From > s1.To))) (v := false) (by kernel_rfl) (decide_eq_false c157) ?_
                        refine wpRwI 70 (x := (decide (s1.From > s1.To))) (v := false) (by kernel_rfl) (decide_eq_false c157) ?_
                        refine condF (by kernel_rfl) ?_
                        refine wp_skip ?_
                        refine hn33 _ _ ?_
                        refine hK30 _ _ ?_
                        refine wp_seq_k (fun K191 hK192 => ?_)
                        refine wp_region_lit ?_
                        refine seqS1 (a' := ⟨#[.agg #[iV s1.ID, iV s1.At.X, iV s1.At.Y, iV s1.At.Z, iV s1.Rate, .slice A2 s1.Wave.length c3, iV s1.Period, iV s1.From, iV s1.To], .pointer (some ⟨b7, 0, none⟩), iV 0, iV vt15, iV (s1.Wave.length : Int), .pointer (some ⟨b7, 1, none⟩), .agg #[iV s1.At.X, iV s1.At.Y, iV s1.At.Z], iV vt15, iV vt15, .bool false, uV, .pointer (some ⟨b7, 5, none⟩), .slice A2 s1.Wave.length c3, iV (s1.Wave.length : Int), .bool false, iV (s1.Wave.length : Int), .bool false, .bool false, iV (s1.Wave.length : Int), .bool false, .bool false, uV, uV, uV, .bool false, .bool false, iV (s1.Wave.length : Int), .bool true, .bool true, .pointer (some ⟨b7, 6, none⟩), iV s1.Period, .bool false, .bool false, .pointer (some ⟨b7, 6, none⟩), iV s1.Period, .bool false, .bool false, .bool false, .pointer (some ⟨b7, 6, none⟩), iV s1.Period, iV (s1.Wave.length : Int), iV (Int.tmod s1.Period (s1.Wave.length : Int)), .bool false, .bool false, .bool false, .bool false, .pointer (some ⟨b7, 5, none⟩), .slice A2 s1.Wave.length c3, .func (.func 67) #[] #[.pointer (some ⟨b7, 0, none⟩)], .bool false, .bool false, .pointer (some ⟨b7, 7, none⟩), iV s1.From, .pointer (some ⟨b7, 8, none⟩), iV s1.To, iV (mn s1.From s1.To), .bool false, .bool false, .pointer (some ⟨b7, 7, none⟩), iV s1.From, .pointer (some ⟨b7, 8, none⟩), iV s1.To, iV (mx s1.From s1.To), .bool false, .bool false, .bool false, .pointer (some ⟨b7, 7, none⟩), iV s1.From, .pointer (some ⟨b7, 8, none⟩), iV s1.To, .bool false], []⟩) (by kernel_rfl) ?_
                        refine wpList_nil ?_
                        refine hK192 _ _ ?_
                        refine wp_ret ?_
                        refine hret _ _ ?_
                        refine ends_still (v := Value.int .i64 0) (by kernel_rfl) (by kernel_rfl) ?_
                        have HS222 := HS140.drop
                        injection h with h
                        subst h
                        exact ⟨f137, rfl, (L18.trans L138), HS222⟩
        · have c121 : ¬ ((s1.Wave.length : Int) > 0) := c121
          refine seqRwI 27 (x := (decide ((s1.Wave.length : Int) > 0))) (v := false) (by kernel_rfl) (decide_eq_false c121) ?_
          refine seqRwI 28 (x := (decide ((s1.Wave.length : Int) > 0))) (v := false) (by kernel_rfl) (decide_eq_false c121) ?_
          refine seqS17 (a' := ⟨#[.agg #[iV s1.ID, iV s1.At.X, iV s1.At.Y, iV s1.At.Z, iV s1.Rate, .slice A2 s1.Wave.length c3, iV s1.Period, iV s1.From, iV s1.To], .pointer (some ⟨b7, 0, none⟩), iV 0, iV vt15, iV (s1.Wave.length : Int), .pointer (some ⟨b7, 1, none⟩), .agg #[iV s1.At.X, iV s1.At.Y, iV s1.At.Z], iV vt15, iV vt15, .bool false, uV, .pointer (some ⟨b7, 5, none⟩), .slice A2 s1.Wave.length c3, iV (s1.Wave.length : Int), .bool false, iV (s1.Wave.length : Int), .bool false, .bool false, iV (s1.Wave.length : Int), .bool false, .bool false, uV, uV, uV, .bool false, .bool false, iV (s1.Wave.length : Int), .bool false, .bool false, uV, uV, uV, uV, uV, uV, uV, uV, uV, uV, uV, uV, uV, uV, uV, .bool false, uV, uV, uV, uV, uV, uV, uV, uV, uV, uV, uV, uV, uV, uV, uV, uV, uV, uV, uV, uV, uV, uV, uV, uV, uV, uV], []⟩) (by kernel_rfl) ?_
          refine wpList_nil ?_
          refine hK120 _ _ ?_
          refine condF (by kernel_rfl) ?_
          refine wp_seq_k (fun K160 hK161 => ?_)
          refine wp_region_lit ?_
          refine seqL1 (by kernel_rfl) ?_
          refine seqK rfl (does_run (run_load rfl Try.underlying60 rfl (by kernel_rfl : _ = Value.pointer (some ⟨b7, 5, none⟩)) (HS20.cell 5)) ?_)
          have hq_ := bind_some h; clear h; obtain ⟨vt162, hc163, h⟩ := hq_
          refine seqL1 (by kernel_rfl) ?_
          refine seqK rfl (does_call (f := 66) (args := #[.slice A2 s1.Wave.length c3, .func (.func 67) #[] #[.pointer (some ⟨b7, 0, none⟩)]]) (by kernel_rfl) (slices_ContainsFunc_Quanta__sky_star_1.calls k b7 A2 c3 A2 c3 s1 s1.Wave HS20 (HR4.mono L18) (HR4.mono L18) vt162 hc163) ?_)
          rintro _ W166 ⟨f164, rfl, L165, HS167⟩
          refine ⟨_, rfl, ?_⟩
          refine seqS1 (a' := ⟨#[.agg #[iV s1.ID, iV s1.At.X, iV s1.At.Y, iV s1.At.Z, iV s1.Rate, .slice A2 s1.Wave.length c3, iV s1.Period, iV s1.From, iV s1.To], .pointer (some ⟨b7, 0, none⟩), iV 0, iV vt15, iV (s1.Wave.length : Int), .pointer (some ⟨b7, 1, none⟩), .agg #[iV s1.At.X, iV s1.At.Y, iV s1.At.Z], iV vt15, iV vt15, .bool false, uV, .pointer (some ⟨b7, 5, none⟩), .slice A2 s1.Wave.length c3, iV (s1.Wave.length : Int), .bool false, iV (s1.Wave.length : Int), .bool false, .bool false, iV (s1.Wave.length : Int), .bool false, .bool false, uV, uV, uV, .bool false, .bool false, iV (s1.Wave.length : Int), .bool false, .bool false, uV, uV, uV, uV, uV, uV, uV, uV, uV, uV, uV, uV, uV, uV, uV, .bool false, .bool vt162, .pointer (some ⟨b7, 5, none⟩), .slice A2 s1.Wave.length c3, .func (.func 67) #[] #[.pointer (some ⟨b7, 0, none⟩)], .bool vt162, uV, uV, uV, uV, uV, uV, uV, uV, uV, uV, uV, uV, uV, uV, uV, uV, uV, uV, uV, uV, uV], []⟩) (by kernel_rfl) ?_
          refine wpList_nil ?_
          refine hK161 _ _ ?_
          have hq_ := ite_some h; clear h; rcases hq_ with ⟨c169, h⟩ | ⟨c169, h⟩
          · have c169 : vt162 = true := c169
            refine wpRwI 45 (x := vt162) (v := true) (by kernel_rfl) c169 ?_
            refine wpRwI 49 (x := vt162) (v := true) (by kernel_rfl) c169 ?_
            refine condT (by kernel_rfl) ?_
            refine wp_seq_k (fun K170 hK171 => ?_)
            refine wp_region_lit ?_
            refine seqS1 (a' := ⟨#[.agg #[iV s1.ID, iV s1.At.X, iV s1.At.Y, iV s1.At.Z, iV s1.Rate, .slice A2 s1.Wave.length c3, iV s1.Period, iV s1.From, iV s1.To], .pointer (some ⟨b7, 0, none⟩), iV 4, iV vt15, iV (s1.Wave.length : Int), .pointer (some ⟨b7, 1, none⟩), .agg #[iV s1.At.X, iV s1.At.Y, iV s1.At.Z], iV vt15, iV vt15, .bool false, uV, .pointer (some ⟨b7, 5, none⟩), .slice A2 s1.Wave.length c3, iV (s1.Wave.length : Int), .bool false, iV (s1.Wave.length : Int), .bool false, .bool false, iV (s1.Wave.length : Int), .bool false, .bool false, uV, uV, uV, .bool false, .bool false, iV (s1.Wave.length : Int), .bool false, .bool false, uV, uV, uV, uV, uV, uV, uV, uV, uV, uV, uV, uV, uV, uV, uV, .bool false, .bool true, .pointer (some ⟨b7, 5, none⟩), .slice A2 s1.Wave.length c3, .func (.func 67) #[] #[.pointer (some ⟨b7, 0, none⟩)], .bool true, uV, uV, uV, uV, uV, uV, uV, uV, uV, uV, uV, uV, uV, uV, uV, uV, uV, uV, uV, uV, uV], []⟩) (by kernel_rfl) ?_
            refine wpList_nil ?_
            refine hK171 _ _ ?_
            refine wp_ret ?_
            refine hr34 _ _ ?_
            refine hret _ _ ?_
            refine ends_still (v := Value.int .i64 4) (by kernel_rfl) (by kernel_rfl) ?_
            have HS216 := HS167.drop
            injection h with h
            subst h
            exact ⟨f164, rfl, (L18.trans L165), HS216⟩
          · have c169 : ¬ (vt162 = true) := c169
            refine wpRwI 45 (x := vt162) (v := false) (by kernel_rfl) (Bool.eq_false_iff.mpr c169) ?_
            refine wpRwI 49 (x := vt162) (v := false) (by kernel_rfl) (Bool.eq_false_iff.mpr c169) ?_
            refine condF (by kernel_rfl) ?_
            refine wp_seq_k (fun K172 hK173 => ?_)
            refine wp_region_lit ?_
            refine seqL1 (by kernel_rfl) ?_
            refine seqK rfl (does_run (run_load rfl Try.underlying46 rfl (by kernel_rfl : _ = Value.pointer (some ⟨b7, 7, none⟩)) (HS167.cell 7)) ?_)
            refine seqL1 (by kernel_rfl) ?_
            refine seqK rfl (does_run (run_load rfl Try.underlying46 rfl (by kernel_rfl : _ = Value.pointer (some ⟨b7, 8, none⟩)) (HS167.cell 8)) ?_)
            refine seqS3 (a' := ⟨#[.agg #[iV s1.ID, iV s1.At.X, iV s1.At.Y, iV s1.At.Z, iV s1.Rate, .slice A2 s1.Wave.length c3, iV s1.Period, iV s1.From, iV s1.To], .pointer (some ⟨b7, 0, none⟩), iV 0, iV vt15, iV (s1.Wave.length : Int), .pointer (some ⟨b7, 1, none⟩), .agg #[iV s1.At.X, iV s1.At.Y, iV s1.At.Z], iV vt15, iV vt15, .bool false, uV, .pointer (some ⟨b7, 5, none⟩), .slice A2 s1.Wave.length c3, iV (s1.Wave.length : Int), .bool false, iV (s1.Wave.length : Int), .bool false, .bool false, iV (s1.Wave.length : Int), .bool false, .bool false, uV, uV, uV, .bool false, .bool false, iV (s1.Wave.length : Int), .bool false, .bool false, uV, uV, uV, uV, uV, uV, uV, uV, uV, uV, uV, uV, uV, uV, uV, .bool false, .bool false, .pointer (some ⟨b7, 5, none⟩), .slice A2 s1.Wave.length c3, .func (.func 67) #[] #[.pointer (some ⟨b7, 0, none⟩)], .bool false, uV, .pointer (some ⟨b7, 7, none⟩), iV s1.From, .pointer (some ⟨b7, 8, none⟩), iV s1.To, iV (mn s1.From s1.To), .bool (decide ((mn s1.From s1.To) < (-17592186044416))), .bool (decide ((mn s1.From s1.To) < (-17592186044416))), uV, uV, uV, uV, uV, uV, uV, uV, uV, uV, uV, uV, uV], []⟩) (by kernel_rfl) ?_
            have hq_ := ite_some h; clear h; rcases hq_ with ⟨c174, h⟩ | ⟨c174, h⟩
            · have c174 : (mn s1.From s1.To) < (-17592186044416) := c174
              refine seqRwI 56 (x := (decide ((mn s1.From s1.To) < (-17592186044416)))) (v := true) (by kernel_rfl) (decide_eq_true c174) ?_
              refine seqRwI 57 (x := (decide ((mn s1.From s1.To) < (-17592186044416)))) (v := true) (by kernel_rfl) (decide_eq_true c174) ?_
              refine seqS8 (a' := ⟨#[.agg #[iV s1.ID, iV s1.At.X, iV s1.At.Y, iV s1.At.Z, iV s1.Rate, .slice A2 s1.Wave.length c3, iV s1.Period, iV s1.From, iV s1.To], .pointer (some ⟨b7, 0, none⟩), iV 0, iV vt15, iV (s1.Wave.length : Int), .pointer (some ⟨b7, 1, none⟩), .agg #[iV s1.At.X, iV s1.At.Y, iV s1.At.Z], iV vt15, iV vt15, .bool false, uV, .pointer (some ⟨b7, 5, none⟩), .slice A2 s1.Wave.length c3, iV (s1.Wave.length : Int), .bool false, iV (s1.Wave.length : Int), .bool false, .bool false, iV (s1.Wave.length : Int), .bool false, .bool false, uV, uV, uV, .bool false, .bool false, iV (s1.Wave.length : Int), .bool false, .bool false, uV, uV, uV, uV, uV, uV, uV, uV, uV, uV, uV, uV, uV, uV, uV, .bool false, .bool false, .pointer (some ⟨b7, 5, none⟩), .slice A2 s1.Wave.length c3, .func (.func 67) #[] #[.pointer (some ⟨b7, 0, none⟩)], .bool false, .bool true, .pointer (some ⟨b7, 7, none⟩), iV s1.From, .pointer (some ⟨b7, 8, none⟩), iV s1.To, iV (mn s1.From s1.To), .bool true, .bool true, uV, uV, uV, uV, uV, uV, .bool true, uV, uV, uV, uV, uV, uV], []⟩) (by kernel_rfl) ?_
              refine wpList_nil ?_
              refine hK173 _ _ ?_
              refine condT (by kernel_rfl) ?_
              refine wp_seq_k (fun K175 hK176 => ?_)
              refine wp_region_lit ?_
              refine seqS1 (a' := ⟨#[.agg #[iV s1.ID, iV s1.At.X, iV s1.At.Y, iV s1.At.Z, iV s1.Rate, .slice A2 s1.Wave.length c3, iV s1.Period, iV s1.From, iV s1.To], .pointer (some ⟨b7, 0, none⟩), iV 4, iV vt15, iV (s1.Wave.length : Int), .pointer (some ⟨b7, 1, none⟩), .agg #[iV s1.At.X, iV s1.At.Y, iV s1.At.Z], iV vt15, iV vt15, .bool false, uV, .pointer (some ⟨b7, 5, none⟩), .slice A2 s1.Wave.length c3, iV (s1.Wave.length : Int), .bool false, iV (s1.Wave.length : Int), .bool false, .bool false, iV (s1.Wave.length : Int), .bool false, .bool false, uV, uV, uV, .bool false, .bool false, iV (s1.Wave.length : Int), .bool false, .bool false, uV, uV, uV, uV, uV, uV, uV, uV, uV, uV, uV, uV, uV, uV, uV, .bool false, .bool false, .pointer (some ⟨b7, 5, none⟩), .slice A2 s1.Wave.length c3, .func (.func 67) #[] #[.pointer (some ⟨b7, 0, none⟩)], .bool false, .bool true, .pointer (some ⟨b7, 7, none⟩), iV s1.From, .pointer (some ⟨b7, 8, none⟩), iV s1.To, iV (mn s1.From s1.To), .bool true, .bool true, uV, uV, uV, uV, uV, uV, .bool true, uV, uV, uV, uV, uV, uV], []⟩) (by kernel_rfl) ?_
              refine wpList_nil ?_
              refine hK176 _ _ ?_
              refine wp_ret ?_
              refine hr34 _ _ ?_
              refine hret _ _ ?_
              refine ends_still (v := Value.int .i64 4) (by kernel_rfl) (by kernel_rfl) ?_
              have HS217 := HS167.drop
              injection h with h
              subst h
              exact ⟨f164, rfl, (L18.trans L165), HS217⟩
            · have c174 : ¬ ((mn s1.From s1.To) < (-17592186044416)) := c174
              refine seqRwI 56 (x := (decide ((mn s1.From s1.To) < (-17592186044416)))) (v := false) (by kernel_rfl) (decide_eq_false c174) ?_
              refine seqRwI 57 (x := (decide ((mn s1.From s1.To) < (-17592186044416)))) (v := false) (by kernel_rfl) (decide_eq_false c174) ?_
              refine seqL1 (by kernel_rfl) ?_
              refine seqG (by kernel_rfl) (does_run (run_load rfl Try.underlying46 rfl (by kernel_rfl : _ = Value.pointer (some ⟨b7, 7, none⟩)) (HS167.cell 7)) ?_)
              refine seqL1 (by kernel_rfl) ?_
              refine seqG (by kernel_rfl) (does_run (run_load rfl Try.underlying46 rfl (by kernel_rfl : _ = Value.pointer (some ⟨b7, 8, none⟩)) (HS167.cell 8)) ?_)
              refine seqS4 (a' := ⟨#[.agg #[iV s1.ID, iV s1.At.X, iV s1.At.Y, iV s1.At.Z, iV s1.Rate, .slice A2 s1.Wave.length c3, iV s1.Period, iV s1.From, iV s1.To], .pointer (some ⟨b7, 0, none⟩), iV 0, iV vt15, iV (s1.Wave.length : Int), .pointer (some ⟨b7, 1, none⟩), .agg #[iV s1.At.X, iV s1.At.Y, iV s1.At.Z], iV vt15, iV vt15, .bool false, uV, .pointer (some ⟨b7, 5, none⟩), .slice A2 s1.Wave.length c3, iV (s1.Wave.length : Int), .bool false, iV (s1.Wave.length : Int), .bool false, .bool false, iV (s1.Wave.length : Int), .bool false, .bool false, uV, uV, uV, .bool false, .bool false, iV (s1.Wave.length : Int), .bool false, .bool false, uV, uV, uV, uV, uV, uV, uV, uV, uV, uV, uV, uV, uV, uV, uV, .bool false, .bool false, .pointer (some ⟨b7, 5, none⟩), .slice A2 s1.Wave.length c3, .func (.func 67) #[] #[.pointer (some ⟨b7, 0, none⟩)], .bool false, .bool (decide ((mx s1.From s1.To) > 17592186044416)), .pointer (some ⟨b7, 7, none⟩), iV s1.From, .pointer (some ⟨b7, 8, none⟩), iV s1.To, iV (mn s1.From s1.To), .bool false, .bool false, .pointer (some ⟨b7, 7, none⟩), iV s1.From, .pointer (some ⟨b7, 8, none⟩), iV s1.To, iV (mx s1.From s1.To), .bool (decide ((mx s1.From s1.To) > 17592186044416)), .bool (decide ((mx s1.From s1.To) > 17592186044416)), uV, uV, uV, uV, uV, uV], []⟩) (by kernel_rfl) ?_
              refine wpList_nil ?_
              refine hK173 _ _ ?_
              have hq_ := ite_some h; clear h; rcases hq_ with ⟨c178, h⟩ | ⟨c178, h⟩
              · have c178 : (mx s1.From s1.To) > 17592186044416 := c178
                refine wpRwI 50 (x := (decide ((mx s1.From s1.To) > 17592186044416))) (v := true) (by kernel_rfl) (decide_eq_true c178) ?_
                refine wpRwI 63 (x := (decide ((mx s1.From s1.To) > 17592186044416))) (v := true) (by kernel_rfl) (decide_eq_true c178) ?_
                refine wpRwI 64 (x := (decide ((mx s1.From s1.To) > 17592186044416))) (v := true) (by kernel_rfl) (decide_eq_true c178) ?_
                refine condT (by kernel_rfl) ?_
                refine wp_seq_k (fun K179 hK180 => ?_)
                refine wp_region_lit ?_
                refine seqS1 (a' := ⟨#[.agg #[iV s1.ID, iV s1.At.X, iV s1.At.Y, iV s1.At.Z, iV s1.Rate, .slice A2 s1.Wave.length c3, iV s1.Period, iV s1.From, iV s1.To], .pointer (some ⟨b7, 0, none⟩), iV 4, iV vt15, iV (s1.Wave.length : Int), .pointer (some ⟨b7, 1, none⟩), .agg #[iV s1.At.X, iV s1.At.Y, iV s1.At.Z], iV vt15, iV vt15, .bool false, uV, .pointer (some ⟨b7, 5, none⟩), .slice A2 s1.Wave.length c3, iV (s1.Wave.length : Int), .bool false, iV (s1.Wave.length : Int), .bool false, .bool false, iV (s1.Wave.length : Int), .bool false, .bool false, uV, uV, uV, .bool false, .bool false, iV (s1.Wave.length : Int), .bool false, .bool false, uV, uV, uV, uV, uV, uV, uV, uV, uV, uV, uV, uV, uV, uV, uV, .bool false, .bool false, .pointer (some ⟨b7, 5, none⟩), .slice A2 s1.Wave.length c3, .func (.func 67) #[] #[.pointer (some ⟨b7, 0, none⟩)], .bool false, .bool true, .pointer (some ⟨b7, 7, none⟩), iV s1.From, .pointer (some ⟨b7, 8, none⟩), iV s1.To, iV (mn s1.From s1.To), .bool false, .bool false, .pointer (some ⟨b7, 7, none⟩), iV s1.From, .pointer (some ⟨b7, 8, none⟩), iV s1.To, iV (mx s1.From s1.To), .bool true, .bool true, uV, uV, uV, uV, uV, uV], []⟩) (by kernel_rfl) ?_
                refine wpList_nil ?_
                refine hK180 _ _ ?_
                refine wp_ret ?_
                refine hr34 _ _ ?_
                refine hret _ _ ?_
                refine ends_still (v := Value.int .i64 4) (by kernel_rfl) (by kernel_rfl) ?_
                have HS218 := HS167.drop
                injection h with h
                subst h
                exact ⟨f164, rfl, (L18.trans L165), HS218⟩
              · have c178 : ¬ ((mx s1.From s1.To) > 17592186044416) := c178
                refine wpRwI 50 (x := (decide ((mx s1.From s1.To) > 17592186044416))) (v := false) (by kernel_rfl) (decide_eq_false c178) ?_
                refine wpRwI 63 (x := (decide ((mx s1.From s1.To) > 17592186044416))) (v := false) (by kernel_rfl) (decide_eq_false c178) ?_
                refine wpRwI 64 (x := (decide ((mx s1.From s1.To) > 17592186044416))) (v := false) (by kernel_rfl) (decide_eq_false c178) ?_
                refine condF (by kernel_rfl) ?_
                refine wp_seq_k (fun K181 hK182 => ?_)
                refine wp_region_lit ?_
                refine seqL1 (by kernel_rfl) ?_
                refine seqK rfl (does_run (run_load rfl Try.underlying46 rfl (by kernel_rfl : _ = Value.pointer (some ⟨b7, 7, none⟩)) (HS167.cell 7)) ?_)
                refine seqL1 (by kernel_rfl) ?_
                refine seqK rfl (does_run (run_load rfl Try.underlying46 rfl (by kernel_rfl : _ = Value.pointer (some ⟨b7, 8, none⟩)) (HS167.cell 8)) ?_)
                refine seqS2 (a' := ⟨#[.agg #[iV s1.ID, iV s1.At.X, iV s1.At.Y, iV s1.At.Z, iV s1.Rate, .slice A2 s1.Wave.length c3, iV s1.Period, iV s1.From, iV s1.To], .pointer (some ⟨b7, 0, none⟩), iV 0, iV vt15, iV (s1.Wave.length : Int), .pointer (some ⟨b7, 1, none⟩), .agg #[iV s1.At.X, iV s1.At.Y, iV s1.At.Z], iV vt15, iV vt15, .bool false, uV, .pointer (some ⟨b7, 5, none⟩), .slice A2 s1.Wave.length c3, iV (s1.Wave.length : Int), .bool false, iV (s1.Wave.length : Int), .bool false, .bool false, iV (s1.Wave.length : Int), .bool false, .bool false, uV, uV, uV, .bool false, .bool false, iV (s1.Wave.length : Int), .bool false, .bool false, uV, uV, uV, uV, uV, uV, uV, uV, uV, uV, uV, uV, uV, uV, uV, .bool false, .bool false, .pointer (some ⟨b7, 5, none⟩), .slice A2 s1.Wave.length c3, .func (.func 67) #[] #[.pointer (some ⟨b7, 0, none⟩)], .bool false, .bool false, .pointer (some ⟨b7, 7, none⟩), iV s1.From, .pointer (some ⟨b7, 8, none⟩), iV s1.To, iV (mn s1.From s1.To), .bool false, .bool false, .pointer (some ⟨b7, 7, none⟩), iV s1.From, .pointer (some ⟨b7, 8, none⟩), iV s1.To, iV (mx s1.From s1.To), .bool false, .bool false, .bool (decide (s1.From > s1.To)), .pointer (some ⟨b7, 7, none⟩), iV s1.From, .pointer (some ⟨b7, 8, none⟩), iV s1.To, .bool (decide (s1.From > s1.To))], []⟩) (by kernel_rfl) ?_
                refine wpList_nil ?_
                refine hK182 _ _ ?_
                have hq_ := ite_some h; clear h; rcases hq_ with ⟨c184, h⟩ | ⟨c184, h⟩
                · have c184 : s1.From > s1.To := c184
                  refine wpRwI 65 (x := (decide (s1.From > s1.To))) (v := true) (by kernel_rfl) (decide_eq_true c184) ?_
                  refine wpRwI 70 (x := (decide (s1.From > s1.To))) (v := true) (by kernel_rfl) (decide_eq_true c184) ?_
                  refine condT (by kernel_rfl) ?_
                  refine wp_seq_k (fun K185 hK186 => ?_)
                  refine wp_region_lit ?_
                  refine seqS1 (a' := ⟨#[.agg #[iV s1.ID, iV s1.At.X, iV s1.At.Y, iV s1.At.Z, iV s1.Rate, .slice A2 s1.Wave.length c3, iV s1.Period, iV s1.From, iV s1.To], .pointer (some ⟨b7, 0, none⟩), iV 11, iV vt15, iV (s1.Wave.length : Int), .pointer (some ⟨b7, 1, none⟩), .agg #[iV s1.At.X, iV s1.At.Y, iV s1.At.Z], iV vt15, iV vt15, .bool false, uV, .pointer (some ⟨b7, 5, none⟩), .slice A2 s1.Wave.length c3, iV (s1.Wave.length : Int), .bool false, iV (s1.Wave.length : Int), .bool false, .bool false, iV (s1.Wave.length : Int), .bool false, .bool false, uV, uV, uV, .bool false, .bool false, iV (s1.Wave.length : Int), .bool false, .bool false, uV, uV, uV, uV, uV, uV, uV, uV, uV, uV, uV, uV, uV, uV, uV, .bool false, .bool false, .pointer (some ⟨b7, 5, none⟩), .slice A2 s1.Wave.length c3, .func (.func 67) #[] #[.pointer (some ⟨b7, 0, none⟩)], .bool false, .bool false, .pointer (some ⟨b7, 7, none⟩), iV s1.From, .pointer (some ⟨b7, 8, none⟩), iV s1.To, iV (mn s1.From s1.To), .bool false, .bool false, .pointer (some ⟨b7, 7, none⟩), iV s1.From, .pointer (some ⟨b7, 8, none⟩), iV s1.To, iV (mx s1.From s1.To), .bool false, .bool false, .bool true, .pointer (some ⟨b7, 7, none⟩), iV s1.From, .pointer (some ⟨b7, 8, none⟩), iV s1.To, .bool true], []⟩) (by kernel_rfl) ?_
                  refine wpList_nil ?_
                  refine hK186 _ _ ?_
                  refine wp_ret ?_
                  refine hr34 _ _ ?_
                  refine hret _ _ ?_
                  refine ends_still (v := Value.int .i64 11) (by kernel_rfl) (by kernel_rfl) ?_
                  have HS219 := HS167.drop
                  injection h with h
                  subst h
                  exact ⟨f164, rfl, (L18.trans L165), HS219⟩
                · have c184 : ¬ (s1.From > s1.To) := c184
                  refine wpRwI 65 (x := (decide (s1.From > s1.To))) (v := false) (by kernel_rfl) (decide_eq_false c184) ?_
                  refine wpRwI 70 (x := (decide (s1.From > s1.To))) (v := false) (by kernel_rfl) (decide_eq_false c184) ?_
                  refine condF (by kernel_rfl) ?_
                  refine wp_skip ?_
                  refine hn33 _ _ ?_
                  refine hK30 _ _ ?_
                  refine wp_seq_k (fun K193 hK194 => ?_)
                  refine wp_region_lit ?_
                  refine seqS1 (a' := ⟨#[.agg #[iV s1.ID, iV s1.At.X, iV s1.At.Y, iV s1.At.Z, iV s1.Rate, .slice A2 s1.Wave.length c3, iV s1.Period, iV s1.From, iV s1.To], .pointer (some ⟨b7, 0, none⟩), iV 0, iV vt15, iV (s1.Wave.length : Int), .pointer (some ⟨b7, 1, none⟩), .agg #[iV s1.At.X, iV s1.At.Y, iV s1.At.Z], iV vt15, iV vt15, .bool false, uV, .pointer (some ⟨b7, 5, none⟩), .slice A2 s1.Wave.length c3, iV (s1.Wave.length : Int), .bool false, iV (s1.Wave.length : Int), .bool false, .bool false, iV (s1.Wave.length : Int), .bool false, .bool false, uV, uV, uV, .bool false, .bool false, iV (s1.Wave.length : Int), .bool false, .bool false, uV, uV, uV, uV, uV, uV, uV, uV, uV, uV, uV, uV, uV, uV, uV, .bool false, .bool false, .pointer (some ⟨b7, 5, none⟩), .slice A2 s1.Wave.length c3, .func (.func 67) #[] #[.pointer (some ⟨b7, 0, none⟩)], .bool false, .bool false, .pointer (some ⟨b7, 7, none⟩), iV s1.From, .pointer (some ⟨b7, 8, none⟩), iV s1.To, iV (mn s1.From s1.To), .bool false, .bool false, .pointer (some ⟨b7, 7, none⟩), iV s1.From, .pointer (some ⟨b7, 8, none⟩), iV s1.To, iV (mx s1.From s1.To), .bool false, .bool false, .bool false, .pointer (some ⟨b7, 7, none⟩), iV s1.From, .pointer (some ⟨b7, 8, none⟩), iV s1.To, .bool false], []⟩) (by kernel_rfl) ?_
                  refine wpList_nil ?_
                  refine hK194 _ _ ?_
                  refine wp_ret ?_
                  refine hret _ _ ?_
                  refine ends_still (v := Value.int .i64 0) (by kernel_rfl) (by kernel_rfl) ?_
                  have HS223 := HS167.drop
                  injection h with h
                  subst h
                  exact ⟨f164, rfl, (L18.trans L165), HS223⟩

set_option maxRecDepth 100000 in
set_option maxHeartbeats 4000000 in
theorem sky_galaxy.calls (k : Nat)  (vg1 : S_Galaxy) {t w : World} {f : FM} {H : List Seg} (HS : St t w f (H)) (r1 : Int) (h : sky_galaxy k vg1 = some r1) :
    Calls Try.prog 62 #[.agg #[.int .i64 vg1.ID, .int .i64 vg1.At.X, .int .i64 vg1.At.Y, .int .i64 vg1.At.Z, .int .i64 vg1.Rate, .int .i64 vg1.Wide, .int .i64 vg1.High]] w (fun e w' => ∃ (g : FM), e = .returned (Value.int .i64 r1) ∧ FM.le f g ∧ St t w' g (H)) := by
  unfold sky_galaxy at h
  refine enter Try.func62 rfl (tm := #[.agg #[iV vg1.ID, iV vg1.At.X, iV vg1.At.Y, iV vg1.At.Z, iV vg1.Rate, iV vg1.Wide, iV vg1.High], uV, uV, uV, uV, uV, uV, uV, uV, uV, uV, uV, uV, uV, uV, uV, uV, uV, uV, uV, uV, uV, uV, uV, uV, uV, uV, uV, uV, uV, uV]) (by kernel_rfl) ?_
  intro B hret hnor hnp
  refine wp_seq_k (fun K2 hK3 => ?_)
  refine wp_region_lit ?_
  refine seqK rfl (does_box (cs := #[.int .i64 vg1.ID, .int .i64 vg1.At.X, .int .i64 vg1.At.Y, .int .i64 vg1.At.Z, .int .i64 vg1.Rate, .int .i64 vg1.Wide, .int .i64 vg1.High]) rfl (by kernel_rfl : _ = Value.agg #[.int .i64 vg1.ID, .int .i64 vg1.At.X, .int .i64 vg1.At.Y, .int .i64 vg1.At.Z, .int .i64 vg1.Rate, .int .i64 vg1.Wide, .int .i64 vg1.High]) rfl HS ?_)
  intro b4 W5 HS6
  refine seqS1 (a' := ⟨#[.agg #[iV vg1.ID, iV vg1.At.X, iV vg1.At.Y, iV vg1.At.Z, iV vg1.Rate, iV vg1.Wide, iV vg1.High], .pointer (some ⟨b4, 0, none⟩), iV 0, uV, uV, uV, uV, uV, uV, uV, uV, uV, uV, uV, uV, uV, uV, uV, uV, uV, uV, uV, uV, uV, uV, uV, uV, uV, uV, uV, uV], []⟩) (by kernel_rfl) ?_
  refine wpList_nil ?_
  refine hK3 _ _ ?_
  refine wp_seq_k (fun K8 hK9 => ?_)
  refine wp_seq_k (fun K10 hK11 => ?_)
  refine wp_region_lit ?_
  refine seqL1 (by kernel_rfl) ?_
  refine seqK rfl (does_run (run_loadN (n := 3) rfl Try.underlying23 rfl (by kernel_rfl) (by kernel_rfl : _ = Value.pointer (some ⟨b4, 1, none⟩)) (cs := [.int .i64 vg1.At.X, .int .i64 vg1.At.Y, .int .i64 vg1.At.Z]) rfl (HS6.cells 1 3 _ rfl)) ?_)
  have hq_ := bind_some h; clear h; obtain ⟨vt12, hc13, h⟩ := hq_
  refine seqK rfl (does_call (f := 65) (args := #[.agg #[.int .i64 vg1.At.X, .int .i64 vg1.At.Y, .int .i64 vg1.At.Z]]) (by kernel_rfl) (sphere_Check.calls k vg1.At HS6 vt12 hc13) ?_)
  rintro _ W16 ⟨f14, rfl, L15, HS17⟩
  refine ⟨_, rfl, ?_⟩
  refine seqS1 (a' := ⟨#[.agg #[iV vg1.ID, iV vg1.At.X, iV vg1.At.Y, iV vg1.At.Z, iV vg1.Rate, iV vg1.Wide, iV vg1.High], .pointer (some ⟨b4, 0, none⟩), iV 0, iV vt12, uV, uV, .pointer (some ⟨b4, 1, none⟩), .agg #[iV vg1.At.X, iV vg1.At.Y, iV vg1.At.Z], iV vt12, uV, uV, uV, uV, uV, uV, uV, uV, uV, uV, uV, uV, uV, uV, uV, uV, uV, uV, uV, uV, uV, uV], []⟩) (by kernel_rfl) ?_
  refine wpList_nil ?_
  refine hK11 _ _ ?_
  refine wp_seq_k (fun K18 hK19 => ?_)
  refine wp_region_lit ?_
  refine seqS2 (a' := ⟨#[.agg #[iV vg1.ID, iV vg1.At.X, iV vg1.At.Y, iV vg1.At.Z, iV vg1.Rate, iV vg1.Wide, iV vg1.High], .pointer (some ⟨b4, 0, none⟩), iV 0, iV vt12, uV, uV, .pointer (some ⟨b4, 1, none⟩), .agg #[iV vg1.At.X, iV vg1.At.Y, iV vg1.At.Z], iV vt12, iV vt12, .bool (vt12 != 0), uV, uV, uV, uV, uV, uV, uV, uV, uV, uV, uV, uV, uV, uV, uV, uV, uV, uV, uV, uV], []⟩) (by kernel_rfl) ?_
  refine wpList_nil ?_
  refine hK19 _ _ ?_
  have hq_ := ite_some h; clear h; rcases hq_ with ⟨c21, h⟩ | ⟨c21, h⟩
  · have c21 : vt12 ≠ 0 := c21
    refine wpRwI 10 (x := (vt12 != 0)) (v := true) (by kernel_rfl) (bne_iff_ne.mpr c21) ?_
    refine condT (by kernel_rfl) ?_
    refine wp_seq_k (fun K22 hK23 => ?_)
    refine wp_region_lit ?_
    refine seqS2 (a' := ⟨#[.agg #[iV vg1.ID, iV vg1.At.X, iV vg1.At.Y, iV vg1.At.Z, iV vg1.Rate, iV vg1.Wide, iV vg1.High], .pointer (some ⟨b4, 0, none⟩), iV vt12, iV vt12, uV, uV, .pointer (some ⟨b4, 1, none⟩), .agg #[iV vg1.At.X, iV vg1.At.Y, iV vg1.At.Z], iV vt12, iV vt12, .bool true, iV vt12, uV, uV, uV, uV, uV, uV, uV, uV, uV, uV, uV, uV, uV, uV, uV, uV, uV, uV, uV], []⟩) (by kernel_rfl) ?_
    refine wpList_nil ?_
    refine hK23 _ _ ?_
    refine wp_ret ?_
    refine hret _ _ ?_
    refine ends_still (v := Value.int .i64 vt12) (by kernel_rfl) (by kernel_rfl) ?_
    have HS81 := HS17.drop
    injection h with h
    subst h
    exact ⟨f14, rfl, L15, HS81⟩
  · have c21 : ¬ (vt12 ≠ 0) := c21
    refine wpRwI 10 (x := (vt12 != 0)) (v := false) (by kernel_rfl) (bne_eq_false_iff_eq.mpr (Decidable.of_not_not c21)) ?_
    refine condF (by kernel_rfl) ?_
    refine wp_skip ?_
    refine hK9 _ _ ?_
    refine wp_seq_k (fun K24 hK25 => ?_)
    refine wp_seq_k (fun K26 hK27 => ?_)
    refine wp_region_lit ?_
    refine seqL1 (by kernel_rfl) ?_
    refine seqK rfl (does_run (run_load rfl Try.underlying3 rfl (by kernel_rfl : _ = Value.pointer (some ⟨b4, 5, none⟩)) (HS17.cell 5)) ?_)
    refine seqL1 (by kernel_rfl) ?_
    refine seqK rfl (does_run (run_load rfl Try.underlying3 rfl (by kernel_rfl : _ = Value.pointer (some ⟨b4, 6, none⟩)) (HS17.cell 6)) ?_)
    refine seqS2 (a' := ⟨#[.agg #[iV vg1.ID, iV vg1.At.X, iV vg1.At.Y, iV vg1.At.Z, iV vg1.Rate, iV vg1.Wide, iV vg1.High], .pointer (some ⟨b4, 0, none⟩), iV 0, iV vt12, uV, uV, .pointer (some ⟨b4, 1, none⟩), .agg #[iV vg1.At.X, iV vg1.At.Y, iV vg1.At.Z], iV vt12, iV vt12, .bool false, uV, .pointer (some ⟨b4, 5, none⟩), iV vg1.Wide, .pointer (some ⟨b4, 6, none⟩), iV vg1.High, .agg #[iV vg1.Wide, iV vg1.High], iV 0, uV, uV, uV, uV, uV, uV, uV, uV, uV, uV, uV, uV, uV], []⟩) (by kernel_rfl) ?_
    refine wpList_nil ?_
    refine hK27 _ _ ?_
    refine blockK (fun B28 hx29 hn30 hr31 ho32 hp33 => ?_)
    have hq_ := bind_some h; clear h; obtain ⟨o34, hv75, h⟩ := hq_
    have JR77 : ∀ z_, some (Sum.inl z_) = some o34 → some z_ = some r1 := by
      intro z_ e_; injection e_ with e_; subst e_; exact h
    have J76 : ∀ (f70 : FM) (j74 : Nat → Value) (W72 : World) (a_ : Act), FM.le f14 f70 → some (Sum.inr ()) = some o34 → St t W72 f70 ([(b4, .cells #[.int .i64 vg1.ID, .int .i64 vg1.At.X, .int .i64 vg1.At.Y, .int .i64 vg1.At.Z, .int .i64 vg1.Rate, .int .i64 vg1.Wide, .int .i64 vg1.High] 93 (0, 0))] :: H) → a_ = ⟨#[.agg #[iV vg1.ID, iV vg1.At.X, iV vg1.At.Y, iV vg1.At.Z, iV vg1.Rate, iV vg1.Wide, iV vg1.High], .pointer (some ⟨b4, 0, none⟩), (j74 0), iV vt12, uV, (j74 1), .pointer (some ⟨b4, 1, none⟩), .agg #[iV vg1.At.X, iV vg1.At.Y, iV vg1.At.Z], iV vt12, iV vt12, .bool false, uV, .pointer (some ⟨b4, 5, none⟩), iV vg1.Wide, .pointer (some ⟨b4, 6, none⟩), iV vg1.High, .agg #[iV vg1.Wide, iV vg1.High], (j74 2), (j74 3), (j74 4), (j74 5), (j74 6), (j74 7), (j74 8), (j74 9), (j74 10), (j74 11), (j74 12), (j74 13), (j74 14), (j74 15)], []⟩ → K24 a_ W72 := by
      intro f70 j74 W72 a_ L71 hj78 HS73  hfr_; subst hfr_
      injection hj78 with hj78; subst hj78; try dsimp only at h
      simp only [Sum.elim_inr] at h
      refine hK25 _ _ ?_
      refine wp_seq_k (fun K79 hK80 => ?_)
      refine wp_region_lit ?_
      refine seqS1 (a' := ⟨#[.agg #[iV vg1.ID, iV vg1.At.X, iV vg1.At.Y, iV vg1.At.Z, iV vg1.Rate, iV vg1.Wide, iV vg1.High], .pointer (some ⟨b4, 0, none⟩), iV 0, iV vt12, uV, (j74 1), .pointer (some ⟨b4, 1, none⟩), .agg #[iV vg1.At.X, iV vg1.At.Y, iV vg1.At.Z], iV vt12, iV vt12, .bool false, uV, .pointer (some ⟨b4, 5, none⟩), iV vg1.Wide, .pointer (some ⟨b4, 6, none⟩), iV vg1.High, .agg #[iV vg1.Wide, iV vg1.High], (j74 2), (j74 3), (j74 4), (j74 5), (j74 6), (j74 7), (j74 8), (j74 9), (j74 10), (j74 11), (j74 12), (j74 13), (j74 14), (j74 15)], []⟩) (by kernel_rfl) ?_
      refine wpList_nil ?_
      refine hK80 _ _ ?_
      refine wp_ret ?_
      refine hret _ _ ?_
      refine ends_still (v := Value.int .i64 0) (by kernel_rfl) (by kernel_rfl) ?_
      have HS83 := HS73.drop
      injection h with h
      subst h
      exact ⟨f70, rfl, (L15.trans L71), HS83⟩
    clear h; have h := hv75; clear hv75
    refine loopK (fun n_ a_ w_ => ∃ (f38 : FM) (x43 : Int) (j42 : Nat → Value), FM.le f14 f38 ∧ St t w_ f38 ([(b4, .cells #[.int .i64 vg1.ID, .int .i64 vg1.At.X, .int .i64 vg1.At.Y, .int .i64 vg1.At.Z, .int .i64 vg1.Rate, .int .i64 vg1.Wide, .int .i64 vg1.High] 93 (0, 0))] :: H) ∧ sky_galaxy.l0 k vg1 n_ x43 = some o34 ∧ a_ = ⟨#[.agg #[iV vg1.ID, iV vg1.At.X, iV vg1.At.Y, iV vg1.At.Z, iV vg1.Rate, iV vg1.Wide, iV vg1.High], .pointer (some ⟨b4, 0, none⟩), (j42 0), iV vt12, uV, (j42 1), .pointer (some ⟨b4, 1, none⟩), .agg #[iV vg1.At.X, iV vg1.At.Y, iV vg1.At.Z], iV vt12, iV vt12, .bool false, uV, .pointer (some ⟨b4, 5, none⟩), iV vg1.Wide, .pointer (some ⟨b4, 6, none⟩), iV vg1.High, .agg #[iV vg1.Wide, iV vg1.High], iV x43, (j42 2), (j42 3), (j42 4), (j42 5), (j42 6), (j42 7), (j42 8), (j42 9), (j42 10), (j42 11), (j42 12), (j42 13), (j42 14)], []⟩) k ⟨f14, 0, (fun i_ => [Value.int .i64 0, undef, undef, undef, undef, undef, undef, undef, undef, undef, undef, undef, undef, undef, undef].getD i_ undef), (FM.le.refl _), HS17, h, (by kernel_rfl)⟩ ?_
    clear h
    rintro n37 _ W40 ⟨f38, x43, j42, L39, HS41, h, rfl⟩ K35 hK36
    obtain _ | n37 := n37
    · exact nomatch h
    simp only [sky_galaxy.l0] at h
    refine wp_seq_k (fun K44 hK45 => ?_)
    refine wp_region_lit ?_
    refine seqS1 (a' := ⟨#[.agg #[iV vg1.ID, iV vg1.At.X, iV vg1.At.Y, iV vg1.At.Z, iV vg1.Rate, iV vg1.Wide, iV vg1.High], .pointer (some ⟨b4, 0, none⟩), (j42 0), iV vt12, uV, (j42 1), .pointer (some ⟨b4, 1, none⟩), .agg #[iV vg1.At.X, iV vg1.At.Y, iV vg1.At.Z], iV vt12, iV vt12, .bool false, uV, .pointer (some ⟨b4, 5, none⟩), iV vg1.Wide, .pointer (some ⟨b4, 6, none⟩), iV vg1.High, .agg #[iV vg1.Wide, iV vg1.High], iV x43, .bool (decide (x43 < 2)), (j42 3), (j42 4), (j42 5), (j42 6), (j42 7), (j42 8), (j42 9), (j42 10), (j42 11), (j42 12), (j42 13), (j42 14)], []⟩) (by kernel_rfl) ?_
    refine wpList_nil ?_
    refine hK45 _ _ ?_
    refine wp_seq_k (fun K46 hK47 => ?_)
    have hq_ := ite_some h; clear h; rcases hq_ with ⟨c49, h⟩ | ⟨c49, h⟩
    · have c49 : x43 < 2 := c49
      refine wpRwI 18 (x := (decide (x43 < 2))) (v := true) (by kernel_rfl) (decide_eq_true c49) ?_
      refine condT (by kernel_rfl) ?_
      refine wp_skip ?_
      refine hK47 _ _ ?_
      refine wp_seq_k (fun K50 hK51 => ?_)
      refine blockK (fun B52 hx53 hn54 hr55 ho56 hp57 => ?_)
      refine wp_seq_k (fun K59 hK60 => ?_)
      refine wp_region_lit ?_
      have hq_ := guard_some h; clear h; obtain ⟨c61, h⟩ := hq_
      have c61 : 0 ≤ x43 := c61
      refine seqK rfl (does_run (run_arr_int rfl Try.underlying120 (by kernel_rfl) Try.underlying3 (by kernel_rfl : _ = Value.agg #[.int .i64 vg1.Wide, .int .i64 vg1.High]) (by kernel_rfl : _ = Value.int .i64 x43) (xs := [vg1.Wide, vg1.High]) rfl c61 c49 rfl W40) ?_)
      refine seqS1 (a' := ⟨#[.agg #[iV vg1.ID, iV vg1.At.X, iV vg1.At.Y, iV vg1.At.Z, iV vg1.Rate, iV vg1.Wide, iV vg1.High], .pointer (some ⟨b4, 0, none⟩), (j42 0), iV vt12, uV, iV (rd [vg1.Wide, vg1.High] x43), .pointer (some ⟨b4, 1, none⟩), .agg #[iV vg1.At.X, iV vg1.At.Y, iV vg1.At.Z], iV vt12, iV vt12, .bool false, uV, .pointer (some ⟨b4, 5, none⟩), iV vg1.Wide, .pointer (some ⟨b4, 6, none⟩), iV vg1.High, .agg #[iV vg1.Wide, iV vg1.High], iV x43, .bool true, iV (rd [vg1.Wide, vg1.High] x43), (j42 4), (j42 5), (j42 6), (j42 7), (j42 8), (j42 9), (j42 10), (j42 11), (j42 12), (j42 13), (j42 14)], []⟩) (by kernel_rfl) ?_
      refine wpList_nil ?_
      refine hK60 _ _ ?_
      refine wp_seq_k (fun K62 hK63 => ?_)
      refine wp_region_lit ?_
      refine seqS3 (a' := ⟨#[.agg #[iV vg1.ID, iV vg1.At.X, iV vg1.At.Y, iV vg1.At.Z, iV vg1.Rate, iV vg1.Wide, iV vg1.High], .pointer (some ⟨b4, 0, none⟩), (j42 0), iV vt12, uV, iV (rd [vg1.Wide, vg1.High] x43), .pointer (some ⟨b4, 1, none⟩), .agg #[iV vg1.At.X, iV vg1.At.Y, iV vg1.At.Z], iV vt12, iV vt12, .bool false, uV, .pointer (some ⟨b4, 5, none⟩), iV vg1.Wide, .pointer (some ⟨b4, 6, none⟩), iV vg1.High, .agg #[iV vg1.Wide, iV vg1.High], iV x43, .bool true, iV (rd [vg1.Wide, vg1.High] x43), iV (rd [vg1.Wide, vg1.High] x43), .bool ((rd [vg1.Wide, vg1.High] x43) != 1), .bool ((rd [vg1.Wide, vg1.High] x43) != 1), (j42 7), (j42 8), (j42 9), (j42 10), (j42 11), (j42 12), (j42 13), (j42 14)], []⟩) (by kernel_rfl) ?_
      have hq_ := ite_some h; clear h; rcases hq_ with ⟨c64, h⟩ | ⟨c64, h⟩
      · have c64 : (rd [vg1.Wide, vg1.High] x43) ≠ 1 := c64
        refine seqRwI 21 (x := ((rd [vg1.Wide, vg1.High] x43) != 1)) (v := true) (by kernel_rfl) (bne_iff_ne.mpr c64) ?_
        refine seqRwI 22 (x := ((rd [vg1.Wide, vg1.High] x43) != 1)) (v := true) (by kernel_rfl) (bne_iff_ne.mpr c64) ?_
        refine seqS4 (a' := ⟨#[.agg #[iV vg1.ID, iV vg1.At.X, iV vg1.At.Y, iV vg1.At.Z, iV vg1.Rate, iV vg1.Wide, iV vg1.High], .pointer (some ⟨b4, 0, none⟩), (j42 0), iV vt12, uV, iV (rd [vg1.Wide, vg1.High] x43), .pointer (some ⟨b4, 1, none⟩), .agg #[iV vg1.At.X, iV vg1.At.Y, iV vg1.At.Z], iV vt12, iV vt12, .bool false, uV, .pointer (some ⟨b4, 5, none⟩), iV vg1.Wide, .pointer (some ⟨b4, 6, none⟩), iV vg1.High, .agg #[iV vg1.Wide, iV vg1.High], iV x43, .bool true, iV (rd [vg1.Wide, vg1.High] x43), iV (rd [vg1.Wide, vg1.High] x43), .bool true, .bool true, iV (rd [vg1.Wide, vg1.High] x43), .bool ((rd [vg1.Wide, vg1.High] x43) != 2), .bool ((rd [vg1.Wide, vg1.High] x43) != 2), .bool ((rd [vg1.Wide, vg1.High] x43) != 2), (j42 11), (j42 12), (j42 13), (j42 14)], []⟩) (by kernel_rfl) ?_
        have hq_ := ite_some h; clear h; rcases hq_ with ⟨c65, h⟩ | ⟨c65, h⟩
        · have c65 : (rd [vg1.Wide, vg1.High] x43) ≠ 2 := c65
          refine seqRwI 24 (x := ((rd [vg1.Wide, vg1.High] x43) != 2)) (v := true) (by kernel_rfl) (bne_iff_ne.mpr c65) ?_
          refine seqRwI 25 (x := ((rd [vg1.Wide, vg1.High] x43) != 2)) (v := true) (by kernel_rfl) (bne_iff_ne.mpr c65) ?_
          refine seqRwI 26 (x := ((rd [vg1.Wide, vg1.High] x43) != 2)) (v := true) (by kernel_rfl) (bne_iff_ne.mpr c65) ?_
          refine seqS3 (a' := ⟨#[.agg #[iV vg1.ID, iV vg1.At.X, iV vg1.At.Y, iV vg1.At.Z, iV vg1.Rate, iV vg1.Wide, iV vg1.High], .pointer (some ⟨b4, 0, none⟩), (j42 0), iV vt12, uV, iV (rd [vg1.Wide, vg1.High] x43), .pointer (some ⟨b4, 1, none⟩), .agg #[iV vg1.At.X, iV vg1.At.Y, iV vg1.At.Z], iV vt12, iV vt12, .bool false, uV, .pointer (some ⟨b4, 5, none⟩), iV vg1.Wide, .pointer (some ⟨b4, 6, none⟩), iV vg1.High, .agg #[iV vg1.Wide, iV vg1.High], iV x43, .bool true, iV (rd [vg1.Wide, vg1.High] x43), iV (rd [vg1.Wide, vg1.High] x43), .bool true, .bool true, iV (rd [vg1.Wide, vg1.High] x43), .bool true, .bool true, .bool true, iV (rd [vg1.Wide, vg1.High] x43), .bool ((rd [vg1.Wide, vg1.High] x43) != 4), .bool ((rd [vg1.Wide, vg1.High] x43) != 4), (j42 14)], []⟩) (by kernel_rfl) ?_
          refine wpList_nil ?_
          refine hK63 _ _ ?_
          have hq_ := ite_some h; clear h; rcases hq_ with ⟨c67, h⟩ | ⟨c67, h⟩
          · have c67 : (rd [vg1.Wide, vg1.High] x43) ≠ 4 := c67
            refine wpRwI 28 (x := ((rd [vg1.Wide, vg1.High] x43) != 4)) (v := true) (by kernel_rfl) (bne_iff_ne.mpr c67) ?_
            refine wpRwI 29 (x := ((rd [vg1.Wide, vg1.High] x43) != 4)) (v := true) (by kernel_rfl) (bne_iff_ne.mpr c67) ?_
            refine condT (by kernel_rfl) ?_
            refine wp_seq_k (fun K68 hK69 => ?_)
            refine wp_region_lit ?_
            refine seqS1 (a' := ⟨#[.agg #[iV vg1.ID, iV vg1.At.X, iV vg1.At.Y, iV vg1.At.Z, iV vg1.Rate, iV vg1.Wide, iV vg1.High], .pointer (some ⟨b4, 0, none⟩), iV 4, iV vt12, uV, iV (rd [vg1.Wide, vg1.High] x43), .pointer (some ⟨b4, 1, none⟩), .agg #[iV vg1.At.X, iV vg1.At.Y, iV vg1.At.Z], iV vt12, iV vt12, .bool false, uV, .pointer (some ⟨b4, 5, none⟩), iV vg1.Wide, .pointer (some ⟨b4, 6, none⟩), iV vg1.High, .agg #[iV vg1.Wide, iV vg1.High], iV x43, .bool true, iV (rd [vg1.Wide, vg1.High] x43), iV (rd [vg1.Wide, vg1.High] x43), .bool true, .bool true, iV (rd [vg1.Wide, vg1.High] x43), .bool true, .bool true, .bool true, iV (rd [vg1.Wide, vg1.High] x43), .bool true, .bool true, (j42 14)], []⟩) (by kernel_rfl) ?_
            refine wpList_nil ?_
            refine hK69 _ _ ?_
            refine wp_ret ?_
            refine hr55 _ _ ?_
            refine hr31 _ _ ?_
            refine hret _ _ ?_
            refine ends_still (v := Value.int .i64 4) (by kernel_rfl) (by kernel_rfl) ?_
            have HS82 := HS41.drop
            replace h := JR77 _ h
            injection h with h
            subst h
            exact ⟨f38, rfl, (L15.trans L39), HS82⟩
          · have c67 : ¬ ((rd [vg1.Wide, vg1.High] x43) ≠ 4) := c67
            refine wpRwI 28 (x := ((rd [vg1.Wide, vg1.High] x43) != 4)) (v := false) (by kernel_rfl) (bne_eq_false_iff_eq.mpr (Decidable.of_not_not c67)) ?_
            refine wpRwI 29 (x := ((rd [vg1.Wide, vg1.High] x43) != 4)) (v := false) (by kernel_rfl) (bne_eq_false_iff_eq.mpr (Decidable.of_not_not c67)) ?_
            refine condF (by kernel_rfl) ?_
            refine wp_skip ?_
            refine hn54 _ _ ?_
            refine hK51 _ _ ?_
            refine wp_region_lit ?_
            refine seqS2 (a' := ⟨#[.agg #[iV vg1.ID, iV vg1.At.X, iV vg1.At.Y, iV vg1.At.Z, iV vg1.Rate, iV vg1.Wide, iV vg1.High], .pointer (some ⟨b4, 0, none⟩), (j42 0), iV vt12, uV, iV (rd [vg1.Wide, vg1.High] x43), .pointer (some ⟨b4, 1, none⟩), .agg #[iV vg1.At.X, iV vg1.At.Y, iV vg1.At.Z], iV vt12, iV vt12, .bool false, uV, .pointer (some ⟨b4, 5, none⟩), iV vg1.Wide, .pointer (some ⟨b4, 6, none⟩), iV vg1.High, .agg #[iV vg1.Wide, iV vg1.High], iV (w64 (x43 + 1)), .bool true, iV (rd [vg1.Wide, vg1.High] x43), iV (rd [vg1.Wide, vg1.High] x43), .bool true, .bool true, iV (rd [vg1.Wide, vg1.High] x43), .bool true, .bool true, .bool true, iV (rd [vg1.Wide, vg1.High] x43), .bool false, .bool false, iV (w64 (x43 + 1))], []⟩) (by kernel_rfl) ?_
            refine wpList_nil ?_
            refine hK36 n37 _ _ (Nat.lt_succ_self _) ?_
            exact ⟨f38, (w64 (x43 + 1)), (fun i_ => [(j42 0), Value.int .i64 (rd [vg1.Wide, vg1.High] x43), Value.bool true, Value.int .i64 (rd [vg1.Wide, vg1.High] x43), Value.int .i64 (rd [vg1.Wide, vg1.High] x43), Value.bool true, Value.bool true, Value.int .i64 (rd [vg1.Wide, vg1.High] x43), Value.bool true, Value.bool true, Value.bool true, Value.int .i64 (rd [vg1.Wide, vg1.High] x43), Value.bool false, Value.bool false, Value.int .i64 (w64 (x43 + 1))].getD i_ undef), L39, HS41, h, (by kernel_rfl)⟩
        · have c65 : ¬ ((rd [vg1.Wide, vg1.High] x43) ≠ 2) := c65
          refine seqRwI 24 (x := ((rd [vg1.Wide, vg1.High] x43) != 2)) (v := false) (by kernel_rfl) (bne_eq_false_iff_eq.mpr (Decidable.of_not_not c65)) ?_
          refine seqRwI 25 (x := ((rd [vg1.Wide, vg1.High] x43) != 2)) (v := false) (by kernel_rfl) (bne_eq_false_iff_eq.mpr (Decidable.of_not_not c65)) ?_
          refine seqRwI 26 (x := ((rd [vg1.Wide, vg1.High] x43) != 2)) (v := false) (by kernel_rfl) (bne_eq_false_iff_eq.mpr (Decidable.of_not_not c65)) ?_
          refine seqS3 (a' := ⟨#[.agg #[iV vg1.ID, iV vg1.At.X, iV vg1.At.Y, iV vg1.At.Z, iV vg1.Rate, iV vg1.Wide, iV vg1.High], .pointer (some ⟨b4, 0, none⟩), (j42 0), iV vt12, uV, iV (rd [vg1.Wide, vg1.High] x43), .pointer (some ⟨b4, 1, none⟩), .agg #[iV vg1.At.X, iV vg1.At.Y, iV vg1.At.Z], iV vt12, iV vt12, .bool false, uV, .pointer (some ⟨b4, 5, none⟩), iV vg1.Wide, .pointer (some ⟨b4, 6, none⟩), iV vg1.High, .agg #[iV vg1.Wide, iV vg1.High], iV x43, .bool true, iV (rd [vg1.Wide, vg1.High] x43), iV (rd [vg1.Wide, vg1.High] x43), .bool true, .bool true, iV (rd [vg1.Wide, vg1.High] x43), .bool false, .bool false, .bool false, uV, uV, .bool false, (j42 14)], []⟩) (by kernel_rfl) ?_
          refine wpList_nil ?_
          refine hK63 _ _ ?_
          refine condF (by kernel_rfl) ?_
          refine wp_skip ?_
          refine hn54 _ _ ?_
          refine hK51 _ _ ?_
          refine wp_region_lit ?_
          refine seqS2 (a' := ⟨#[.agg #[iV vg1.ID, iV vg1.At.X, iV vg1.At.Y, iV vg1.At.Z, iV vg1.Rate, iV vg1.Wide, iV vg1.High], .pointer (some ⟨b4, 0, none⟩), (j42 0), iV vt12, uV, iV (rd [vg1.Wide, vg1.High] x43), .pointer (some ⟨b4, 1, none⟩), .agg #[iV vg1.At.X, iV vg1.At.Y, iV vg1.At.Z], iV vt12, iV vt12, .bool false, uV, .pointer (some ⟨b4, 5, none⟩), iV vg1.Wide, .pointer (some ⟨b4, 6, none⟩), iV vg1.High, .agg #[iV vg1.Wide, iV vg1.High], iV (w64 (x43 + 1)), .bool true, iV (rd [vg1.Wide, vg1.High] x43), iV (rd [vg1.Wide, vg1.High] x43), .bool true, .bool true, iV (rd [vg1.Wide, vg1.High] x43), .bool false, .bool false, .bool false, uV, uV, .bool false, iV (w64 (x43 + 1))], []⟩) (by kernel_rfl) ?_
          refine wpList_nil ?_
          refine hK36 n37 _ _ (Nat.lt_succ_self _) ?_
          exact ⟨f38, (w64 (x43 + 1)), (fun i_ => [(j42 0), Value.int .i64 (rd [vg1.Wide, vg1.High] x43), Value.bool true, Value.int .i64 (rd [vg1.Wide, vg1.High] x43), Value.int .i64 (rd [vg1.Wide, vg1.High] x43), Value.bool true, Value.bool true, Value.int .i64 (rd [vg1.Wide, vg1.High] x43), Value.bool false, Value.bool false, Value.bool false, undef, undef, Value.bool false, Value.int .i64 (w64 (x43 + 1))].getD i_ undef), L39, HS41, h, (by kernel_rfl)⟩
      · have c64 : ¬ ((rd [vg1.Wide, vg1.High] x43) ≠ 1) := c64
        refine seqRwI 21 (x := ((rd [vg1.Wide, vg1.High] x43) != 1)) (v := false) (by kernel_rfl) (bne_eq_false_iff_eq.mpr (Decidable.of_not_not c64)) ?_
        refine seqRwI 22 (x := ((rd [vg1.Wide, vg1.High] x43) != 1)) (v := false) (by kernel_rfl) (bne_eq_false_iff_eq.mpr (Decidable.of_not_not c64)) ?_
        refine seqS7 (a' := ⟨#[.agg #[iV vg1.ID, iV vg1.At.X, iV vg1.At.Y, iV vg1.At.Z, iV vg1.Rate, iV vg1.Wide, iV vg1.High], .pointer (some ⟨b4, 0, none⟩), (j42 0), iV vt12, uV, iV (rd [vg1.Wide, vg1.High] x43), .pointer (some ⟨b4, 1, none⟩), .agg #[iV vg1.At.X, iV vg1.At.Y, iV vg1.At.Z], iV vt12, iV vt12, .bool false, uV, .pointer (some ⟨b4, 5, none⟩), iV vg1.Wide, .pointer (some ⟨b4, 6, none⟩), iV vg1.High, .agg #[iV vg1.Wide, iV vg1.High], iV x43, .bool true, iV (rd [vg1.Wide, vg1.High] x43), iV (rd [vg1.Wide, vg1.High] x43), .bool false, .bool false, uV, uV, .bool false, .bool false, uV, uV, .bool false, (j42 14)], []⟩) (by kernel_rfl) ?_
        refine wpList_nil ?_
        refine hK63 _ _ ?_
        refine condF (by kernel_rfl) ?_
        refine wp_skip ?_
        refine hn54 _ _ ?_
        refine hK51 _ _ ?_
        refine wp_region_lit ?_
        refine seqS2 (a' := ⟨#[.agg #[iV vg1.ID, iV vg1.At.X, iV vg1.At.Y, iV vg1.At.Z, iV vg1.Rate, iV vg1.Wide, iV vg1.High], .pointer (some ⟨b4, 0, none⟩), (j42 0), iV vt12, uV, iV (rd [vg1.Wide, vg1.High] x43), .pointer (some ⟨b4, 1, none⟩), .agg #[iV vg1.At.X, iV vg1.At.Y, iV vg1.At.Z], iV vt12, iV vt12, .bool false, uV, .pointer (some ⟨b4, 5, none⟩), iV vg1.Wide, .pointer (some ⟨b4, 6, none⟩), iV vg1.High, .agg #[iV vg1.Wide, iV vg1.High], iV (w64 (x43 + 1)), .bool true, iV (rd [vg1.Wide, vg1.High] x43), iV (rd [vg1.Wide, vg1.High] x43), .bool false, .bool false, uV, uV, .bool false, .bool false, uV, uV, .bool false, iV (w64 (x43 + 1))], []⟩) (by kernel_rfl) ?_
        refine wpList_nil ?_
        refine hK36 n37 _ _ (Nat.lt_succ_self _) ?_
        exact ⟨f38, (w64 (x43 + 1)), (fun i_ => [(j42 0), Value.int .i64 (rd [vg1.Wide, vg1.High] x43), Value.bool true, Value.int .i64 (rd [vg1.Wide, vg1.High] x43), Value.int .i64 (rd [vg1.Wide, vg1.High] x43), Value.bool false, Value.bool false, undef, undef, Value.bool false, Value.bool false, undef, undef, Value.bool false, Value.int .i64 (w64 (x43 + 1))].getD i_ undef), L39, HS41, h, (by kernel_rfl)⟩
    · have c49 : ¬ (x43 < 2) := c49
      refine wpRwI 18 (x := (decide (x43 < 2))) (v := false) (by kernel_rfl) (decide_eq_false c49) ?_
      refine condF (by kernel_rfl) ?_
      refine wp_exit ?_
      refine hx29 _ _ ?_
      exact J76 f38 (fun i_ => [(j42 0), (j42 1), Value.int .i64 x43, Value.bool false, (j42 3), (j42 4), (j42 5), (j42 6), (j42 7), (j42 8), (j42 9), (j42 10), (j42 11), (j42 12), (j42 13), (j42 14)].getD i_ undef) W40 _ L39 h HS41 (by kernel_rfl)

set_option maxRecDepth 100000 in
set_option maxHeartbeats 4000000 in
theorem sky_within.calls (k : Nat)  (v1 : S_Vec) (most2 : Int) {t w : World} {f : FM} {H : List Seg} (HS : St t w f (H)) (r1 : Bool) (h : sky_within k v1 most2 = some r1) :
    Calls Try.prog 26 #[.agg #[.int .i64 v1.X, .int .i64 v1.Y, .int .i64 v1.Z], .int .i64 most2] w (fun e w' => ∃ (g : FM), e = .returned (Value.bool r1) ∧ FM.le f g ∧ St t w' g (H)) := by
  unfold sky_within at h
  refine enter Try.func26 rfl (tm := #[.agg #[iV v1.X, iV v1.Y, iV v1.Z], iV most2, uV, uV, uV, uV, uV, uV, uV, uV, uV, uV, uV, uV, uV, uV, uV, uV, uV, uV, uV, uV, uV, uV, uV, uV, uV]) (by kernel_rfl) ?_
  intro B hret hnor hnp
  refine wp_seq_k (fun K3 hK4 => ?_)
  refine wp_region_lit ?_
  refine seqK rfl (does_box (cs := #[.int .i64 v1.X, .int .i64 v1.Y, .int .i64 v1.Z]) rfl (by kernel_rfl : _ = Value.agg #[.int .i64 v1.X, .int .i64 v1.Y, .int .i64 v1.Z]) rfl HS ?_)
  intro b5 W6 HS7
  refine seqS1 (a' := ⟨#[.agg #[iV v1.X, iV v1.Y, iV v1.Z], iV most2, .pointer (some ⟨b5, 0, none⟩), uV, .bool false, uV, uV, uV, uV, uV, uV, uV, uV, uV, uV, uV, uV, uV, uV, uV, uV, uV, uV, uV, uV, uV, uV], []⟩) (by kernel_rfl) ?_
  refine wpList_nil ?_
  refine hK4 _ _ ?_
  refine wp_seq_k (fun K9 hK10 => ?_)
  refine wp_seq_k (fun K11 hK12 => ?_)
  refine wp_region_lit ?_
  refine seqL1 (by kernel_rfl) ?_
  refine seqK rfl (does_run (run_load rfl Try.underlying2 rfl (by kernel_rfl : _ = Value.pointer (some ⟨b5, 0, none⟩)) (HS7.cell 0)) ?_)
  refine seqL1 (by kernel_rfl) ?_
  refine seqK rfl (does_run (run_load rfl Try.underlying2 rfl (by kernel_rfl : _ = Value.pointer (some ⟨b5, 1, none⟩)) (HS7.cell 1)) ?_)
  refine seqL1 (by kernel_rfl) ?_
  refine seqK rfl (does_run (run_load rfl Try.underlying2 rfl (by kernel_rfl : _ = Value.pointer (some ⟨b5, 2, none⟩)) (HS7.cell 2)) ?_)
  refine seqS2 (a' := ⟨#[.agg #[iV v1.X, iV v1.Y, iV v1.Z], iV most2, .pointer (some ⟨b5, 0, none⟩), uV, .bool false, uV, uV, .pointer (some ⟨b5, 0, none⟩), iV v1.X, .pointer (some ⟨b5, 1, none⟩), iV v1.Y, .pointer (some ⟨b5, 2, none⟩), iV v1.Z, .agg #[iV v1.X, iV v1.Y, iV v1.Z], iV 0, uV, uV, uV, uV, uV, uV, uV, uV, uV, uV, uV, uV], []⟩) (by kernel_rfl) ?_
  refine wpList_nil ?_
  refine hK12 _ _ ?_
  refine blockK (fun B13 hx14 hn15 hr16 ho17 hp18 => ?_)
  have hq_ := bind_some h; clear h; obtain ⟨o19, hv61, h⟩ := hq_
  have JR63 : ∀ z_, some (Sum.inl z_) = some o19 → some z_ = some r1 := by
    intro z_ e_; injection e_ with e_; subst e_; exact h
  have J62 : ∀ (f56 : FM) (j60 : Nat → Value) (W58 : World) (a_ : Act), FM.le f f56 → some (Sum.inr ()) = some o19 → St t W58 f56 ([(b5, .cells #[.int .i64 v1.X, .int .i64 v1.Y, .int .i64 v1.Z] 23 (0, 0))] :: H) → a_ = ⟨#[.agg #[iV v1.X, iV v1.Y, iV v1.Z], iV most2, .pointer (some ⟨b5, 0, none⟩), uV, (j60 0), uV, (j60 1), .pointer (some ⟨b5, 0, none⟩), iV v1.X, .pointer (some ⟨b5, 1, none⟩), iV v1.Y, .pointer (some ⟨b5, 2, none⟩), iV v1.Z, .agg #[iV v1.X, iV v1.Y, iV v1.Z], (j60 2), (j60 3), (j60 4), (j60 5), (j60 6), (j60 7), (j60 8), (j60 9), (j60 10), (j60 11), (j60 12), (j60 13), (j60 14)], []⟩ → K9 a_ W58 := by
    intro f56 j60 W58 a_ L57 hj64 HS59  hfr_; subst hfr_
    injection hj64 with hj64; subst hj64; try dsimp only at h
    simp only [Sum.elim_inr] at h
    refine hK10 _ _ ?_
    refine wp_seq_k (fun K65 hK66 => ?_)
    refine wp_region_lit ?_
    refine seqS1 (a' := ⟨#[.agg #[iV v1.X, iV v1.Y, iV v1.Z], iV most2, .pointer (some ⟨b5, 0, none⟩), uV, .bool true, uV, (j60 1), .pointer (some ⟨b5, 0, none⟩), iV v1.X, .pointer (some ⟨b5, 1, none⟩), iV v1.Y, .pointer (some ⟨b5, 2, none⟩), iV v1.Z, .agg #[iV v1.X, iV v1.Y, iV v1.Z], (j60 2), (j60 3), (j60 4), (j60 5), (j60 6), (j60 7), (j60 8), (j60 9), (j60 10), (j60 11), (j60 12), (j60 13), (j60 14)], []⟩) (by kernel_rfl) ?_
    refine wpList_nil ?_
    refine hK66 _ _ ?_
    refine wp_ret ?_
    refine hret _ _ ?_
    refine ends_still (v := Value.bool true) (by kernel_rfl) (by kernel_rfl) ?_
    have HS69 := HS59.drop
    injection h with h
    subst h
    exact ⟨f56, rfl, L57, HS69⟩
  clear h; have h := hv61; clear hv61
  refine loopK (fun n_ a_ w_ => ∃ (f23 : FM) (x28 : Int) (j27 : Nat → Value), FM.le f f23 ∧ St t w_ f23 ([(b5, .cells #[.int .i64 v1.X, .int .i64 v1.Y, .int .i64 v1.Z] 23 (0, 0))] :: H) ∧ sky_within.l0 k v1 most2 n_ x28 = some o19 ∧ a_ = ⟨#[.agg #[iV v1.X, iV v1.Y, iV v1.Z], iV most2, .pointer (some ⟨b5, 0, none⟩), uV, (j27 0), uV, (j27 1), .pointer (some ⟨b5, 0, none⟩), iV v1.X, .pointer (some ⟨b5, 1, none⟩), iV v1.Y, .pointer (some ⟨b5, 2, none⟩), iV v1.Z, .agg #[iV v1.X, iV v1.Y, iV v1.Z], iV x28, (j27 2), (j27 3), (j27 4), (j27 5), (j27 6), (j27 7), (j27 8), (j27 9), (j27 10), (j27 11), (j27 12), (j27 13)], []⟩) k ⟨f, 0, (fun i_ => [Value.bool false, undef, undef, undef, undef, undef, undef, undef, undef, undef, undef, undef, undef, undef].getD i_ undef), (FM.le.refl _), HS7, h, (by kernel_rfl)⟩ ?_
  clear h
  rintro n22 _ W25 ⟨f23, x28, j27, L24, HS26, h, rfl⟩ K20 hK21
  obtain _ | n22 := n22
  · exact nomatch h
  simp only [sky_within.l0] at h
  refine wp_seq_k (fun K29 hK30 => ?_)
  refine wp_region_lit ?_
  refine seqS1 (a' := ⟨#[.agg #[iV v1.X, iV v1.Y, iV v1.Z], iV most2, .pointer (some ⟨b5, 0, none⟩), uV, (j27 0), uV, (j27 1), .pointer (some ⟨b5, 0, none⟩), iV v1.X, .pointer (some ⟨b5, 1, none⟩), iV v1.Y, .pointer (some ⟨b5, 2, none⟩), iV v1.Z, .agg #[iV v1.X, iV v1.Y, iV v1.Z], iV x28, .bool (decide (x28 < 3)), (j27 3), (j27 4), (j27 5), (j27 6), (j27 7), (j27 8), (j27 9), (j27 10), (j27 11), (j27 12), (j27 13)], []⟩) (by kernel_rfl) ?_
  refine wpList_nil ?_
  refine hK30 _ _ ?_
  refine wp_seq_k (fun K31 hK32 => ?_)
  have hq_ := ite_some h; clear h; rcases hq_ with ⟨c34, h⟩ | ⟨c34, h⟩
  · have c34 : x28 < 3 := c34
    refine wpRwI 15 (x := (decide (x28 < 3))) (v := true) (by kernel_rfl) (decide_eq_true c34) ?_
    refine condT (by kernel_rfl) ?_
    refine wp_skip ?_
    refine hK32 _ _ ?_
    refine wp_seq_k (fun K35 hK36 => ?_)
    refine blockK (fun B37 hx38 hn39 hr40 ho41 hp42 => ?_)
    refine wp_seq_k (fun K44 hK45 => ?_)
    refine wp_region_lit ?_
    have hq_ := guard_some h; clear h; obtain ⟨c46, h⟩ := hq_
    have c46 : 0 ≤ x28 := c46
    refine seqK rfl (does_run (run_arr_int rfl Try.underlying50 (by kernel_rfl) Try.underlying2 (by kernel_rfl : _ = Value.agg #[.int .i64 v1.X, .int .i64 v1.Y, .int .i64 v1.Z]) (by kernel_rfl : _ = Value.int .i64 x28) (xs := [v1.X, v1.Y, v1.Z]) rfl c46 c34 rfl W25) ?_)
    refine seqS1 (a' := ⟨#[.agg #[iV v1.X, iV v1.Y, iV v1.Z], iV most2, .pointer (some ⟨b5, 0, none⟩), uV, (j27 0), uV, iV (rd [v1.X, v1.Y, v1.Z] x28), .pointer (some ⟨b5, 0, none⟩), iV v1.X, .pointer (some ⟨b5, 1, none⟩), iV v1.Y, .pointer (some ⟨b5, 2, none⟩), iV v1.Z, .agg #[iV v1.X, iV v1.Y, iV v1.Z], iV x28, .bool true, iV (rd [v1.X, v1.Y, v1.Z] x28), (j27 4), (j27 5), (j27 6), (j27 7), (j27 8), (j27 9), (j27 10), (j27 11), (j27 12), (j27 13)], []⟩) (by kernel_rfl) ?_
    refine wpList_nil ?_
    refine hK45 _ _ ?_
    refine wp_seq_k (fun K47 hK48 => ?_)
    refine wp_region_lit ?_
    refine seqS5 (a' := ⟨#[.agg #[iV v1.X, iV v1.Y, iV v1.Z], iV most2, .pointer (some ⟨b5, 0, none⟩), uV, (j27 0), uV, iV (rd [v1.X, v1.Y, v1.Z] x28), .pointer (some ⟨b5, 0, none⟩), iV v1.X, .pointer (some ⟨b5, 1, none⟩), iV v1.Y, .pointer (some ⟨b5, 2, none⟩), iV v1.Z, .agg #[iV v1.X, iV v1.Y, iV v1.Z], iV x28, .bool true, iV (rd [v1.X, v1.Y, v1.Z] x28), iV (rd [v1.X, v1.Y, v1.Z] x28), iV most2, iV (w64 (0 - most2)), .bool (decide ((rd [v1.X, v1.Y, v1.Z] x28) < (w64 (0 - most2)))), .bool (decide ((rd [v1.X, v1.Y, v1.Z] x28) < (w64 (0 - most2)))), (j27 9), (j27 10), (j27 11), (j27 12), (j27 13)], []⟩) (by kernel_rfl) ?_
    have hq_ := ite_some h; clear h; rcases hq_ with ⟨c49, h⟩ | ⟨c49, h⟩
    · have c49 : (rd [v1.X, v1.Y, v1.Z] x28) < (w64 (0 - most2)) := c49
      refine seqRwI 20 (x := (decide ((rd [v1.X, v1.Y, v1.Z] x28) < (w64 (0 - most2))))) (v := true) (by kernel_rfl) (decide_eq_true c49) ?_
      refine seqRwI 21 (x := (decide ((rd [v1.X, v1.Y, v1.Z] x28) < (w64 (0 - most2))))) (v := true) (by kernel_rfl) (decide_eq_true c49) ?_
      refine seqS4 (a' := ⟨#[.agg #[iV v1.X, iV v1.Y, iV v1.Z], iV most2, .pointer (some ⟨b5, 0, none⟩), uV, (j27 0), uV, iV (rd [v1.X, v1.Y, v1.Z] x28), .pointer (some ⟨b5, 0, none⟩), iV v1.X, .pointer (some ⟨b5, 1, none⟩), iV v1.Y, .pointer (some ⟨b5, 2, none⟩), iV v1.Z, .agg #[iV v1.X, iV v1.Y, iV v1.Z], iV x28, .bool true, iV (rd [v1.X, v1.Y, v1.Z] x28), iV (rd [v1.X, v1.Y, v1.Z] x28), iV most2, iV (w64 (0 - most2)), .bool true, .bool true, uV, uV, uV, .bool true, (j27 13)], []⟩) (by kernel_rfl) ?_
      refine wpList_nil ?_
      refine hK48 _ _ ?_
      refine condT (by kernel_rfl) ?_
      refine wp_seq_k (fun K50 hK51 => ?_)
      refine wp_region_lit ?_
      refine seqS1 (a' := ⟨#[.agg #[iV v1.X, iV v1.Y, iV v1.Z], iV most2, .pointer (some ⟨b5, 0, none⟩), uV, .bool false, uV, iV (rd [v1.X, v1.Y, v1.Z] x28), .pointer (some ⟨b5, 0, none⟩), iV v1.X, .pointer (some ⟨b5, 1, none⟩), iV v1.Y, .pointer (some ⟨b5, 2, none⟩), iV v1.Z, .agg #[iV v1.X, iV v1.Y, iV v1.Z], iV x28, .bool true, iV (rd [v1.X, v1.Y, v1.Z] x28), iV (rd [v1.X, v1.Y, v1.Z] x28), iV most2, iV (w64 (0 - most2)), .bool true, .bool true, uV, uV, uV, .bool true, (j27 13)], []⟩) (by kernel_rfl) ?_
      refine wpList_nil ?_
      refine hK51 _ _ ?_
      refine wp_ret ?_
      refine hr40 _ _ ?_
      refine hr16 _ _ ?_
      refine hret _ _ ?_
      refine ends_still (v := Value.bool false) (by kernel_rfl) (by kernel_rfl) ?_
      have HS67 := HS26.drop
      replace h := JR63 _ h
      injection h with h
      subst h
      exact ⟨f23, rfl, L24, HS67⟩
    · have c49 : ¬ ((rd [v1.X, v1.Y, v1.Z] x28) < (w64 (0 - most2))) := c49
      refine seqRwI 20 (x := (decide ((rd [v1.X, v1.Y, v1.Z] x28) < (w64 (0 - most2))))) (v := false) (by kernel_rfl) (decide_eq_false c49) ?_
      refine seqRwI 21 (x := (decide ((rd [v1.X, v1.Y, v1.Z] x28) < (w64 (0 - most2))))) (v := false) (by kernel_rfl) (decide_eq_false c49) ?_
      refine seqS4 (a' := ⟨#[.agg #[iV v1.X, iV v1.Y, iV v1.Z], iV most2, .pointer (some ⟨b5, 0, none⟩), uV, (j27 0), uV, iV (rd [v1.X, v1.Y, v1.Z] x28), .pointer (some ⟨b5, 0, none⟩), iV v1.X, .pointer (some ⟨b5, 1, none⟩), iV v1.Y, .pointer (some ⟨b5, 2, none⟩), iV v1.Z, .agg #[iV v1.X, iV v1.Y, iV v1.Z], iV x28, .bool true, iV (rd [v1.X, v1.Y, v1.Z] x28), iV (rd [v1.X, v1.Y, v1.Z] x28), iV most2, iV (w64 (0 - most2)), .bool false, .bool false, iV (rd [v1.X, v1.Y, v1.Z] x28), iV most2, .bool (decide ((rd [v1.X, v1.Y, v1.Z] x28) > most2)), .bool (decide ((rd [v1.X, v1.Y, v1.Z] x28) > most2)), (j27 13)], []⟩) (by kernel_rfl) ?_
      refine wpList_nil ?_
      refine hK48 _ _ ?_
      have hq_ := ite_some h; clear h; rcases hq_ with ⟨c53, h⟩ | ⟨c53, h⟩
      · have c53 : (rd [v1.X, v1.Y, v1.Z] x28) > most2 := c53
        refine wpRwI 24 (x := (decide ((rd [v1.X, v1.Y, v1.Z] x28) > most2))) (v := true) (by kernel_rfl) (decide_eq_true c53) ?_
        refine wpRwI 25 (x := (decide ((rd [v1.X, v1.Y, v1.Z] x28) > most2))) (v := true) (by kernel_rfl) (decide_eq_true c53) ?_
        refine condT (by kernel_rfl) ?_
        refine wp_seq_k (fun K54 hK55 => ?_)
        refine wp_region_lit ?_
        refine seqS1 (a' := ⟨#[.agg #[iV v1.X, iV v1.Y, iV v1.Z], iV most2, .pointer (some ⟨b5, 0, none⟩), uV, .bool false, uV, iV (rd [v1.X, v1.Y, v1.Z] x28), .pointer (some ⟨b5, 0, none⟩), iV v1.X, .pointer (some ⟨b5, 1, none⟩), iV v1.Y, .pointer (some ⟨b5, 2, none⟩), iV v1.Z, .agg #[iV v1.X, iV v1.Y, iV v1.Z], iV x28, .bool true, iV (rd [v1.X, v1.Y, v1.Z] x28), iV (rd [v1.X, v1.Y, v1.Z] x28), iV most2, iV (w64 (0 - most2)), .bool false, .bool false, iV (rd [v1.X, v1.Y, v1.Z] x28), iV most2, .bool true, .bool true, (j27 13)], []⟩) (by kernel_rfl) ?_
        refine wpList_nil ?_
        refine hK55 _ _ ?_
        refine wp_ret ?_
        refine hr40 _ _ ?_
        refine hr16 _ _ ?_
        refine hret _ _ ?_
        refine ends_still (v := Value.bool false) (by kernel_rfl) (by kernel_rfl) ?_
        have HS68 := HS26.drop
        replace h := JR63 _ h
        injection h with h
        subst h
        exact ⟨f23, rfl, L24, HS68⟩
      · have c53 : ¬ ((rd [v1.X, v1.Y, v1.Z] x28) > most2) := c53
        refine wpRwI 24 (x := (decide ((rd [v1.X, v1.Y, v1.Z] x28) > most2))) (v := false) (by kernel_rfl) (decide_eq_false c53) ?_
        refine wpRwI 25 (x := (decide ((rd [v1.X, v1.Y, v1.Z] x28) > most2))) (v := false) (by kernel_rfl) (decide_eq_false c53) ?_
        refine condF (by kernel_rfl) ?_
        refine wp_skip ?_
        refine hn39 _ _ ?_
        refine hK36 _ _ ?_
        refine wp_region_lit ?_
        refine seqS2 (a' := ⟨#[.agg #[iV v1.X, iV v1.Y, iV v1.Z], iV most2, .pointer (some ⟨b5, 0, none⟩), uV, (j27 0), uV, iV (rd [v1.X, v1.Y, v1.Z] x28), .pointer (some ⟨b5, 0, none⟩), iV v1.X, .pointer (some ⟨b5, 1, none⟩), iV v1.Y, .pointer (some ⟨b5, 2, none⟩), iV v1.Z, .agg #[iV v1.X, iV v1.Y, iV v1.Z], iV (w64 (x28 + 1)), .bool true, iV (rd [v1.X, v1.Y, v1.Z] x28), iV (rd [v1.X, v1.Y, v1.Z] x28), iV most2, iV (w64 (0 - most2)), .bool false, .bool false, iV (rd [v1.X, v1.Y, v1.Z] x28), iV most2, .bool false, .bool false, iV (w64 (x28 + 1))], []⟩) (by kernel_rfl) ?_
        refine wpList_nil ?_
        refine hK21 n22 _ _ (Nat.lt_succ_self _) ?_
        exact ⟨f23, (w64 (x28 + 1)), (fun i_ => [(j27 0), Value.int .i64 (rd [v1.X, v1.Y, v1.Z] x28), Value.bool true, Value.int .i64 (rd [v1.X, v1.Y, v1.Z] x28), Value.int .i64 (rd [v1.X, v1.Y, v1.Z] x28), Value.int .i64 most2, Value.int .i64 (w64 (0 - most2)), Value.bool false, Value.bool false, Value.int .i64 (rd [v1.X, v1.Y, v1.Z] x28), Value.int .i64 most2, Value.bool false, Value.bool false, Value.int .i64 (w64 (x28 + 1))].getD i_ undef), L24, HS26, h, (by kernel_rfl)⟩
  · have c34 : ¬ (x28 < 3) := c34
    refine wpRwI 15 (x := (decide (x28 < 3))) (v := false) (by kernel_rfl) (decide_eq_false c34) ?_
    refine condF (by kernel_rfl) ?_
    refine wp_exit ?_
    refine hx14 _ _ ?_
    exact J62 f23 (fun i_ => [(j27 0), (j27 1), Value.int .i64 x28, Value.bool false, (j27 3), (j27 4), (j27 5), (j27 6), (j27 7), (j27 8), (j27 9), (j27 10), (j27 11), (j27 12), (j27 13)].getD i_ undef) W25 _ L24 h HS26 (by kernel_rfl)

set_option maxRecDepth 100000 in
set_option maxHeartbeats 4000000 in
theorem sky_moves.calls (k : Nat)  (b1 : S_Body) {t w : World} {f : FM} {H : List Seg} (HS : St t w f (H)) (r1 : Bool) (h : sky_moves k b1 = some r1) :
    Calls Try.prog 33 #[.agg #[.int .i64 b1.ID, .int .i64 b1.Was.X, .int .i64 b1.Was.Y, .int .i64 b1.Was.Z, .int .i64 b1.Here.X, .int .i64 b1.Here.Y, .int .i64 b1.Here.Z, .int .i64 b1.Rate]] w (fun e w' => ∃ (g : FM), e = .returned (Value.bool r1) ∧ FM.le f g ∧ St t w' g (H)) := by
  unfold sky_moves at h
  refine enter Try.func33 rfl (tm := #[.agg #[iV b1.ID, iV b1.Was.X, iV b1.Was.Y, iV b1.Was.Z, iV b1.Here.X, iV b1.Here.Y, iV b1.Here.Z, iV b1.Rate], uV, uV, uV, uV, uV, uV, uV, uV, uV, uV]) (by kernel_rfl) ?_
  intro B hret hnor hnp
  refine wp_seq_k (fun K2 hK3 => ?_)
  refine wp_region_lit ?_
  refine seqK rfl (does_box (cs := #[.int .i64 b1.ID, .int .i64 b1.Was.X, .int .i64 b1.Was.Y, .int .i64 b1.Was.Z, .int .i64 b1.Here.X, .int .i64 b1.Here.Y, .int .i64 b1.Here.Z, .int .i64 b1.Rate]) rfl (by kernel_rfl : _ = Value.agg #[.int .i64 b1.ID, .int .i64 b1.Was.X, .int .i64 b1.Was.Y, .int .i64 b1.Was.Z, .int .i64 b1.Here.X, .int .i64 b1.Here.Y, .int .i64 b1.Here.Z, .int .i64 b1.Rate]) rfl HS ?_)
  intro b4 W5 HS6
  refine seqS1 (a' := ⟨#[.agg #[iV b1.ID, iV b1.Was.X, iV b1.Was.Y, iV b1.Was.Z, iV b1.Here.X, iV b1.Here.Y, iV b1.Here.Z, iV b1.Rate], .pointer (some ⟨b4, 0, none⟩), .bool false, uV, uV, uV, uV, uV, uV, uV, uV], []⟩) (by kernel_rfl) ?_
  refine wpList_nil ?_
  refine hK3 _ _ ?_
  refine wp_seq_k (fun K8 hK9 => ?_)
  refine wp_region_lit ?_
  refine seqL1 (by kernel_rfl) ?_
  refine seqK rfl (does_run (run_loadN (n := 3) rfl Try.underlying23 rfl (by kernel_rfl) (by kernel_rfl : _ = Value.pointer (some ⟨b4, 1, none⟩)) (cs := [.int .i64 b1.Was.X, .int .i64 b1.Was.Y, .int .i64 b1.Was.Z]) rfl (HS6.cells 1 3 _ rfl)) ?_)
  have hq_ := bind_some h; clear h; obtain ⟨vt10, hc11, h⟩ := hq_
  refine seqK rfl (does_call (f := 26) (args := #[.agg #[.int .i64 b1.Was.X, .int .i64 b1.Was.Y, .int .i64 b1.Was.Z], .int .i64 4194304]) (by kernel_rfl) (sky_within.calls k b1.Was 4194304 HS6 vt10 hc11) ?_)
  rintro _ W14 ⟨f12, rfl, L13, HS15⟩
  refine ⟨_, rfl, ?_⟩
  refine seqS1 (a' := ⟨#[.agg #[iV b1.ID, iV b1.Was.X, iV b1.Was.Y, iV b1.Was.Z, iV b1.Here.X, iV b1.Here.Y, iV b1.Here.Z, iV b1.Rate], .pointer (some ⟨b4, 0, none⟩), .bool false, .pointer (some ⟨b4, 1, none⟩), .agg #[iV b1.Was.X, iV b1.Was.Y, iV b1.Was.Z], .bool vt10, .bool vt10, uV, uV, uV, uV], []⟩) (by kernel_rfl) ?_
  have hq_ := ite_some h; clear h; rcases hq_ with ⟨c16, h⟩ | ⟨c16, h⟩
  · have c16 : vt10 = true := c16
    refine seqRwI 5 (x := vt10) (v := true) (by kernel_rfl) c16 ?_
    refine seqRwI 6 (x := vt10) (v := true) (by kernel_rfl) c16 ?_
    refine seqL1 (by kernel_rfl) ?_
    refine seqG (by kernel_rfl) (does_run (run_loadN (n := 3) rfl Try.underlying23 rfl (by kernel_rfl) (by kernel_rfl : _ = Value.pointer (some ⟨b4, 4, none⟩)) (cs := [.int .i64 b1.Here.X, .int .i64 b1.Here.Y, .int .i64 b1.Here.Z]) rfl (HS15.cells 4 3 _ rfl)) ?_)
    have hq_ := bind_some h; clear h; obtain ⟨vt17, hc18, h⟩ := hq_
    refine seqG (by kernel_rfl) (does_call (f := 26) (args := #[.agg #[.int .i64 b1.Here.X, .int .i64 b1.Here.Y, .int .i64 b1.Here.Z], .int .i64 4194304]) (by kernel_rfl) (sky_within.calls k b1.Here 4194304 HS15 vt17 hc18) ?_)
    rintro _ W21 ⟨f19, rfl, L20, HS22⟩
    refine ⟨_, rfl, ?_⟩
    refine seqS2 (a' := ⟨#[.agg #[iV b1.ID, iV b1.Was.X, iV b1.Was.Y, iV b1.Was.Z, iV b1.Here.X, iV b1.Here.Y, iV b1.Here.Z, iV b1.Rate], .pointer (some ⟨b4, 0, none⟩), .bool vt17, .pointer (some ⟨b4, 1, none⟩), .agg #[iV b1.Was.X, iV b1.Was.Y, iV b1.Was.Z], .bool true, .bool true, .pointer (some ⟨b4, 4, none⟩), .agg #[iV b1.Here.X, iV b1.Here.Y, iV b1.Here.Z], .bool vt17, .bool vt17], []⟩) (by kernel_rfl) ?_
    refine wpList_nil ?_
    refine hK9 _ _ ?_
    refine wp_ret ?_
    refine hret _ _ ?_
    refine ends_still (v := Value.bool vt17) (by kernel_rfl) (by kernel_rfl) ?_
    have HS23 := HS22.drop
    injection h with h
    subst h
    exact ⟨f19, rfl, (L13.trans L20), HS23⟩
  · have c16 : ¬ (vt10 = true) := c16
    refine seqRwI 5 (x := vt10) (v := false) (by kernel_rfl) (Bool.eq_false_iff.mpr c16) ?_
    refine seqRwI 6 (x := vt10) (v := false) (by kernel_rfl) (Bool.eq_false_iff.mpr c16) ?_
    refine seqS5 (a' := ⟨#[.agg #[iV b1.ID, iV b1.Was.X, iV b1.Was.Y, iV b1.Was.Z, iV b1.Here.X, iV b1.Here.Y, iV b1.Here.Z, iV b1.Rate], .pointer (some ⟨b4, 0, none⟩), .bool false, .pointer (some ⟨b4, 1, none⟩), .agg #[iV b1.Was.X, iV b1.Was.Y, iV b1.Was.Z], .bool false, .bool false, uV, uV, uV, .bool false], []⟩) (by kernel_rfl) ?_
    refine wpList_nil ?_
    refine hK9 _ _ ?_
    refine wp_ret ?_
    refine hret _ _ ?_
    refine ends_still (v := Value.bool false) (by kernel_rfl) (by kernel_rfl) ?_
    have HS24 := HS15.drop
    injection h with h
    subst h
    exact ⟨f12, rfl, L13, HS24⟩

end Go.Sp.U7
