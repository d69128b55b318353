import Derived.Test.YtaddopcbneggiaaProg
import Derived.Test.YtaddopcbneggiaaSpCopy
import Derived.Test.YtaddopcbneggiaaFU7
import Derived.Test.YtaddopcbneggiaaSpMap
import Derived.Test.YtaddopcbneggiaaKU7n0
import Derived.Test.YtaddopcbneggiaaKU7n1
import Derived.Test.YtaddopcbneggiaaKU7n2
namespace Go.Sp.U7
open Go Go.Sp Go.Proofs
set_option linter.unusedVariables false
attribute [local irreducible] wpList AnyL Code.wp Calls Does
set_option maxRecDepth 100000 in
set_option maxHeartbeats 4000000 in
theorem sky_shines.calls (k : Nat) (A2 : Option Addr) (c3 : Nat) (s1 : S_Star) (vt5 : Int) {t w : World} {f : FM} {H : List Seg} (HS : St t w f (H)) (HR4 : SlR (tInt .i64) f A2 c3 s1.Wave) (r1 : Int) (h : sky_shines k s1 vt5 = some r1) :
    Calls Try.prog 43 #[.agg #[.int .i64 s1.ID, .int .i64 s1.At.X, .int .i64 s1.At.Y, .int .i64 s1.At.Z, .int .i64 s1.Rate, .slice A2 s1.Wave.length c3, .int .i64 s1.Period, .int .i64 s1.From, .int .i64 s1.To], .int .i64 vt5] w (fun e w' => ∃ (g : FM), e = .returned (Value.int .i64 r1) ∧ FM.le f g ∧ St t w' g (H)) := by
  unfold sky_shines at h
  refine enter Try.func43 rfl (tm := #[.agg #[iV s1.ID, iV s1.At.X, iV s1.At.Y, iV s1.At.Z, iV s1.Rate, .slice A2 s1.Wave.length c3, iV s1.Period, iV s1.From, iV s1.To], iV vt5, uV, uV, uV, uV, uV, uV, uV, uV, uV, uV, uV, uV, uV, uV, uV, uV, uV, uV, uV, uV, uV, uV, uV, uV, uV, uV, uV, uV, uV, uV, uV, uV, uV, uV, uV, uV, uV, uV, uV, uV, uV, uV, uV, uV, uV]) (by kernel_rfl) ?_
  intro B hret hnor hnp
  refine wp_seq_k (fun K6 hK7 => ?_)
  refine wp_region_lit ?_
  refine seqK rfl (does_box (cs := #[.int .i64 s1.ID, .int .i64 s1.At.X, .int .i64 s1.At.Y, .int .i64 s1.At.Z, .int .i64 s1.Rate, .slice A2 s1.Wave.length c3, .int .i64 s1.Period, .int .i64 s1.From, .int .i64 s1.To]) rfl (by kernel_rfl : _ = Value.agg #[.int .i64 s1.ID, .int .i64 s1.At.X, .int .i64 s1.At.Y, .int .i64 s1.At.Z, .int .i64 s1.Rate, .slice A2 s1.Wave.length c3, .int .i64 s1.Period, .int .i64 s1.From, .int .i64 s1.To]) rfl HS ?_)
  intro b8 W9 HS10
  refine seqS1 (a' := ⟨#[.agg #[iV s1.ID, iV s1.At.X, iV s1.At.Y, iV s1.At.Z, iV s1.Rate, .slice A2 s1.Wave.length c3, iV s1.Period, iV s1.From, iV s1.To], iV vt5, .pointer (some ⟨b8, 0, none⟩), uV, iV 0, uV, uV, uV, uV, uV, uV, uV, uV, uV, uV, uV, uV, uV, uV, uV, uV, uV, uV, uV, uV, uV, uV, uV, uV, uV, uV, uV, uV, uV, uV, uV, uV, uV, uV, uV, uV, uV, uV, uV, uV, uV, uV], []⟩) (by kernel_rfl) ?_
  refine wpList_nil ?_
  refine hK7 _ _ ?_
  refine wp_seq_k (fun K12 hK13 => ?_)
  refine wp_seq_k (fun K14 hK15 => ?_)
  refine wp_region_lit ?_
  refine seqL2 (by kernel_rfl) ?_
  refine seqK rfl (does_run (run_load rfl Try.underlying46 rfl (by kernel_rfl : _ = Value.pointer (some ⟨b8, 7, none⟩)) (HS10.cell 7)) ?_)
  refine seqS2 (a' := ⟨#[.agg #[iV s1.ID, iV s1.At.X, iV s1.At.Y, iV s1.At.Z, iV s1.Rate, .slice A2 s1.Wave.length c3, iV s1.Period, iV s1.From, iV s1.To], iV vt5, .pointer (some ⟨b8, 0, none⟩), uV, iV 0, uV, uV, iV vt5, .pointer (some ⟨b8, 7, none⟩), iV s1.From, .bool (decide (vt5 < s1.From)), .bool (decide (vt5 < s1.From)), uV, uV, uV, uV, uV, uV, uV, uV, uV, uV, uV, uV, uV, uV, uV, uV, uV, uV, uV, uV, uV, uV, uV, uV, uV, uV, uV, uV, uV, uV, uV, uV, uV, uV, uV], []⟩) (by kernel_rfl) ?_
  have hq_ := ite_some h; clear h; rcases hq_ with ⟨c16, h⟩ | ⟨c16, h⟩
  · have c16 : vt5 < s1.From := c16
    refine seqRwI 10 (x := (decide (vt5 < s1.From))) (v := true) (by kernel_rfl) (decide_eq_true c16) ?_
    refine seqRwI 11 (x := (decide (vt5 < s1.From))) (v := true) (by kernel_rfl) (decide_eq_true c16) ?_
    refine seqS5 (a' := ⟨#[.agg #[iV s1.ID, iV s1.At.X, iV s1.At.Y, iV s1.At.Z, iV s1.Rate, .slice A2 s1.Wave.length c3, iV s1.Period, iV s1.From, iV s1.To], iV vt5, .pointer (some ⟨b8, 0, none⟩), uV, iV 0, uV, uV, iV vt5, .pointer (some ⟨b8, 7, none⟩), iV s1.From, .bool true, .bool true, uV, uV, uV, uV, .bool true, uV, uV, uV, uV, uV, uV, uV, uV, uV, uV, uV, uV, uV, uV, uV, uV, uV, uV, uV, uV, uV, uV, uV, uV, uV, uV, uV, uV, uV, uV], []⟩) (by kernel_rfl) ?_
    refine wpList_nil ?_
    refine hK15 _ _ ?_
    refine condT (by kernel_rfl) ?_
    refine wp_seq_k (fun K17 hK18 => ?_)
    refine wp_region_lit ?_
    refine seqS1 (a' := ⟨#[.agg #[iV s1.ID, iV s1.At.X, iV s1.At.Y, iV s1.At.Z, iV s1.Rate, .slice A2 s1.Wave.length c3, iV s1.Period, iV s1.From, iV s1.To], iV vt5, .pointer (some ⟨b8, 0, none⟩), uV, iV 0, uV, uV, iV vt5, .pointer (some ⟨b8, 7, none⟩), iV s1.From, .bool true, .bool true, uV, uV, uV, uV, .bool true, uV, uV, uV, uV, uV, uV, uV, uV, uV, uV, uV, uV, uV, uV, uV, uV, uV, uV, uV, uV, uV, uV, uV, uV, uV, uV, uV, uV, uV, uV], []⟩) (by kernel_rfl) ?_
    refine wpList_nil ?_
    refine hK18 _ _ ?_
    refine wp_ret ?_
    refine hret _ _ ?_
    refine ends_still (v := Value.int .i64 0) (by kernel_rfl) (by kernel_rfl) ?_
    have HS70 := HS10.drop
    injection h with h
    subst h
    exact ⟨f, rfl, FM.le.refl _, HS70⟩
  · have c16 : ¬ (vt5 < s1.From) := c16
    refine seqRwI 10 (x := (decide (vt5 < s1.From))) (v := false) (by kernel_rfl) (decide_eq_false c16) ?_
    refine seqRwI 11 (x := (decide (vt5 < s1.From))) (v := false) (by kernel_rfl) (decide_eq_false c16) ?_
    refine seqL2 (by kernel_rfl) ?_
    refine seqG (by kernel_rfl) (does_run (run_load rfl Try.underlying46 rfl (by kernel_rfl : _ = Value.pointer (some ⟨b8, 8, none⟩)) (HS10.cell 8)) ?_)
    refine seqS2 (a' := ⟨#[.agg #[iV s1.ID, iV s1.At.X, iV s1.At.Y, iV s1.At.Z, iV s1.Rate, .slice A2 s1.Wave.length c3, iV s1.Period, iV s1.From, iV s1.To], iV vt5, .pointer (some ⟨b8, 0, none⟩), uV, iV 0, uV, uV, iV vt5, .pointer (some ⟨b8, 7, none⟩), iV s1.From, .bool false, .bool false, iV vt5, .pointer (some ⟨b8, 8, none⟩), iV s1.To, .bool (decide (vt5 ≥ s1.To)), .bool (decide (vt5 ≥ s1.To)), uV, uV, uV, uV, uV, uV, uV, uV, uV, uV, uV, uV, uV, uV, uV, uV, uV, uV, uV, uV, uV, uV, uV, uV, uV, uV, uV, uV, uV, uV], []⟩) (by kernel_rfl) ?_
    refine wpList_nil ?_
    refine hK15 _ _ ?_
    have hq_ := ite_some h; clear h; rcases hq_ with ⟨c20, h⟩ | ⟨c20, h⟩
    · have c20 : vt5 ≥ s1.To := c20
      refine wpRwI 15 (x := (decide (vt5 ≥ s1.To))) (v := true) (by kernel_rfl) (decide_eq_true c20) ?_
      refine wpRwI 16 (x := (decide (vt5 ≥ s1.To))) (v := true) (by kernel_rfl) (decide_eq_true c20) ?_
      refine condT (by kernel_rfl) ?_
      refine wp_seq_k (fun K21 hK22 => ?_)
      refine wp_region_lit ?_
      refine seqS1 (a' := ⟨#[.agg #[iV s1.ID, iV s1.At.X, iV s1.At.Y, iV s1.At.Z, iV s1.Rate, .slice A2 s1.Wave.length c3, iV s1.Period, iV s1.From, iV s1.To], iV vt5, .pointer (some ⟨b8, 0, none⟩), uV, iV 0, uV, uV, iV vt5, .pointer (some ⟨b8, 7, none⟩), iV s1.From, .bool false, .bool false, iV vt5, .pointer (some ⟨b8, 8, none⟩), iV s1.To, .bool true, .bool true, uV, uV, uV, uV, uV, uV, uV, uV, uV, uV, uV, uV, uV, uV, uV, uV, uV, uV, uV, uV, uV, uV, uV, uV, uV, uV, uV, uV, uV, uV], []⟩) (by kernel_rfl) ?_
      refine wpList_nil ?_
      refine hK22 _ _ ?_
      refine wp_ret ?_
      refine hret _ _ ?_
      refine ends_still (v := Value.int .i64 0) (by kernel_rfl) (by kernel_rfl) ?_
      have HS71 := HS10.drop
      injection h with h
      subst h
      exact ⟨f, rfl, FM.le.refl _, HS71⟩
    · have c20 : ¬ (vt5 ≥ s1.To) := c20
      refine wpRwI 15 (x := (decide (vt5 ≥ s1.To))) (v := false) (by kernel_rfl) (decide_eq_false c20) ?_
      refine wpRwI 16 (x := (decide (vt5 ≥ s1.To))) (v := false) (by kernel_rfl) (decide_eq_false c20) ?_
      refine condF (by kernel_rfl) ?_
      refine wp_skip ?_
      refine hK13 _ _ ?_
      refine wp_seq_k (fun K23 hK24 => ?_)
      refine wp_region_lit ?_
      refine seqL1 (by kernel_rfl) ?_
      refine seqK rfl (does_run (run_load rfl Try.underlying60 rfl (by kernel_rfl : _ = Value.pointer (some ⟨b8, 5, none⟩)) (HS10.cell 5)) ?_)
      refine seqS2 (a' := ⟨#[.agg #[iV s1.ID, iV s1.At.X, iV s1.At.Y, iV s1.At.Z, iV s1.Rate, .slice A2 s1.Wave.length c3, iV s1.Period, iV s1.From, iV s1.To], iV vt5, .pointer (some ⟨b8, 0, none⟩), uV, iV 0, iV (s1.Wave.length : Int), uV, iV vt5, .pointer (some ⟨b8, 7, none⟩), iV s1.From, .bool false, .bool false, iV vt5, .pointer (some ⟨b8, 8, none⟩), iV s1.To, .bool false, .bool false, .pointer (some ⟨b8, 5, none⟩), .slice A2 s1.Wave.length c3, iV (s1.Wave.length : Int), uV, uV, uV, uV, uV, uV, uV, uV, uV, uV, uV, uV, uV, uV, uV, uV, uV, uV, uV, uV, uV, uV, uV, uV, uV, uV, uV], []⟩) (by kernel_rfl) ?_
      refine wpList_nil ?_
      refine hK24 _ _ ?_
      refine wp_seq_k (fun K25 hK26 => ?_)
      refine wp_seq_k (fun K27 hK28 => ?_)
      refine wp_region_lit ?_
      refine seqS2 (a' := ⟨#[.agg #[iV s1.ID, iV s1.At.X, iV s1.At.Y, iV s1.At.Z, iV s1.Rate, .slice A2 s1.Wave.length c3, iV s1.Period, iV s1.From, iV s1.To], iV vt5, .pointer (some ⟨b8, 0, none⟩), uV, iV 0, iV (s1.Wave.length : Int), uV, iV vt5, .pointer (some ⟨b8, 7, none⟩), iV s1.From, .bool false, .bool false, iV vt5, .pointer (some ⟨b8, 8, none⟩), iV s1.To, .bool false, .bool false, .pointer (some ⟨b8, 5, none⟩), .slice A2 s1.Wave.length c3, iV (s1.Wave.length : Int), iV (s1.Wave.length : Int), .bool ((s1.Wave.length : Int) == 0), uV, uV, uV, uV, uV, uV, uV, uV, uV, uV, uV, uV, uV, uV, uV, uV, uV, uV, uV, uV, uV, uV, uV, uV, uV], []⟩) (by kernel_rfl) ?_
      refine wpList_nil ?_
      refine hK28 _ _ ?_
      have hq_ := ite_some h; clear h; rcases hq_ with ⟨c30, h⟩ | ⟨c30, h⟩
      · have c30 : (s1.Wave.length : Int) = 0 := c30
        refine wpRwI 21 (x := ((s1.Wave.length : Int) == 0)) (v := true) (by kernel_rfl) (beq_iff_eq.mpr c30) ?_
        refine condT (by kernel_rfl) ?_
        refine wp_seq_k (fun K31 hK32 => ?_)
        refine wp_region_lit ?_
        refine seqL1 (by kernel_rfl) ?_
        refine seqK rfl (does_run (run_load rfl Try.underlying34 rfl (by kernel_rfl : _ = Value.pointer (some ⟨b8, 4, none⟩)) (HS10.cell 4)) ?_)
        refine seqS1 (a' := ⟨#[.agg #[iV s1.ID, iV s1.At.X, iV s1.At.Y, iV s1.At.Z, iV s1.Rate, .slice A2 s1.Wave.length c3, iV s1.Period, iV s1.From, iV s1.To], iV vt5, .pointer (some ⟨b8, 0, none⟩), uV, iV s1.Rate, iV (s1.Wave.length : Int), uV, iV vt5, .pointer (some ⟨b8, 7, none⟩), iV s1.From, .bool false, .bool false, iV vt5, .pointer (some ⟨b8, 8, none⟩), iV s1.To, .bool false, .bool false, .pointer (some ⟨b8, 5, none⟩), .slice A2 s1.Wave.length c3, iV (s1.Wave.length : Int), iV (s1.Wave.length : Int), .bool true, .pointer (some ⟨b8, 4, none⟩), iV s1.Rate, uV, uV, uV, uV, uV, uV, uV, uV, uV, uV, uV, uV, uV, uV, uV, uV, uV, uV, uV, uV, uV, uV, uV], []⟩) (by kernel_rfl) ?_
        refine wpList_nil ?_
        refine hK32 _ _ ?_
        refine wp_ret ?_
        refine hret _ _ ?_
        refine ends_still (v := Value.int .i64 s1.Rate) (by kernel_rfl) (by kernel_rfl) ?_
        have HS72 := HS10.drop
        injection h with h
        subst h
        exact ⟨f, rfl, FM.le.refl _, HS72⟩
      · have c30 : ¬ ((s1.Wave.length : Int) = 0) := c30
        refine wpRwI 21 (x := ((s1.Wave.length : Int) == 0)) (v := false) (by kernel_rfl) (beq_eq_false_iff_ne.mpr c30) ?_
        refine condF (by kernel_rfl) ?_
        refine wp_skip ?_
        refine hK26 _ _ ?_
        refine wp_seq_k (fun K33 hK34 => ?_)
        refine wp_region_lit ?_
        refine seqL2 (by kernel_rfl) ?_
        refine seqK rfl (does_run (run_load rfl Try.underlying46 rfl (by kernel_rfl : _ = Value.pointer (some ⟨b8, 6, none⟩)) (HS10.cell 6)) ?_)
        have hq_ := guard_some h; clear h; obtain ⟨c35, h⟩ := hq_
        have c35 : ¬ (s1.Period = 0) := c35
        refine seqK rfl (does_run (run_rem rfl (by kernel_rfl : _ = Value.int .i64 vt5) (by kernel_rfl : _ = Value.int .i64 s1.Period) c35 W9) ?_)
        refine seqS1 (a' := ⟨#[.agg #[iV s1.ID, iV s1.At.X, iV s1.At.Y, iV s1.At.Z, iV s1.Rate, .slice A2 s1.Wave.length c3, iV s1.Period, iV s1.From, iV s1.To], iV vt5, .pointer (some ⟨b8, 0, none⟩), uV, iV 0, iV (s1.Wave.length : Int), iV (Int.tmod vt5 s1.Period), iV vt5, .pointer (some ⟨b8, 7, none⟩), iV s1.From, .bool false, .bool false, iV vt5, .pointer (some ⟨b8, 8, none⟩), iV s1.To, .bool false, .bool false, .pointer (some ⟨b8, 5, none⟩), .slice A2 s1.Wave.length c3, iV (s1.Wave.length : Int), iV (s1.Wave.length : Int), .bool false, uV, uV, iV vt5, .pointer (some ⟨b8, 6, none⟩), iV s1.Period, iV (Int.tmod vt5 s1.Period), uV, uV, uV, uV, uV, uV, uV, uV, uV, uV, uV, uV, uV, uV, uV, uV, uV, uV, uV], []⟩) (by kernel_rfl) ?_
        refine wpList_nil ?_
        refine hK34 _ _ ?_
        refine wp_seq_k (fun K36 hK37 => ?_)
        refine wp_seq_k (fun K38 hK39 => ?_)
        refine wp_region_lit ?_
        refine seqS2 (a' := ⟨#[.agg #[iV s1.ID, iV s1.At.X, iV s1.At.Y, iV s1.At.Z, iV s1.Rate, .slice A2 s1.Wave.length c3, iV s1.Period, iV s1.From, iV s1.To], iV vt5, .pointer (some ⟨b8, 0, none⟩), uV, iV 0, iV (s1.Wave.length : Int), iV (Int.tmod vt5 s1.Period), iV vt5, .pointer (some ⟨b8, 7, none⟩), iV s1.From, .bool false, .bool false, iV vt5, .pointer (some ⟨b8, 8, none⟩), iV s1.To, .bool false, .bool false, .pointer (some ⟨b8, 5, none⟩), .slice A2 s1.Wave.length c3, iV (s1.Wave.length : Int), iV (s1.Wave.length : Int), .bool false, uV, uV, iV vt5, .pointer (some ⟨b8, 6, none⟩), iV s1.Period, iV (Int.tmod vt5 s1.Period), iV (Int.tmod vt5 s1.Period), .bool (decide ((Int.tmod vt5 s1.Period) < 0)), uV, uV, uV, uV, uV, uV, uV, uV, uV, uV, uV, uV, uV, uV, uV, uV, uV], []⟩) (by kernel_rfl) ?_
        refine wpList_nil ?_
        refine hK39 _ _ ?_
        have hq_ := ite_some h; clear h; rcases hq_ with ⟨c41, h⟩ | ⟨c41, h⟩
        · have c41 : (Int.tmod vt5 s1.Period) < 0 := c41
          refine wpRwI 29 (x := (decide ((Int.tmod vt5 s1.Period) < 0))) (v := true) (by kernel_rfl) (decide_eq_true c41) ?_
          refine condT (by kernel_rfl) ?_
          refine wp_region_lit ?_
          refine seqL2 (by kernel_rfl) ?_
          refine seqK rfl (does_run (run_load rfl Try.underlying46 rfl (by kernel_rfl : _ = Value.pointer (some ⟨b8, 6, none⟩)) (HS10.cell 6)) ?_)
          refine seqS2 (a' := ⟨#[.agg #[iV s1.ID, iV s1.At.X, iV s1.At.Y, iV s1.At.Z, iV s1.Rate, .slice A2 s1.Wave.length c3, iV s1.Period, iV s1.From, iV s1.To], iV vt5, .pointer (some ⟨b8, 0, none⟩), uV, iV 0, iV (s1.Wave.length : Int), iV (w64 ((Int.tmod vt5 s1.Period) + s1.Period)), iV vt5, .pointer (some ⟨b8, 7, none⟩), iV s1.From, .bool false, .bool false, iV vt5, .pointer (some ⟨b8, 8, none⟩), iV s1.To, .bool false, .bool false, .pointer (some ⟨b8, 5, none⟩), .slice A2 s1.Wave.length c3, iV (s1.Wave.length : Int), iV (s1.Wave.length : Int), .bool false, uV, uV, iV vt5, .pointer (some ⟨b8, 6, none⟩), iV s1.Period, iV (Int.tmod vt5 s1.Period), iV (Int.tmod vt5 s1.Period), .bool true, iV (Int.tmod vt5 s1.Period), .pointer (some ⟨b8, 6, none⟩), iV s1.Period, iV (w64 ((Int.tmod vt5 s1.Period) + s1.Period)), uV, uV, uV, uV, uV, uV, uV, uV, uV, uV, uV, uV, uV], []⟩) (by kernel_rfl) ?_
          refine wpList_nil ?_
          refine hK37 _ _ ?_
          refine wp_seq_k (fun K42 hK43 => ?_)
          refine heldG (S := Sg t f ([(b8, .cells #[.int .i64 s1.ID, .int .i64 s1.At.X, .int .i64 s1.At.Y, .int .i64 s1.At.Z, .int .i64 s1.Rate, .slice A2 s1.Wave.length c3, .int .i64 s1.Period, .int .i64 s1.From, .int .i64 s1.To] 62 (0, 0))] :: H) []) (n := 14) (by kernel_rfl) rfl HS10 ?_
          intro W44 HS45
          refine takeG [0] (n := 14) (fuel := 13) (l' := #[true, false, false, false, false, false, false, false, false, false, false, false, false, false]) (a' := ⟨#[.agg #[iV s1.ID, iV s1.At.X, iV s1.At.Y, iV s1.At.Z, iV s1.Rate, .slice A2 s1.Wave.length c3, iV s1.Period, iV s1.From, iV s1.To], iV vt5, .pointer (some ⟨b8, 0, none⟩), uV, iV 0, iV (s1.Wave.length : Int), iV (w64 ((Int.tmod vt5 s1.Period) + s1.Period)), iV vt5, .pointer (some ⟨b8, 7, none⟩), iV s1.From, .bool false, .bool false, iV vt5, .pointer (some ⟨b8, 8, none⟩), iV s1.To, .bool false, .bool false, .pointer (some ⟨b8, 5, none⟩), .slice A2 s1.Wave.length c3, iV (s1.Wave.length : Int), iV (s1.Wave.length : Int), .bool false, uV, uV, iV vt5, .pointer (some ⟨b8, 6, none⟩), iV s1.Period, iV (Int.tmod vt5 s1.Period), iV (Int.tmod vt5 s1.Period), .bool true, iV (Int.tmod vt5 s1.Period), .pointer (some ⟨b8, 6, none⟩), iV s1.Period, iV (w64 ((Int.tmod vt5 s1.Period) + s1.Period)), .pointer (some ⟨b8, 4, none⟩), uV, uV, uV, uV, uV, uV, uV, uV, uV, uV, uV, uV], []⟩) rfl (by kernel_rfl) (by kernel_rfl) (by kernel_rfl) hnp (Sg.g0 (Sx.of [] (FM.le.refl _) HS45)) ?_
          refine takeGQ 1 [] rfl (by kernel_rfl) (by kernel_rfl) (by kernel_rfl) (by kernel_rfl) (by kernel_rfl) (by kernel_rfl) hnp (Sg.g0 (Sx.of [] (FM.le.refl _) HS45)) (fun w_ hw_ => by obtain ⟨g_, hl_, hS_⟩ := hw_.st; exact run_load rfl Try.underlying34 rfl (by kernel_rfl : _ = Value.pointer (some ⟨b8, 4, none⟩)) (hS_.cell 4)) ?_
          refine takeG [2] (n := 12) (fuel := 11) (l' := #[true, true, true, false, false, false, false, false, false, false, false, false, false, false]) (a' := ⟨#[.agg #[iV s1.ID, iV s1.At.X, iV s1.At.Y, iV s1.At.Z, iV s1.Rate, .slice A2 s1.Wave.length c3, iV s1.Period, iV s1.From, iV s1.To], iV vt5, .pointer (some ⟨b8, 0, none⟩), uV, iV 0, iV (s1.Wave.length : Int), iV (w64 ((Int.tmod vt5 s1.Period) + s1.Period)), iV vt5, .pointer (some ⟨b8, 7, none⟩), iV s1.From, .bool false, .bool false, iV vt5, .pointer (some ⟨b8, 8, none⟩), iV s1.To, .bool false, .bool false, .pointer (some ⟨b8, 5, none⟩), .slice A2 s1.Wave.length c3, iV (s1.Wave.length : Int), iV (s1.Wave.length : Int), .bool false, uV, uV, iV vt5, .pointer (some ⟨b8, 6, none⟩), iV s1.Period, iV (Int.tmod vt5 s1.Period), iV (Int.tmod vt5 s1.Period), .bool true, iV (Int.tmod vt5 s1.Period), .pointer (some ⟨b8, 6, none⟩), iV s1.Period, iV (w64 ((Int.tmod vt5 s1.Period) + s1.Period)), .pointer (some ⟨b8, 4, none⟩), iV s1.Rate, .pointer (some ⟨b8, 5, none⟩), uV, uV, uV, uV, uV, uV, uV, uV, uV, uV], []⟩) rfl (by kernel_rfl) (by kernel_rfl) (by kernel_rfl) hnp (Sg.g0 (Sx.of [] (FM.le.refl _) HS45)) ?_
          refine takeGQ 3 [] rfl (by kernel_rfl) (by kernel_rfl) (by kernel_rfl) (by kernel_rfl) (by kernel_rfl) (by kernel_rfl) hnp (Sg.g0 (Sx.of [] (FM.le.refl _) HS45)) (fun w_ hw_ => by obtain ⟨g_, hl_, hS_⟩ := hw_.st; exact run_load rfl Try.underlying60 rfl (by kernel_rfl : _ = Value.pointer (some ⟨b8, 5, none⟩)) (hS_.cell 5)) ?_
          refine takeG [4, 5] (n := 10) (fuel := 8) (l' := #[true, true, true, true, true, true, false, false, false, false, false, false, false, false]) (a' := ⟨#[.agg #[iV s1.ID, iV s1.At.X, iV s1.At.Y, iV s1.At.Z, iV s1.Rate, .slice A2 s1.Wave.length c3, iV s1.Period, iV s1.From, iV s1.To], iV vt5, .pointer (some ⟨b8, 0, none⟩), uV, iV 0, iV (s1.Wave.length : Int), iV (w64 ((Int.tmod vt5 s1.Period) + s1.Period)), iV vt5, .pointer (some ⟨b8, 7, none⟩), iV s1.From, .bool false, .bool false, iV vt5, .pointer (some ⟨b8, 8, none⟩), iV s1.To, .bool false, .bool false, .pointer (some ⟨b8, 5, none⟩), .slice A2 s1.Wave.length c3, iV (s1.Wave.length : Int), iV (s1.Wave.length : Int), .bool false, uV, uV, iV vt5, .pointer (some ⟨b8, 6, none⟩), iV s1.Period, iV (Int.tmod vt5 s1.Period), iV (Int.tmod vt5 s1.Period), .bool true, iV (Int.tmod vt5 s1.Period), .pointer (some ⟨b8, 6, none⟩), iV s1.Period, iV (w64 ((Int.tmod vt5 s1.Period) + s1.Period)), .pointer (some ⟨b8, 4, none⟩), iV s1.Rate, .pointer (some ⟨b8, 5, none⟩), .slice A2 s1.Wave.length c3, iV (w64 ((Int.tmod vt5 s1.Period) + s1.Period)), .pointer (some ⟨b8, 6, none⟩), uV, uV, uV, uV, uV, uV, uV], []⟩) rfl (by kernel_rfl) (by kernel_rfl) (by kernel_rfl) hnp (Sg.g0 (Sx.of [] (FM.le.refl _) HS45)) ?_
          refine takeGQ 6 [] rfl (by kernel_rfl) (by kernel_rfl) (by kernel_rfl) (by kernel_rfl) (by kernel_rfl) (by kernel_rfl) hnp (Sg.g0 (Sx.of [] (FM.le.refl _) HS45)) (fun w_ hw_ => by obtain ⟨g_, hl_, hS_⟩ := hw_.st; exact run_load rfl Try.underlying46 rfl (by kernel_rfl : _ = Value.pointer (some ⟨b8, 6, none⟩)) (hS_.cell 6)) ?_
          have hq_ := guard_some h; clear h; obtain ⟨c46, h⟩ := hq_
          have c46 : ¬ ((s1.Wave.length : Int) = 0) := c46
          refine takeG [7] (n := 7) (fuel := 6) (l' := #[true, true, true, true, true, true, true, true, false, false, false, false, false, false]) (a' := ⟨#[.agg #[iV s1.ID, iV s1.At.X, iV s1.At.Y, iV s1.At.Z, iV s1.Rate, .slice A2 s1.Wave.length c3, iV s1.Period, iV s1.From, iV s1.To], iV vt5, .pointer (some ⟨b8, 0, none⟩), uV, iV 0, iV (s1.Wave.length : Int), iV (w64 ((Int.tmod vt5 s1.Period) + s1.Period)), iV vt5, .pointer (some ⟨b8, 7, none⟩), iV s1.From, .bool false, .bool false, iV vt5, .pointer (some ⟨b8, 8, none⟩), iV s1.To, .bool false, .bool false, .pointer (some ⟨b8, 5, none⟩), .slice A2 s1.Wave.length c3, iV (s1.Wave.length : Int), iV (s1.Wave.length : Int), .bool false, uV, uV, iV vt5, .pointer (some ⟨b8, 6, none⟩), iV s1.Period, iV (Int.tmod vt5 s1.Period), iV (Int.tmod vt5 s1.Period), .bool true, iV (Int.tmod vt5 s1.Period), .pointer (some ⟨b8, 6, none⟩), iV s1.Period, iV (w64 ((Int.tmod vt5 s1.Period) + s1.Period)), .pointer (some ⟨b8, 4, none⟩), iV s1.Rate, .pointer (some ⟨b8, 5, none⟩), .slice A2 s1.Wave.length c3, iV (w64 ((Int.tmod vt5 s1.Period) + s1.Period)), .pointer (some ⟨b8, 6, none⟩), iV s1.Period, iV (s1.Wave.length : Int), uV, uV, uV, uV, uV], []⟩) rfl (by kernel_rfl) (by kernel_rfl) (by kernel_rfl) hnp (Sg.g0 (Sx.of [] (FM.le.refl _) HS45)) ?_
          refine takeGQ 8 [] rfl (by kernel_rfl) (by kernel_rfl) (by kernel_rfl) (by kernel_rfl) (by kernel_rfl) (by kernel_rfl) hnp (Sg.g0 (Sx.of [] (FM.le.refl _) HS45)) (fun w_ hw_ => by obtain ⟨g_, hl_, hS_⟩ := hw_.st; exact run_div rfl (by kernel_rfl : _ = Value.int .i64 s1.Period) (by kernel_rfl : _ = Value.int .i64 (s1.Wave.length : Int)) c46 w_) ?_
          have hq_ := guard_some h; clear h; obtain ⟨c47, h⟩ := hq_
          have c47 : ¬ ((w64 (Int.tdiv s1.Period (s1.Wave.length : Int))) = 0) := c47
          refine takeGQ 9 [] rfl (by kernel_rfl) (by kernel_rfl) (by kernel_rfl) (by kernel_rfl) (by kernel_rfl) (by kernel_rfl) hnp (Sg.g0 (Sx.of [] (FM.le.refl _) HS45)) (fun w_ hw_ => by obtain ⟨g_, hl_, hS_⟩ := hw_.st; exact run_div rfl (by kernel_rfl : _ = Value.int .i64 (w64 ((Int.tmod vt5 s1.Period) + s1.Period))) (by kernel_rfl : _ = Value.int .i64 (w64 (Int.tdiv s1.Period (s1.Wave.length : Int)))) c47 w_) ?_
          have hq_ := guard_some h; clear h; obtain ⟨c48, h⟩ := hq_
          have c48 : 0 ≤ (w64 (Int.tdiv (w64 ((Int.tmod vt5 s1.Period) + s1.Period)) (w64 (Int.tdiv s1.Period (s1.Wave.length : Int))))) := c48
          have hq_ := guard_some h; clear h; obtain ⟨c49, h⟩ := hq_
          have c49 : (w64 (Int.tdiv (w64 ((Int.tmod vt5 s1.Period) + s1.Period)) (w64 (Int.tdiv s1.Period (s1.Wave.length : Int))))) < (s1.Wave.length : Int) := c49
          obtain ⟨b53, of54, cs50, hA55, hr51, hc52⟩ := HR4.at (i := w64 (Int.tdiv (w64 ((Int.tmod vt5 s1.Period) + s1.Period)) (w64 (Int.tdiv s1.Period (s1.Wave.length : Int))))) c48 c49
          obtain rfl := hr51
          refine takeGQ 10 [] rfl (by kernel_rfl) (by kernel_rfl) (by kernel_rfl) (by kernel_rfl) (by kernel_rfl) (by kernel_rfl) hnp (Sg.g0 (Sx.of [] (FM.le.refl _) HS45)) (fun w_ hw_ => by obtain ⟨g_, hl_, hS_⟩ := hw_.st; exact run_indexE hA55 (sz := 1) rfl Try.underlying60 (by kernel_rfl) (by kernel_rfl : _ = Value.slice A2 s1.Wave.length c3) (by kernel_rfl : _ = Value.int .i64 (w64 (Int.tdiv (w64 ((Int.tmod vt5 s1.Period) + s1.Period)) (w64 (Int.tdiv s1.Period (s1.Wave.length : Int)))))) c48 c49 w_) ?_
          refine takeGQ 11 [] rfl (by kernel_rfl) (by kernel_rfl) (by kernel_rfl) (by kernel_rfl) (by kernel_rfl) (by kernel_rfl) hnp (Sg.g0 (Sx.of [] (FM.le.refl _) HS45)) (fun w_ hw_ => by obtain ⟨g_, hl_, hS_⟩ := hw_.st; exact run_load rfl Try.underlying34 rfl (by kernel_rfl : _ = Value.pointer (some ⟨b53, of54 + (w64 (Int.tdiv (w64 ((Int.tmod vt5 s1.Period) + s1.Period)) (w64 (Int.tdiv s1.Period (s1.Wave.length : Int)))) : Int).toNat * 1, none⟩)) ((hc52 hl_ hS_) 0 (by decide))) ?_
          refine takeG [12, 13] (n := 2) (fuel := 0) (l' := #[true, true, true, true, true, true, true, true, true, true, true, true, true, true]) (a' := ⟨#[.agg #[iV s1.ID, iV s1.At.X, iV s1.At.Y, iV s1.At.Z, iV s1.Rate, .slice A2 s1.Wave.length c3, iV s1.Period, iV s1.From, iV s1.To], iV vt5, .pointer (some ⟨b8, 0, none⟩), uV, iV (w64 (s1.Rate + (rd s1.Wave (w64 (Int.tdiv (w64 ((Int.tmod vt5 s1.Period) + s1.Period)) (w64 (Int.tdiv s1.Period (s1.Wave.length : Int)))))))), iV (s1.Wave.length : Int), iV (w64 ((Int.tmod vt5 s1.Period) + s1.Period)), iV vt5, .pointer (some ⟨b8, 7, none⟩), iV s1.From, .bool false, .bool false, iV vt5, .pointer (some ⟨b8, 8, none⟩), iV s1.To, .bool false, .bool false, .pointer (some ⟨b8, 5, none⟩), .slice A2 s1.Wave.length c3, iV (s1.Wave.length : Int), iV (s1.Wave.length : Int), .bool false, uV, uV, iV vt5, .pointer (some ⟨b8, 6, none⟩), iV s1.Period, iV (Int.tmod vt5 s1.Period), iV (Int.tmod vt5 s1.Period), .bool true, iV (Int.tmod vt5 s1.Period), .pointer (some ⟨b8, 6, none⟩), iV s1.Period, iV (w64 ((Int.tmod vt5 s1.Period) + s1.Period)), .pointer (some ⟨b8, 4, none⟩), iV s1.Rate, .pointer (some ⟨b8, 5, none⟩), .slice A2 s1.Wave.length c3, iV (w64 ((Int.tmod vt5 s1.Period) + s1.Period)), .pointer (some ⟨b8, 6, none⟩), iV s1.Period, iV (s1.Wave.length : Int), iV (w64 (Int.tdiv s1.Period (s1.Wave.length : Int))), iV (w64 (Int.tdiv (w64 ((Int.tmod vt5 s1.Period) + s1.Period)) (w64 (Int.tdiv s1.Period (s1.Wave.length : Int))))), .pointer (some ⟨b53, of54 + (w64 (Int.tdiv (w64 ((Int.tmod vt5 s1.Period) + s1.Period)) (w64 (Int.tdiv s1.Period (s1.Wave.length : Int)))) : Int).toNat * 1, none⟩), iV (rd s1.Wave (w64 (Int.tdiv (w64 ((Int.tmod vt5 s1.Period) + s1.Period)) (w64 (Int.tdiv s1.Period (s1.Wave.length : Int)))))), iV (w64 (s1.Rate + (rd s1.Wave (w64 (Int.tdiv (w64 ((Int.tmod vt5 s1.Period) + s1.Period)) (w64 (Int.tdiv s1.Period (s1.Wave.length : Int))))))))], []⟩) rfl (by kernel_rfl) (by kernel_rfl) (by kernel_rfl) hnp (Sg.g0 (Sx.of [] (FM.le.refl _) HS45)) ?_
          refine doneG (by kernel_rfl) ?_ _
          refine hK43 _ _ ?_
          refine wp_ret ?_
          refine hret _ _ ?_
          refine ends_still (v := Value.int .i64 (w64 (s1.Rate + (rd s1.Wave (w64 (Int.tdiv (w64 ((Int.tmod vt5 s1.Period) + s1.Period)) (w64 (Int.tdiv s1.Period (s1.Wave.length : Int))))))))) (by kernel_rfl) (by kernel_rfl) ?_
          have HS73 := HS45.drop
          injection h with h
          subst h
          exact ⟨f, rfl, FM.le.refl _, HS73⟩
        · have c41 : ¬ ((Int.tmod vt5 s1.Period) < 0) := c41
          refine wpRwI 29 (x := (decide ((Int.tmod vt5 s1.Period) < 0))) (v := false) (by kernel_rfl) (decide_eq_false c41) ?_
          refine condF (by kernel_rfl) ?_
          refine wp_skip ?_
          refine hK37 _ _ ?_
          refine wp_seq_k (fun K56 hK57 => ?_)
          refine heldG (S := Sg t f ([(b8, .cells #[.int .i64 s1.ID, .int .i64 s1.At.X, .int .i64 s1.At.Y, .int .i64 s1.At.Z, .int .i64 s1.Rate, .slice A2 s1.Wave.length c3, .int .i64 s1.Period, .int .i64 s1.From, .int .i64 s1.To] 62 (0, 0))] :: H) []) (n := 14) (by kernel_rfl) rfl HS10 ?_
          intro W58 HS59
          refine takeG [0] (n := 14) (fuel := 13) (l' := #[true, false, false, false, false, false, false, false, false, false, false, false, false, false]) (a' := ⟨#[.agg #[iV s1.ID, iV s1.At.X, iV s1.At.Y, iV s1.At.Z, iV s1.Rate, .slice A2 s1.Wave.length c3, iV s1.Period, iV s1.From, iV s1.To], iV vt5, .pointer (some ⟨b8, 0, none⟩), uV, iV 0, iV (s1.Wave.length : Int), iV (Int.tmod vt5 s1.Period), iV vt5, .pointer (some ⟨b8, 7, none⟩), iV s1.From, .bool false, .bool false, iV vt5, .pointer (some ⟨b8, 8, none⟩), iV s1.To, .bool false, .bool false, .pointer (some ⟨b8, 5, none⟩), .slice A2 s1.Wave.length c3, iV (s1.Wave.length : Int), iV (s1.Wave.length : Int), .bool false, uV, uV, iV vt5, .pointer (some ⟨b8, 6, none⟩), iV s1.Period, iV (Int.tmod vt5 s1.Period), iV (Int.tmod vt5 s1.Period), .bool false, uV, uV, uV, uV, .pointer (some ⟨b8, 4, none⟩), uV, uV, uV, uV, uV, uV, uV, uV, uV, uV, uV, uV], []⟩) rfl (by kernel_rfl) (by kernel_rfl) (by kernel_rfl) hnp (Sg.g0 (Sx.of [] (FM.le.refl _) HS59)) ?_
          refine takeGQ 1 [] rfl (by kernel_rfl) (by kernel_rfl) (by kernel_rfl) (by kernel_rfl) (by kernel_rfl) (by kernel_rfl) hnp (Sg.g0 (Sx.of [] (FM.le.refl _) HS59)) (fun w_ hw_ => by obtain ⟨g_, hl_, hS_⟩ := hw_.st; exact run_load rfl Try.underlying34 rfl (by kernel_rfl : _ = Value.pointer (some ⟨b8, 4, none⟩)) (hS_.cell 4)) ?_
          refine takeG [2] (n := 12) (fuel := 11) (l' := #[true, true, true, false, false, false, false, false, false, false, false, false, false, false]) (a' := ⟨#[.agg #[iV s1.ID, iV s1.At.X, iV s1.At.Y, iV s1.At.Z, iV s1.Rate, .slice A2 s1.Wave.length c3, iV s1.Period, iV s1.From, iV s1.To], iV vt5, .pointer (some ⟨b8, 0, none⟩), uV, iV 0, iV (s1.Wave.length : Int), iV (Int.tmod vt5 s1.Period), iV vt5, .pointer (some ⟨b8, 7, none⟩), iV s1.From, .bool false, .bool false, iV vt5, .pointer (some ⟨b8, 8, none⟩), iV s1.To, .bool false, .bool false, .pointer (some ⟨b8, 5, none⟩), .slice A2 s1.Wave.length c3, iV (s1.Wave.length : Int), iV (s1.Wave.length : Int), .bool false, uV, uV, iV vt5, .pointer (some ⟨b8, 6, none⟩), iV s1.Period, iV (Int.tmod vt5 s1.Period), iV (Int.tmod vt5 s1.Period), .bool false, uV, uV, uV, uV, .pointer (some ⟨b8, 4, none⟩), iV s1.Rate, .pointer (some ⟨b8, 5, none⟩), uV, uV, uV, uV, uV, uV, uV, uV, uV, uV], []⟩) rfl (by kernel_rfl) (by kernel_rfl) (by kernel_rfl) hnp (Sg.g0 (Sx.of [] (FM.le.refl _) HS59)) ?_
          refine takeGQ 3 [] rfl (by kernel_rfl) (by kernel_rfl) (by kernel_rfl) (by kernel_rfl) (by kernel_rfl) (by kernel_rfl) hnp (Sg.g0 (Sx.of [] (FM.le.refl _) HS59)) (fun w_ hw_ => by obtain ⟨g_, hl_, hS_⟩ := hw_.st; exact run_load rfl Try.underlying60 rfl (by kernel_rfl : _ = Value.pointer (some ⟨b8, 5, none⟩)) (hS_.cell 5)) ?_
          refine takeG [4, 5] (n := 10) (fuel := 8) (l' := #[true, true, true, true, true, true, false, false, false, false, false, false, false, false]) (a' := ⟨#[.agg #[iV s1.ID, iV s1.At.X, iV s1.At.Y, iV s1.At.Z, iV s1.Rate, .slice A2 s1.Wave.length c3, iV s1.Period, iV s1.From, iV s1.To], iV vt5, .pointer (some ⟨b8, 0, none⟩), uV, iV 0, iV (s1.Wave.length : Int), iV (Int.tmod vt5 s1.Period), iV vt5, .pointer (some ⟨b8, 7, none⟩), iV s1.From, .bool false, .bool false, iV vt5, .pointer (some ⟨b8, 8, none⟩), iV s1.To, .bool false, .bool false, .pointer (some ⟨b8, 5, none⟩), .slice A2 s1.Wave.length c3, iV (s1.Wave.length : Int), iV (s1.Wave.length : Int), .bool false, uV, uV, iV vt5, .pointer (some ⟨b8, 6, none⟩), iV s1.Period, iV (Int.tmod vt5 s1.Period), iV (Int.tmod vt5 s1.Period), .bool false, uV, uV, uV, uV, .pointer (some ⟨b8, 4, none⟩), iV s1.Rate, .pointer (some ⟨b8, 5, none⟩), .slice A2 s1.Wave.length c3, iV (Int.tmod vt5 s1.Period), .pointer (some ⟨b8, 6, none⟩), uV, uV, uV, uV, uV, uV, uV], []⟩) rfl (by kernel_rfl) (by kernel_rfl) (by kernel_rfl) hnp (Sg.g0 (Sx.of [] (FM.le.refl _) HS59)) ?_
          refine takeGQ 6 [] rfl (by kernel_rfl) (by kernel_rfl) (by kernel_rfl) (by kernel_rfl) (by kernel_rfl) (by kernel_rfl) hnp (Sg.g0 (Sx.of [] (FM.le.refl _) HS59)) (fun w_ hw_ => by obtain ⟨g_, hl_, hS_⟩ := hw_.st; exact run_load rfl Try.underlying46 rfl (by kernel_rfl : _ = Value.pointer (some ⟨b8, 6, none⟩)) (hS_.cell 6)) ?_
          have hq_ := guard_some h; clear h; obtain ⟨c60, h⟩ := hq_
          have c60 : ¬ ((s1.Wave.length : Int) = 0) := c60
          refine takeG [7] (n := 7) (fuel := 6) (l' := #[true, true, true, true, true, true, true, true, false, false, false, false, false, false]) (a' := ⟨#[.agg #[iV s1.ID, iV s1.At.X, iV s1.At.Y, iV s1.At.Z, iV s1.Rate, .slice A2 s1.Wave.length c3, iV s1.Period, iV s1.From, iV s1.To], iV vt5, .pointer (some ⟨b8, 0, none⟩), uV, iV 0, iV (s1.Wave.length : Int), iV (Int.tmod vt5 s1.Period), iV vt5, .pointer (some ⟨b8, 7, none⟩), iV s1.From, .bool false, .bool false, iV vt5, .pointer (some ⟨b8, 8, none⟩), iV s1.To, .bool false, .bool false, .pointer (some ⟨b8, 5, none⟩), .slice A2 s1.Wave.length c3, iV (s1.Wave.length : Int), iV (s1.Wave.length : Int), .bool false, uV, uV, iV vt5, .pointer (some ⟨b8, 6, none⟩), iV s1.Period, iV (Int.tmod vt5 s1.Period), iV (Int.tmod vt5 s1.Period), .bool false, uV, uV, uV, uV, .pointer (some ⟨b8, 4, none⟩), iV s1.Rate, .pointer (some ⟨b8, 5, none⟩), .slice A2 s1.Wave.length c3, iV (Int.tmod vt5 s1.Period), .pointer (some ⟨b8, 6, none⟩), iV s1.Period, iV (s1.Wave.length : Int), uV, uV, uV, uV, uV], []⟩) rfl (by kernel_rfl) (by kernel_rfl) (by kernel_rfl) hnp (Sg.g0 (Sx.of [] (FM.le.refl _) HS59)) ?_
          refine takeGQ 8 [] rfl (by kernel_rfl) (by kernel_rfl) (by kernel_rfl) (by kernel_rfl) (by kernel_rfl) (by kernel_rfl) hnp (Sg.g0 (Sx.of [] (FM.le.refl _) HS59)) (fun w_ hw_ => by obtain ⟨g_, hl_, hS_⟩ := hw_.st; exact run_div rfl (by kernel_rfl : _ = Value.int .i64 s1.Period) (by kernel_rfl : _ = Value.int .i64 (s1.Wave.length : Int)) c60 w_) ?_
          have hq_ := guard_some h; clear h; obtain ⟨c61, h⟩ := hq_
          have c61 : ¬ ((w64 (Int.tdiv s1.Period (s1.Wave.length : Int))) = 0) := c61
          refine takeGQ 9 [] rfl (by kernel_rfl) (by kernel_rfl) (by kernel_rfl) (by kernel_rfl) (by kernel_rfl) (by kernel_rfl) hnp (Sg.g0 (Sx.of [] (FM.le.refl _) HS59)) (fun w_ hw_ => by obtain ⟨g_, hl_, hS_⟩ := hw_.st; exact run_div rfl (by kernel_rfl : _ = Value.int .i64 (Int.tmod vt5 s1.Period)) (by kernel_rfl : _ = Value.int .i64 (w64 (Int.tdiv s1.Period (s1.Wave.length : Int)))) c61 w_) ?_
          have hq_ := guard_some h; clear h; obtain ⟨c62, h⟩ := hq_
          have c62 : 0 ≤ (w64 (Int.tdiv (Int.tmod vt5 s1.Period) (w64 (Int.tdiv s1.Period (s1.Wave.length : Int))))) := c62
          have hq_ := guard_some h; clear h; obtain ⟨c63, h⟩ := hq_
          have c63 : (w64 (Int.tdiv (Int.tmod vt5 s1.Period) (w64 (Int.tdiv s1.Period (s1.Wave.length : Int))))) < (s1.Wave.length : Int) := c63
          obtain ⟨b67, of68, cs64, hA69, hr65, hc66⟩ := HR4.at (i := w64 (Int.tdiv (Int.tmod vt5 s1.Period) (w64 (Int.tdiv s1.Period (s1.Wave.length : Int))))) c62 c63
          obtain rfl := hr65
          refine takeGQ 10 [] rfl (by kernel_rfl) (by kernel_rfl) (by kernel_rfl) (by kernel_rfl) (by kernel_rfl) (by kernel_rfl) hnp (Sg.g0 (Sx.of [] (FM.le.refl _) HS59)) (fun w_ hw_ => by obtain ⟨g_, hl_, hS_⟩ := hw_.st; exact run_indexE hA69 (sz := 1) rfl Try.underlying60 (by kernel_rfl) (by kernel_rfl : _ = Value.slice A2 s1.Wave.length c3) (by kernel_rfl : _ = Value.int .i64 (w64 (Int.tdiv (Int.tmod vt5 s1.Period) (w64 (Int.tdiv s1.Period (s1.Wave.length : Int)))))) c62 c63 w_) ?_
          refine takeGQ 11 [] rfl (by kernel_rfl) (by kernel_rfl) (by kernel_rfl) (by kernel_rfl) (by kernel_rfl) (by kernel_rfl) hnp (Sg.g0 (Sx.of [] (FM.le.refl _) HS59)) (fun w_ hw_ => by obtain ⟨g_, hl_, hS_⟩ := hw_.st; exact run_load rfl Try.underlying34 rfl (by kernel_rfl : _ = Value.pointer (some ⟨b67, of68 + (w64 (Int.tdiv (Int.tmod vt5 s1.Period) (w64 (Int.tdiv s1.Period (s1.Wave.length : Int)))) : Int).toNat * 1, none⟩)) ((hc66 hl_ hS_) 0 (by decide))) ?_
          refine takeG [12, 13] (n := 2) (fuel := 0) (l' := #[true, true, true, true, true, true, true, true, true, true, true, true, true, true]) (a' := ⟨#[.agg #[iV s1.ID, iV s1.At.X, iV s1.At.Y, iV s1.At.Z, iV s1.Rate, .slice A2 s1.Wave.length c3, iV s1.Period, iV s1.From, iV s1.To], iV vt5, .pointer (some ⟨b8, 0, none⟩), uV, iV (w64 (s1.Rate + (rd s1.Wave (w64 (Int.tdiv (Int.tmod vt5 s1.Period) (w64 (Int.tdiv s1.Period (s1.Wave.length : Int)))))))), iV (s1.Wave.length : Int), iV (Int.tmod vt5 s1.Period), iV vt5, .pointer (some ⟨b8, 7, none⟩), iV s1.From, .bool false, .bool false, iV vt5, .pointer (some ⟨b8, 8, none⟩), iV s1.To, .bool false, .bool false, .pointer (some ⟨b8, 5, none⟩), .slice A2 s1.Wave.length c3, iV (s1.Wave.length : Int), iV (s1.Wave.length : Int), .bool false, uV, uV, iV vt5, .pointer (some ⟨b8, 6, none⟩), iV s1.Period, iV (Int.tmod vt5 s1.Period), iV (Int.tmod vt5 s1.Period), .bool false, uV, uV, uV, uV, .pointer (some ⟨b8, 4, none⟩), iV s1.Rate, .pointer (some ⟨b8, 5, none⟩), .slice A2 s1.Wave.length c3, iV (Int.tmod vt5 s1.Period), .pointer (some ⟨b8, 6, none⟩), iV s1.Period, iV (s1.Wave.length : Int), iV (w64 (Int.tdiv s1.Period (s1.Wave.length : Int))), iV (w64 (Int.tdiv (Int.tmod vt5 s1.Period) (w64 (Int.tdiv s1.Period (s1.Wave.length : Int))))), .pointer (some ⟨b67, of68 + (w64 (Int.tdiv (Int.tmod vt5 s1.Period) (w64 (Int.tdiv s1.Period (s1.Wave.length : Int)))) : Int).toNat * 1, none⟩), iV (rd s1.Wave (w64 (Int.tdiv (Int.tmod vt5 s1.Period) (w64 (Int.tdiv s1.Period (s1.Wave.length : Int)))))), iV (w64 (s1.Rate + (rd s1.Wave (w64 (Int.tdiv (Int.tmod vt5 s1.Period) (w64 (Int.tdiv s1.Period (s1.Wave.length : Int))))))))], []⟩) rfl (by kernel_rfl) (by kernel_rfl) (by kernel_rfl) hnp (Sg.g0 (Sx.of [] (FM.le.refl _) HS59)) ?_
          refine doneG (by kernel_rfl) ?_ _
          refine hK57 _ _ ?_
          refine wp_ret ?_
          refine hret _ _ ?_
          refine ends_still (v := Value.int .i64 (w64 (s1.Rate + (rd s1.Wave (w64 (Int.tdiv (Int.tmod vt5 s1.Period) (w64 (Int.tdiv s1.Period (s1.Wave.length : Int))))))))) (by kernel_rfl) (by kernel_rfl) ?_
          have HS74 := HS59.drop
          injection h with h
          subst h
          exact ⟨f, rfl, FM.le.refl _, HS74⟩

set_option maxRecDepth 100000 in
set_option maxHeartbeats 4000000 in
theorem sky_Rate.calls (k : Nat) (A2 : Option Addr) (c3 : Nat) (A5 : Option Addr) (c6 : Nat) (A8 : Option Addr) (c9 : Nat) (s1 : S_Sky) (vid11 : Int) (vt12 : Int) {t w : World} {f : FM} {H : List Seg} (HS : St t w f (H)) (HR4 : SlR ty_Star f A2 c3 s1.Stars) (HR7 : SlR ty_Galaxy f A5 c6 s1.Galaxies) (HR10 : SlR ty_Body f A8 c9 s1.Bodies) (r1 : Int) (r2 : Int) (h : sky_Rate k s1 vid11 vt12 = some (r1, r2)) :
    Calls Try.prog 25 #[.agg #[.int .i64 s1.Back, .slice A2 s1.Stars.length c3, .slice A5 s1.Galaxies.length c6, .slice A8 s1.Bodies.length c9, .int .i64 s1.Home.ID, .int .i64 s1.Home.Was.X, .int .i64 s1.Home.Was.Y, .int .i64 s1.Home.Was.Z, .int .i64 s1.Home.Here.X, .int .i64 s1.Home.Here.Y, .int .i64 s1.Home.Here.Z, .int .i64 s1.Home.Rate], .int .i64 vid11, .int .i64 vt12] w (fun e w' => ∃ (g : FM), e = .returned (Value.tuple #[.int .i64 r1, .int .i64 r2]) ∧ FM.le f g ∧ St t w' g (H)) := by
  unfold sky_Rate at h
  refine enter Try.func25 rfl (tm := #[.agg #[iV s1.Back, .slice A2 s1.Stars.length c3, .slice A5 s1.Galaxies.length c6, .slice A8 s1.Bodies.length c9, iV s1.Home.ID, iV s1.Home.Was.X, iV s1.Home.Was.Y, iV s1.Home.Was.Z, iV s1.Home.Here.X, iV s1.Home.Here.Y, iV s1.Home.Here.Z, iV s1.Home.Rate], iV vid11, iV vt12, uV, uV, uV, uV, uV, uV, uV, uV, uV, uV, uV, uV, uV, uV, uV, uV, uV, uV, uV, uV, uV, uV, uV, uV, uV, uV, uV, uV, uV, uV, uV, uV, uV, uV, uV, uV, uV, uV, uV, uV, uV, uV, uV, uV, uV, uV, uV, uV, uV, uV, uV, uV, uV, uV, uV, uV, uV, uV, uV, uV, uV]) (by kernel_rfl) ?_
  intro B hret hnor hnp
  refine wp_seq_k (fun K13 hK14 => ?_)
  refine wp_region_lit ?_
  refine seqK rfl (does_box (cs := #[.int .i64 s1.Back, .slice A2 s1.Stars.length c3, .slice A5 s1.Galaxies.length c6, .slice A8 s1.Bodies.length c9, .int .i64 s1.Home.ID, .int .i64 s1.Home.Was.X, .int .i64 s1.Home.Was.Y, .int .i64 s1.Home.Was.Z, .int .i64 s1.Home.Here.X, .int .i64 s1.Home.Here.Y, .int .i64 s1.Home.Here.Z, .int .i64 s1.Home.Rate]) rfl (by kernel_rfl : _ = Value.agg #[.int .i64 s1.Back, .slice A2 s1.Stars.length c3, .slice A5 s1.Galaxies.length c6, .slice A8 s1.Bodies.length c9, .int .i64 s1.Home.ID, .int .i64 s1.Home.Was.X, .int .i64 s1.Home.Was.Y, .int .i64 s1.Home.Was.Z, .int .i64 s1.Home.Here.X, .int .i64 s1.Home.Here.Y, .int .i64 s1.Home.Here.Z, .int .i64 s1.Home.Rate]) rfl HS ?_)
  intro b15 W16 HS17
  refine seqS2 (a' := ⟨#[.agg #[iV s1.Back, .slice A2 s1.Stars.length c3, .slice A5 s1.Galaxies.length c6, .slice A8 s1.Bodies.length c9, iV s1.Home.ID, iV s1.Home.Was.X, iV s1.Home.Was.Y, iV s1.Home.Was.Z, iV s1.Home.Here.X, iV s1.Home.Here.Y, iV s1.Home.Here.Z, iV s1.Home.Rate], iV vid11, iV vt12, .pointer (some ⟨b15, 0, none⟩), uV, uV, iV 0, iV 0, uV, uV, uV, uV, uV, uV, uV, uV, uV, uV, uV, uV, uV, uV, uV, uV, uV, uV, uV, uV, uV, uV, uV, uV, uV, uV, uV, uV, uV, uV, uV, uV, uV, uV, uV, uV, uV, uV, uV, uV, uV, uV, uV, uV, uV, uV, uV, uV, uV, uV, uV, uV, uV, uV, uV, uV], []⟩) (by kernel_rfl) ?_
  refine wpList_nil ?_
  refine hK14 _ _ ?_
  refine wp_seq_k (fun K19 hK20 => ?_)
  refine wp_seq_k (fun K21 hK22 => ?_)
  refine wp_region_lit ?_
  refine seqK rfl (does_run (run_loadN (n := 12) rfl Try.underlying69 rfl (by kernel_rfl) (by kernel_rfl : _ = Value.pointer (some ⟨b15, 0, none⟩)) (cs := [.int .i64 s1.Back, .slice A2 s1.Stars.length c3, .slice A5 s1.Galaxies.length c6, .slice A8 s1.Bodies.length c9, .int .i64 s1.Home.ID, .int .i64 s1.Home.Was.X, .int .i64 s1.Home.Was.Y, .int .i64 s1.Home.Was.Z, .int .i64 s1.Home.Here.X, .int .i64 s1.Home.Here.Y, .int .i64 s1.Home.Here.Z, .int .i64 s1.Home.Rate]) rfl (HS17.cells 0 12 _ rfl)) ?_)
  have hq_ := bind_some h; clear h; obtain ⟨vt23, hc24, h⟩ := hq_
  refine seqL1 (by kernel_rfl) ?_
  refine seqK rfl (does_call (f := 42) (args := #[.agg #[.int .i64 s1.Back, .slice A2 s1.Stars.length c3, .slice A5 s1.Galaxies.length c6, .slice A8 s1.Bodies.length c9, .int .i64 s1.Home.ID, .int .i64 s1.Home.Was.X, .int .i64 s1.Home.Was.Y, .int .i64 s1.Home.Was.Z, .int .i64 s1.Home.Here.X, .int .i64 s1.Home.Here.Y, .int .i64 s1.Home.Here.Z, .int .i64 s1.Home.Rate], .int .i64 vt12]) (by kernel_rfl) (sky_timed.calls k A2 c3 A5 c6 A8 c9 s1 vt12 HS17 HR4 HR7 HR10 vt23 hc24) ?_)
  rintro _ W27 ⟨f25, rfl, L26, HS28⟩
  refine ⟨_, rfl, ?_⟩
  refine seqS1 (a' := ⟨#[.agg #[iV s1.Back, .slice A2 s1.Stars.length c3, .slice A5 s1.Galaxies.length c6, .slice A8 s1.Bodies.length c9, iV s1.Home.ID, iV s1.Home.Was.X, iV s1.Home.Was.Y, iV s1.Home.Was.Z, iV s1.Home.Here.X, iV s1.Home.Here.Y, iV s1.Home.Here.Z, iV s1.Home.Rate], iV vid11, iV vt12, .pointer (some ⟨b15, 0, none⟩), uV, uV, iV 0, iV 0, iV vt23, uV, uV, uV, uV, uV, uV, .agg #[iV s1.Back, .slice A2 s1.Stars.length c3, .slice A5 s1.Galaxies.length c6, .slice A8 s1.Bodies.length c9, iV s1.Home.ID, iV s1.Home.Was.X, iV s1.Home.Was.Y, iV s1.Home.Was.Z, iV s1.Home.Here.X, iV s1.Home.Here.Y, iV s1.Home.Here.Z, iV s1.Home.Rate], iV vt12, iV vt23, uV, uV, uV, uV, uV, uV, uV, uV, uV, uV, uV, uV, uV, uV, uV, uV, uV, uV, uV, uV, uV, uV, uV, uV, uV, uV, uV, uV, uV, uV, uV, uV, uV, uV, uV, uV, uV, uV, uV, uV, uV, uV, uV, uV, uV, uV], []⟩) (by kernel_rfl) ?_
  refine wpList_nil ?_
  refine hK22 _ _ ?_
  refine wp_seq_k (fun K29 hK30 => ?_)
  refine wp_region_lit ?_
  refine seqS2 (a' := ⟨#[.agg #[iV s1.Back, .slice A2 s1.Stars.length c3, .slice A5 s1.Galaxies.length c6, .slice A8 s1.Bodies.length c9, iV s1.Home.ID, iV s1.Home.Was.X, iV s1.Home.Was.Y, iV s1.Home.Was.Z, iV s1.Home.Here.X, iV s1.Home.Here.Y, iV s1.Home.Here.Z, iV s1.Home.Rate], iV vid11, iV vt12, .pointer (some ⟨b15, 0, none⟩), uV, uV, iV 0, iV 0, iV vt23, uV, uV, uV, uV, uV, uV, .agg #[iV s1.Back, .slice A2 s1.Stars.length c3, .slice A5 s1.Galaxies.length c6, .slice A8 s1.Bodies.length c9, iV s1.Home.ID, iV s1.Home.Was.X, iV s1.Home.Was.Y, iV s1.Home.Was.Z, iV s1.Home.Here.X, iV s1.Home.Here.Y, iV s1.Home.Here.Z, iV s1.Home.Rate], iV vt12, iV vt23, iV vt23, .bool (vt23 != 0), uV, uV, uV, uV, uV, uV, uV, uV, uV, uV, uV, uV, uV, uV, uV, uV, uV, uV, uV, uV, uV, uV, uV, uV, uV, uV, uV, uV, uV, uV, uV, uV, uV, uV, uV, uV, uV, uV, uV, uV, uV, uV, uV, uV], []⟩) (by kernel_rfl) ?_
  refine wpList_nil ?_
  refine hK30 _ _ ?_
  have hq_ := ite_some h; clear h; rcases hq_ with ⟨c32, h⟩ | ⟨c32, h⟩
  · have c32 : vt23 ≠ 0 := c32
    refine wpRwI 19 (x := (vt23 != 0)) (v := true) (by kernel_rfl) (bne_iff_ne.mpr c32) ?_
    refine condT (by kernel_rfl) ?_
    refine wp_seq_k (fun K33 hK34 => ?_)
    refine wp_region_lit ?_
    refine seqS3 (a' := ⟨#[.agg #[iV s1.Back, .slice A2 s1.Stars.length c3, .slice A5 s1.Galaxies.length c6, .slice A8 s1.Bodies.length c9, iV s1.Home.ID, iV s1.Home.Was.X, iV s1.Home.Was.Y, iV s1.Home.Was.Z, iV s1.Home.Here.X, iV s1.Home.Here.Y, iV s1.Home.Here.Z, iV s1.Home.Rate], iV vid11, iV vt12, .pointer (some ⟨b15, 0, none⟩), uV, uV, iV 0, iV vt23, iV vt23, uV, uV, uV, uV, uV, uV, .agg #[iV s1.Back, .slice A2 s1.Stars.length c3, .slice A5 s1.Galaxies.length c6, .slice A8 s1.Bodies.length c9, iV s1.Home.ID, iV s1.Home.Was.X, iV s1.Home.Was.Y, iV s1.Home.Was.Z, iV s1.Home.Here.X, iV s1.Home.Here.Y, iV s1.Home.Here.Z, iV s1.Home.Rate], iV vt12, iV vt23, iV vt23, .bool true, iV vt23, uV, uV, uV, uV, uV, uV, uV, uV, uV, uV, uV, uV, uV, uV, uV, uV, uV, uV, uV, uV, uV, uV, uV, uV, uV, uV, uV, uV, uV, uV, uV, uV, uV, uV, uV, uV, uV, uV, uV, uV, uV, uV, uV], []⟩) (by kernel_rfl) ?_
    refine wpList_nil ?_
    refine hK34 _ _ ?_
    refine wp_ret ?_
    refine hret _ _ ?_
    refine ends_still (v := Value.tuple #[.int .i64 0, .int .i64 vt23]) (by kernel_rfl) (by kernel_rfl) ?_
    have HS248 := HS28.drop
    injection h with h
    injection h with h0_ h
    subst h0_ h
    exact ⟨f25, rfl, L26, HS248⟩
  · have c32 : ¬ (vt23 ≠ 0) := c32
    refine wpRwI 19 (x := (vt23 != 0)) (v := false) (by kernel_rfl) (bne_eq_false_iff_eq.mpr (Decidable.of_not_not c32)) ?_
    refine condF (by kernel_rfl) ?_
    refine wp_skip ?_
    refine hK20 _ _ ?_
    refine wp_seq_k (fun K35 hK36 => ?_)
    refine wp_seq_k (fun K37 hK38 => ?_)
    refine wp_region_lit ?_
    refine seqL1 (by kernel_rfl) ?_
    refine seqK rfl (does_run (run_load rfl Try.underlying65 rfl (by kernel_rfl : _ = Value.pointer (some ⟨b15, 1, none⟩)) (HS28.cell 1)) ?_)
    refine seqS2 (a' := ⟨#[.agg #[iV s1.Back, .slice A2 s1.Stars.length c3, .slice A5 s1.Galaxies.length c6, .slice A8 s1.Bodies.length c9, iV s1.Home.ID, iV s1.Home.Was.X, iV s1.Home.Was.Y, iV s1.Home.Was.Z, iV s1.Home.Here.X, iV s1.Home.Here.Y, iV s1.Home.Here.Z, iV s1.Home.Rate], iV vid11, iV vt12, .pointer (some ⟨b15, 0, none⟩), uV, uV, iV 0, iV 0, iV vt23, uV, uV, uV, uV, uV, uV, .agg #[iV s1.Back, .slice A2 s1.Stars.length c3, .slice A5 s1.Galaxies.length c6, .slice A8 s1.Bodies.length c9, iV s1.Home.ID, iV s1.Home.Was.X, iV s1.Home.Was.Y, iV s1.Home.Was.Z, iV s1.Home.Here.X, iV s1.Home.Here.Y, iV s1.Home.Here.Z, iV s1.Home.Rate], iV vt12, iV vt23, iV vt23, .bool false, uV, .pointer (some ⟨b15, 1, none⟩), .slice A2 s1.Stars.length c3, iV (s1.Stars.length : Int), iV 0, uV, uV, uV, uV, uV, uV, uV, uV, uV, uV, uV, uV, uV, uV, uV, uV, uV, uV, uV, uV, uV, uV, uV, uV, uV, uV, uV, uV, uV, uV, uV, uV, uV, uV, uV, uV, uV, uV, uV], []⟩) (by kernel_rfl) ?_
    refine wpList_nil ?_
    refine hK38 _ _ ?_
    refine blockK (fun B39 hx40 hn41 hr42 ho43 hp44 => ?_)
    have hq_ := bind_some h; clear h; obtain ⟨o45, hv103, h⟩ := hq_
    have JR105 : ∀ z_, some (Sum.inl z_) = some o45 → some z_ = some (r1, r2) := by
      intro z_ e_; injection e_ with e_; subst e_; exact h
    have J104 : ∀ (f98 : FM) (j102 : Nat → Value) (W100 : World) (a_ : Act), FM.le f25 f98 → some (Sum.inr ()) = some o45 → St t W100 f98 ([(b15, .cells #[.int .i64 s1.Back, .slice A2 s1.Stars.length c3, .slice A5 s1.Galaxies.length c6, .slice A8 s1.Bodies.length c9, .int .i64 s1.Home.ID, .int .i64 s1.Home.Was.X, .int .i64 s1.Home.Was.Y, .int .i64 s1.Home.Was.Z, .int .i64 s1.Home.Here.X, .int .i64 s1.Home.Here.Y, .int .i64 s1.Home.Here.Z, .int .i64 s1.Home.Rate] 69 (0, 0))] :: H) → a_ = ⟨#[.agg #[iV s1.Back, .slice A2 s1.Stars.length c3, .slice A5 s1.Galaxies.length c6, .slice A8 s1.Bodies.length c9, iV s1.Home.ID, iV s1.Home.Was.X, iV s1.Home.Was.Y, iV s1.Home.Was.Z, iV s1.Home.Here.X, iV s1.Home.Here.Y, iV s1.Home.Here.Z, iV s1.Home.Rate], iV vid11, iV vt12, .pointer (some ⟨b15, 0, none⟩), uV, uV, (j102 0), (j102 1), iV vt23, uV, (j102 2), uV, uV, uV, uV, .agg #[iV s1.Back, .slice A2 s1.Stars.length c3, .slice A5 s1.Galaxies.length c6, .slice A8 s1.Bodies.length c9, iV s1.Home.ID, iV s1.Home.Was.X, iV s1.Home.Was.Y, iV s1.Home.Was.Z, iV s1.Home.Here.X, iV s1.Home.Here.Y, iV s1.Home.Here.Z, iV s1.Home.Rate], iV vt12, iV vt23, iV vt23, .bool false, uV, .pointer (some ⟨b15, 1, none⟩), .slice A2 s1.Stars.length c3, iV (s1.Stars.length : Int), (j102 3), (j102 4), (j102 5), (j102 6), (j102 7), (j102 8), (j102 9), (j102 10), (j102 11), (j102 12), (j102 13), (j102 14), uV, uV, uV, uV, uV, uV, uV, uV, uV, uV, uV, uV, uV, uV, uV, uV, uV, uV, uV, uV, uV, uV, uV, uV, uV, uV, uV, uV], []⟩ → K35 a_ W100 := by
      intro f98 j102 W100 a_ L99 hj106 HS101  hfr_; subst hfr_
      injection hj106 with hj106; subst hj106; try dsimp only at h
      simp only [Sum.elim_inr] at h
      refine hK36 _ _ ?_
      refine wp_seq_k (fun K110 hK111 => ?_)
      refine wp_seq_k (fun K112 hK113 => ?_)
      refine wp_region_lit ?_
      refine seqL1 (by kernel_rfl) ?_
      refine seqK rfl (does_run (run_load rfl Try.underlying66 rfl (by kernel_rfl : _ = Value.pointer (some ⟨b15, 2, none⟩)) (HS101.cell 2)) ?_)
      refine seqS2 (a' := ⟨#[.agg #[iV s1.Back, .slice A2 s1.Stars.length c3, .slice A5 s1.Galaxies.length c6, .slice A8 s1.Bodies.length c9, iV s1.Home.ID, iV s1.Home.Was.X, iV s1.Home.Was.Y, iV s1.Home.Was.Z, iV s1.Home.Here.X, iV s1.Home.Here.Y, iV s1.Home.Here.Z, iV s1.Home.Rate], iV vid11, iV vt12, .pointer (some ⟨b15, 0, none⟩), uV, uV, (j102 0), (j102 1), iV vt23, uV, (j102 2), uV, uV, uV, uV, .agg #[iV s1.Back, .slice A2 s1.Stars.length c3, .slice A5 s1.Galaxies.length c6, .slice A8 s1.Bodies.length c9, iV s1.Home.ID, iV s1.Home.Was.X, iV s1.Home.Was.Y, iV s1.Home.Was.Z, iV s1.Home.Here.X, iV s1.Home.Here.Y, iV s1.Home.Here.Z, iV s1.Home.Rate], iV vt12, iV vt23, iV vt23, .bool false, uV, .pointer (some ⟨b15, 1, none⟩), .slice A2 s1.Stars.length c3, iV (s1.Stars.length : Int), (j102 3), (j102 4), (j102 5), (j102 6), (j102 7), (j102 8), (j102 9), (j102 10), (j102 11), (j102 12), (j102 13), (j102 14), .pointer (some ⟨b15, 2, none⟩), .slice A5 s1.Galaxies.length c6, iV (s1.Galaxies.length : Int), iV 0, uV, uV, uV, uV, uV, uV, uV, uV, uV, uV, uV, uV, uV, uV, uV, uV, uV, uV, uV, uV, uV, uV, uV, uV], []⟩) (by kernel_rfl) ?_
      refine wpList_nil ?_
      refine hK113 _ _ ?_
      refine blockK (fun B114 hx115 hn116 hr117 ho118 hp119 => ?_)
      have hq_ := bind_some h; clear h; obtain ⟨o120, hv171, h⟩ := hq_
      have JR173 : ∀ z_, some (Sum.inl z_) = some o120 → some z_ = some (r1, r2) := by
        intro z_ e_; injection e_ with e_; subst e_; exact h
      have J172 : ∀ (f166 : FM) (j170 : Nat → Value) (W168 : World) (a_ : Act), FM.le f98 f166 → some (Sum.inr ()) = some o120 → St t W168 f166 ([(b15, .cells #[.int .i64 s1.Back, .slice A2 s1.Stars.length c3, .slice A5 s1.Galaxies.length c6, .slice A8 s1.Bodies.length c9, .int .i64 s1.Home.ID, .int .i64 s1.Home.Was.X, .int .i64 s1.Home.Was.Y, .int .i64 s1.Home.Was.Z, .int .i64 s1.Home.Here.X, .int .i64 s1.Home.Here.Y, .int .i64 s1.Home.Here.Z, .int .i64 s1.Home.Rate] 69 (0, 0))] :: H) → a_ = ⟨#[.agg #[iV s1.Back, .slice A2 s1.Stars.length c3, .slice A5 s1.Galaxies.length c6, .slice A8 s1.Bodies.length c9, iV s1.Home.ID, iV s1.Home.Was.X, iV s1.Home.Was.Y, iV s1.Home.Was.Z, iV s1.Home.Here.X, iV s1.Home.Here.Y, iV s1.Home.Here.Z, iV s1.Home.Rate], iV vid11, iV vt12, .pointer (some ⟨b15, 0, none⟩), uV, uV, (j170 0), (j170 1), iV vt23, uV, (j102 2), uV, (j170 2), uV, uV, .agg #[iV s1.Back, .slice A2 s1.Stars.length c3, .slice A5 s1.Galaxies.length c6, .slice A8 s1.Bodies.length c9, iV s1.Home.ID, iV s1.Home.Was.X, iV s1.Home.Was.Y, iV s1.Home.Was.Z, iV s1.Home.Here.X, iV s1.Home.Here.Y, iV s1.Home.Here.Z, iV s1.Home.Rate], iV vt12, iV vt23, iV vt23, .bool false, uV, .pointer (some ⟨b15, 1, none⟩), .slice A2 s1.Stars.length c3, iV (s1.Stars.length : Int), (j102 3), (j102 4), (j102 5), (j102 6), (j102 7), (j102 8), (j102 9), (j102 10), (j102 11), (j102 12), (j102 13), (j102 14), .pointer (some ⟨b15, 2, none⟩), .slice A5 s1.Galaxies.length c6, iV (s1.Galaxies.length : Int), (j170 3), (j170 4), (j170 5), (j170 6), (j170 7), (j170 8), (j170 9), (j170 10), (j170 11), (j170 12), (j170 13), uV, uV, uV, uV, uV, uV, uV, uV, uV, uV, uV, uV, uV, uV], []⟩ → K110 a_ W168 := by
        intro f166 j170 W168 a_ L167 hj174 HS169  hfr_; subst hfr_
        injection hj174 with hj174; subst hj174; try dsimp only at h
        simp only [Sum.elim_inr] at h
        refine hK111 _ _ ?_
        refine wp_seq_k (fun K178 hK179 => ?_)
        refine wp_seq_k (fun K180 hK181 => ?_)
        refine wp_region_lit ?_
        refine seqL1 (by kernel_rfl) ?_
        refine seqK rfl (does_run (run_load rfl Try.underlying67 rfl (by kernel_rfl : _ = Value.pointer (some ⟨b15, 3, none⟩)) (HS169.cell 3)) ?_)
        refine seqS2 (a' := ⟨#[.agg #[iV s1.Back, .slice A2 s1.Stars.length c3, .slice A5 s1.Galaxies.length c6, .slice A8 s1.Bodies.length c9, iV s1.Home.ID, iV s1.Home.Was.X, iV s1.Home.Was.Y, iV s1.Home.Was.Z, iV s1.Home.Here.X, iV s1.Home.Here.Y, iV s1.Home.Here.Z, iV s1.Home.Rate], iV vid11, iV vt12, .pointer (some ⟨b15, 0, none⟩), uV, uV, (j170 0), (j170 1), iV vt23, uV, (j102 2), uV, (j170 2), uV, uV, .agg #[iV s1.Back, .slice A2 s1.Stars.length c3, .slice A5 s1.Galaxies.length c6, .slice A8 s1.Bodies.length c9, iV s1.Home.ID, iV s1.Home.Was.X, iV s1.Home.Was.Y, iV s1.Home.Was.Z, iV s1.Home.Here.X, iV s1.Home.Here.Y, iV s1.Home.Here.Z, iV s1.Home.Rate], iV vt12, iV vt23, iV vt23, .bool false, uV, .pointer (some ⟨b15, 1, none⟩), .slice A2 s1.Stars.length c3, iV (s1.Stars.length : Int), (j102 3), (j102 4), (j102 5), (j102 6), (j102 7), (j102 8), (j102 9), (j102 10), (j102 11), (j102 12), (j102 13), (j102 14), .pointer (some ⟨b15, 2, none⟩), .slice A5 s1.Galaxies.length c6, iV (s1.Galaxies.length : Int), (j170 3), (j170 4), (j170 5), (j170 6), (j170 7), (j170 8), (j170 9), (j170 10), (j170 11), (j170 12), (j170 13), .pointer (some ⟨b15, 3, none⟩), .slice A8 s1.Bodies.length c9, iV (s1.Bodies.length : Int), iV 0, uV, uV, uV, uV, uV, uV, uV, uV, uV, uV], []⟩) (by kernel_rfl) ?_
        refine wpList_nil ?_
        refine hK181 _ _ ?_
        refine blockK (fun B182 hx183 hn184 hr185 ho186 hp187 => ?_)
        have hq_ := bind_some h; clear h; obtain ⟨o188, hv239, h⟩ := hq_
        have JR241 : ∀ z_, some (Sum.inl z_) = some o188 → some z_ = some (r1, r2) := by
          intro z_ e_; injection e_ with e_; subst e_; exact h
        have J240 : ∀ (f234 : FM) (j238 : Nat → Value) (W236 : World) (a_ : Act), FM.le f166 f234 → some (Sum.inr ()) = some o188 → St t W236 f234 ([(b15, .cells #[.int .i64 s1.Back, .slice A2 s1.Stars.length c3, .slice A5 s1.Galaxies.length c6, .slice A8 s1.Bodies.length c9, .int .i64 s1.Home.ID, .int .i64 s1.Home.Was.X, .int .i64 s1.Home.Was.Y, .int .i64 s1.Home.Was.Z, .int .i64 s1.Home.Here.X, .int .i64 s1.Home.Here.Y, .int .i64 s1.Home.Here.Z, .int .i64 s1.Home.Rate] 69 (0, 0))] :: H) → a_ = ⟨#[.agg #[iV s1.Back, .slice A2 s1.Stars.length c3, .slice A5 s1.Galaxies.length c6, .slice A8 s1.Bodies.length c9, iV s1.Home.ID, iV s1.Home.Was.X, iV s1.Home.Was.Y, iV s1.Home.Was.Z, iV s1.Home.Here.X, iV s1.Home.Here.Y, iV s1.Home.Here.Z, iV s1.Home.Rate], iV vid11, iV vt12, .pointer (some ⟨b15, 0, none⟩), uV, uV, (j238 0), (j238 1), iV vt23, uV, (j102 2), uV, (j170 2), uV, (j238 2), .agg #[iV s1.Back, .slice A2 s1.Stars.length c3, .slice A5 s1.Galaxies.length c6, .slice A8 s1.Bodies.length c9, iV s1.Home.ID, iV s1.Home.Was.X, iV s1.Home.Was.Y, iV s1.Home.Was.Z, iV s1.Home.Here.X, iV s1.Home.Here.Y, iV s1.Home.Here.Z, iV s1.Home.Rate], iV vt12, iV vt23, iV vt23, .bool false, uV, .pointer (some ⟨b15, 1, none⟩), .slice A2 s1.Stars.length c3, iV (s1.Stars.length : Int), (j102 3), (j102 4), (j102 5), (j102 6), (j102 7), (j102 8), (j102 9), (j102 10), (j102 11), (j102 12), (j102 13), (j102 14), .pointer (some ⟨b15, 2, none⟩), .slice A5 s1.Galaxies.length c6, iV (s1.Galaxies.length : Int), (j170 3), (j170 4), (j170 5), (j170 6), (j170 7), (j170 8), (j170 9), (j170 10), (j170 11), (j170 12), (j170 13), .pointer (some ⟨b15, 3, none⟩), .slice A8 s1.Bodies.length c9, iV (s1.Bodies.length : Int), (j238 3), (j238 4), (j238 5), (j238 6), (j238 7), (j238 8), (j238 9), (j238 10), (j238 11), (j238 12), (j238 13)], []⟩ → K178 a_ W236 := by
          intro f234 j238 W236 a_ L235 hj242 HS237  hfr_; subst hfr_
          injection hj242 with hj242; subst hj242; try dsimp only at h
          simp only [Sum.elim_inr] at h
          refine hK179 _ _ ?_
          refine wp_seq_k (fun K246 hK247 => ?_)
          refine wp_region_lit ?_
          refine seqS2 (a' := ⟨#[.agg #[iV s1.Back, .slice A2 s1.Stars.length c3, .slice A5 s1.Galaxies.length c6, .slice A8 s1.Bodies.length c9, iV s1.Home.ID, iV s1.Home.Was.X, iV s1.Home.Was.Y, iV s1.Home.Was.Z, iV s1.Home.Here.X, iV s1.Home.Here.Y, iV s1.Home.Here.Z, iV s1.Home.Rate], iV vid11, iV vt12, .pointer (some ⟨b15, 0, none⟩), uV, uV, iV 0, iV 8, iV vt23, uV, (j102 2), uV, (j170 2), uV, (j238 2), .agg #[iV s1.Back, .slice A2 s1.Stars.length c3, .slice A5 s1.Galaxies.length c6, .slice A8 s1.Bodies.length c9, iV s1.Home.ID, iV s1.Home.Was.X, iV s1.Home.Was.Y, iV s1.Home.Was.Z, iV s1.Home.Here.X, iV s1.Home.Here.Y, iV s1.Home.Here.Z, iV s1.Home.Rate], iV vt12, iV vt23, iV vt23, .bool false, uV, .pointer (some ⟨b15, 1, none⟩), .slice A2 s1.Stars.length c3, iV (s1.Stars.length : Int), (j102 3), (j102 4), (j102 5), (j102 6), (j102 7), (j102 8), (j102 9), (j102 10), (j102 11), (j102 12), (j102 13), (j102 14), .pointer (some ⟨b15, 2, none⟩), .slice A5 s1.Galaxies.length c6, iV (s1.Galaxies.length : Int), (j170 3), (j170 4), (j170 5), (j170 6), (j170 7), (j170 8), (j170 9), (j170 10), (j170 11), (j170 12), (j170 13), .pointer (some ⟨b15, 3, none⟩), .slice A8 s1.Bodies.length c9, iV (s1.Bodies.length : Int), (j238 3), (j238 4), (j238 5), (j238 6), (j238 7), (j238 8), (j238 9), (j238 10), (j238 11), (j238 12), (j238 13)], []⟩) (by kernel_rfl) ?_
          refine wpList_nil ?_
          refine hK247 _ _ ?_
          refine wp_ret ?_
          refine hret _ _ ?_
          refine ends_still (v := Value.tuple #[.int .i64 0, .int .i64 8]) (by kernel_rfl) (by kernel_rfl) ?_
          have HS255 := HS237.drop
          injection h with h
          injection h with h0_ h
          subst h0_ h
          exact ⟨f234, rfl, (L26.trans (L99.trans (L167.trans L235))), HS255⟩
        clear h; have h := hv239; clear hv239
        refine loopK (fun n_ a_ w_ => ∃ (f192 : FM) (x197 : Int) (j196 : Nat → Value), FM.le f166 f192 ∧ St t w_ f192 ([(b15, .cells #[.int .i64 s1.Back, .slice A2 s1.Stars.length c3, .slice A5 s1.Galaxies.length c6, .slice A8 s1.Bodies.length c9, .int .i64 s1.Home.ID, .int .i64 s1.Home.Was.X, .int .i64 s1.Home.Was.Y, .int .i64 s1.Home.Was.Z, .int .i64 s1.Home.Here.X, .int .i64 s1.Home.Here.Y, .int .i64 s1.Home.Here.Z, .int .i64 s1.Home.Rate] 69 (0, 0))] :: H) ∧ sky_Rate.l2 k s1 vid11 n_ x197 = some o188 ∧ a_ = ⟨#[.agg #[iV s1.Back, .slice A2 s1.Stars.length c3, .slice A5 s1.Galaxies.length c6, .slice A8 s1.Bodies.length c9, iV s1.Home.ID, iV s1.Home.Was.X, iV s1.Home.Was.Y, iV s1.Home.Was.Z, iV s1.Home.Here.X, iV s1.Home.Here.Y, iV s1.Home.Here.Z, iV s1.Home.Rate], iV vid11, iV vt12, .pointer (some ⟨b15, 0, none⟩), uV, uV, (j196 0), (j196 1), iV vt23, uV, (j102 2), uV, (j170 2), uV, (j196 2), .agg #[iV s1.Back, .slice A2 s1.Stars.length c3, .slice A5 s1.Galaxies.length c6, .slice A8 s1.Bodies.length c9, iV s1.Home.ID, iV s1.Home.Was.X, iV s1.Home.Was.Y, iV s1.Home.Was.Z, iV s1.Home.Here.X, iV s1.Home.Here.Y, iV s1.Home.Here.Z, iV s1.Home.Rate], iV vt12, iV vt23, iV vt23, .bool false, uV, .pointer (some ⟨b15, 1, none⟩), .slice A2 s1.Stars.length c3, iV (s1.Stars.length : Int), (j102 3), (j102 4), (j102 5), (j102 6), (j102 7), (j102 8), (j102 9), (j102 10), (j102 11), (j102 12), (j102 13), (j102 14), .pointer (some ⟨b15, 2, none⟩), .slice A5 s1.Galaxies.length c6, iV (s1.Galaxies.length : Int), (j170 3), (j170 4), (j170 5), (j170 6), (j170 7), (j170 8), (j170 9), (j170 10), (j170 11), (j170 12), (j170 13), .pointer (some ⟨b15, 3, none⟩), .slice A8 s1.Bodies.length c9, iV (s1.Bodies.length : Int), iV x197, (j196 3), (j196 4), (j196 5), (j196 6), (j196 7), (j196 8), (j196 9), (j196 10), (j196 11), (j196 12)], []⟩) k ⟨f166, 0, (fun i_ => [(j170 0), (j170 1), undef, undef, undef, undef, undef, undef, undef, undef, undef, undef, undef].getD i_ undef), (FM.le.refl _), HS169, h, (by kernel_rfl)⟩ ?_
        clear h
        rintro n191 _ W194 ⟨f192, x197, j196, L193, HS195, h, rfl⟩ K189 hK190
        obtain _ | n191 := n191
        · exact nomatch h
        simp only [sky_Rate.l2] at h
        refine wp_seq_k (fun K198 hK199 => ?_)
        refine wp_region_lit ?_
        refine seqS1 (a' := ⟨#[.agg #[iV s1.Back, .slice A2 s1.Stars.length c3, .slice A5 s1.Galaxies.length c6, .slice A8 s1.Bodies.length c9, iV s1.Home.ID, iV s1.Home.Was.X, iV s1.Home.Was.Y, iV s1.Home.Was.Z, iV s1.Home.Here.X, iV s1.Home.Here.Y, iV s1.Home.Here.Z, iV s1.Home.Rate], iV vid11, iV vt12, .pointer (some ⟨b15, 0, none⟩), uV, uV, (j196 0), (j196 1), iV vt23, uV, (j102 2), uV, (j170 2), uV, (j196 2), .agg #[iV s1.Back, .slice A2 s1.Stars.length c3, .slice A5 s1.Galaxies.length c6, .slice A8 s1.Bodies.length c9, iV s1.Home.ID, iV s1.Home.Was.X, iV s1.Home.Was.Y, iV s1.Home.Was.Z, iV s1.Home.Here.X, iV s1.Home.Here.Y, iV s1.Home.Here.Z, iV s1.Home.Rate], iV vt12, iV vt23, iV vt23, .bool false, uV, .pointer (some ⟨b15, 1, none⟩), .slice A2 s1.Stars.length c3, iV (s1.Stars.length : Int), (j102 3), (j102 4), (j102 5), (j102 6), (j102 7), (j102 8), (j102 9), (j102 10), (j102 11), (j102 12), (j102 13), (j102 14), .pointer (some ⟨b15, 2, none⟩), .slice A5 s1.Galaxies.length c6, iV (s1.Galaxies.length : Int), (j170 3), (j170 4), (j170 5), (j170 6), (j170 7), (j170 8), (j170 9), (j170 10), (j170 11), (j170 12), (j170 13), .pointer (some ⟨b15, 3, none⟩), .slice A8 s1.Bodies.length c9, iV (s1.Bodies.length : Int), iV x197, .bool (decide (x197 < (s1.Bodies.length : Int))), (j196 4), (j196 5), (j196 6), (j196 7), (j196 8), (j196 9), (j196 10), (j196 11), (j196 12)], []⟩) (by kernel_rfl) ?_
        refine wpList_nil ?_
        refine hK199 _ _ ?_
        refine wp_seq_k (fun K200 hK201 => ?_)
        have hq_ := ite_some h; clear h; rcases hq_ with ⟨c203, h⟩ | ⟨c203, h⟩
        · have c203 : x197 < (s1.Bodies.length : Int) := c203
          refine wpRwI 54 (x := (decide (x197 < (s1.Bodies.length : Int)))) (v := true) (by kernel_rfl) (decide_eq_true c203) ?_
          refine condT (by kernel_rfl) ?_
          refine wp_skip ?_
          refine hK201 _ _ ?_
          refine wp_seq_k (fun K204 hK205 => ?_)
          refine blockK (fun B206 hx207 hn208 hr209 ho210 hp211 => ?_)
          refine wp_seq_k (fun K213 hK214 => ?_)
          refine wp_region_lit ?_
          have hq_ := guard_some h; clear h; obtain ⟨c215, h⟩ := hq_
          have c215 : 0 ≤ x197 := c215
          obtain ⟨b219, of220, cs216, hA221, hr217, hc218⟩ := (HR10.mono (L26.trans (L99.trans (L167.trans L193)))).at (i := x197) c215 c203
          obtain rfl := hr217
          refine seqK rfl (does_run (run_indexE hA221 (sz := 8) rfl Try.underlying67 (by kernel_rfl) (by kernel_rfl : _ = Value.slice A8 s1.Bodies.length c9) (by kernel_rfl : _ = Value.int .i64 x197) c215 c203 W194) ?_)
          refine seqK rfl (does_run (run_loadN (n := 8) rfl Try.underlying36 rfl (by kernel_rfl) (by kernel_rfl : _ = Value.pointer (some ⟨b219, of220 + (x197 : Int).toNat * 8, none⟩)) (cs := [.int .i64 ((rd s1.Bodies x197).ID), .int .i64 (((rd s1.Bodies x197).Was).X), .int .i64 (((rd s1.Bodies x197).Was).Y), .int .i64 (((rd s1.Bodies x197).Was).Z), .int .i64 (((rd s1.Bodies x197).Here).X), .int .i64 (((rd s1.Bodies x197).Here).Y), .int .i64 (((rd s1.Bodies x197).Here).Z), .int .i64 ((rd s1.Bodies x197).Rate)]) rfl (fun j_ hj_ => ((hc218 (FM.le.refl _) HS195) j_ hj_))) ?_)
          refine seqK rfl (does_alloc (z := Value.agg #[.int .i64 0, .int .i64 0, .int .i64 0, .int .i64 0, .int .i64 0, .int .i64 0, .int .i64 0, .int .i64 0]) (cs := #[.int .i64 0, .int .i64 0, .int .i64 0, .int .i64 0, .int .i64 0, .int .i64 0, .int .i64 0, .int .i64 0]) rfl (by kernel_rfl) rfl HS195 ?_)
          intro b222 W223 HS224
          refine seqK rfl (does_store (n := 8) (vs := [.int .i64 ((rd s1.Bodies x197).ID), .int .i64 (((rd s1.Bodies x197).Was).X), .int .i64 (((rd s1.Bodies x197).Was).Y), .int .i64 (((rd s1.Bodies x197).Was).Z), .int .i64 (((rd s1.Bodies x197).Here).X), .int .i64 (((rd s1.Bodies x197).Here).Y), .int .i64 (((rd s1.Bodies x197).Here).Z), .int .i64 ((rd s1.Bodies x197).Rate)]) (cs' := #[.int .i64 ((rd s1.Bodies x197).ID), .int .i64 (((rd s1.Bodies x197).Was).X), .int .i64 (((rd s1.Bodies x197).Was).Y), .int .i64 (((rd s1.Bodies x197).Was).Z), .int .i64 (((rd s1.Bodies x197).Here).X), .int .i64 (((rd s1.Bodies x197).Here).Y), .int .i64 (((rd s1.Bodies x197).Here).Z), .int .i64 ((rd s1.Bodies x197).Rate)]) rfl (by kernel_rfl) (by kernel_rfl : _ = Value.pointer (some ⟨b222, 0, none⟩)) (by kernel_rfl : _ = Value.agg #[.int .i64 ((rd s1.Bodies x197).ID), .int .i64 (((rd s1.Bodies x197).Was).X), .int .i64 (((rd s1.Bodies x197).Was).Y), .int .i64 (((rd s1.Bodies x197).Was).Z), .int .i64 (((rd s1.Bodies x197).Here).X), .int .i64 (((rd s1.Bodies x197).Here).Y), .int .i64 (((rd s1.Bodies x197).Here).Z), .int .i64 ((rd s1.Bodies x197).Rate)]) rfl rfl (by intro u_ hu_; simp only [List.mem_cons, List.not_mem_nil, or_false] at hu_; rcases hu_ with rfl | rfl | rfl | rfl | rfl | rfl | rfl | rfl <;> rfl) HS224 (Nat.le_of_ble_eq_true rfl) (by kernel_rfl) ?_)
          intro W226 HS227
          refine wpList_nil ?_
          refine hK214 _ _ ?_
          refine wp_seq_k (fun K228 hK229 => ?_)
          refine wp_region_lit ?_
          refine seqL1 (by kernel_rfl) ?_
          refine seqK rfl (does_run (run_load rfl Try.underlying3 rfl (by kernel_rfl : _ = Value.pointer (some ⟨b222, 0, none⟩)) (HS227.cell 0)) ?_)
          refine seqS2 (a' := ⟨#[.agg #[iV s1.Back, .slice A2 s1.Stars.length c3, .slice A5 s1.Galaxies.length c6, .slice A8 s1.Bodies.length c9, iV s1.Home.ID, iV s1.Home.Was.X, iV s1.Home.Was.Y, iV s1.Home.Was.Z, iV s1.Home.Here.X, iV s1.Home.Here.Y, iV s1.Home.Here.Z, iV s1.Home.Rate], iV vid11, iV vt12, .pointer (some ⟨b15, 0, none⟩), uV, uV, (j196 0), (j196 1), iV vt23, uV, (j102 2), uV, (j170 2), uV, .pointer (some ⟨b222, 0, none⟩), .agg #[iV s1.Back, .slice A2 s1.Stars.length c3, .slice A5 s1.Galaxies.length c6, .slice A8 s1.Bodies.length c9, iV s1.Home.ID, iV s1.Home.Was.X, iV s1.Home.Was.Y, iV s1.Home.Was.Z, iV s1.Home.Here.X, iV s1.Home.Here.Y, iV s1.Home.Here.Z, iV s1.Home.Rate], iV vt12, iV vt23, iV vt23, .bool false, uV, .pointer (some ⟨b15, 1, none⟩), .slice A2 s1.Stars.length c3, iV (s1.Stars.length : Int), (j102 3), (j102 4), (j102 5), (j102 6), (j102 7), (j102 8), (j102 9), (j102 10), (j102 11), (j102 12), (j102 13), (j102 14), .pointer (some ⟨b15, 2, none⟩), .slice A5 s1.Galaxies.length c6, iV (s1.Galaxies.length : Int), (j170 3), (j170 4), (j170 5), (j170 6), (j170 7), (j170 8), (j170 9), (j170 10), (j170 11), (j170 12), (j170 13), .pointer (some ⟨b15, 3, none⟩), .slice A8 s1.Bodies.length c9, iV (s1.Bodies.length : Int), iV x197, .bool true, .pointer (some ⟨b219, of220 + (x197 : Int).toNat * 8, none⟩), .agg #[iV ((rd s1.Bodies x197).ID), iV (((rd s1.Bodies x197).Was).X), iV (((rd s1.Bodies x197).Was).Y), iV (((rd s1.Bodies x197).Was).Z), iV (((rd s1.Bodies x197).Here).X), iV (((rd s1.Bodies x197).Here).Y), iV (((rd s1.Bodies x197).Here).Z), iV ((rd s1.Bodies x197).Rate)], .pointer (some ⟨b222, 0, none⟩), iV ((rd s1.Bodies x197).ID), iV vid11, .bool (((rd s1.Bodies x197).ID) == vid11), (j196 10), (j196 11), (j196 12)], []⟩) (by kernel_rfl) ?_
          refine wpList_nil ?_
          refine hK229 _ _ ?_
          have hq_ := ite_some h; clear h; rcases hq_ with ⟨c231, h⟩ | ⟨c231, h⟩
          · have c231 : ((rd s1.Bodies x197).ID) = vid11 := c231
            refine wpRwI 60 (x := (((rd s1.Bodies x197).ID) == vid11)) (v := true) (by kernel_rfl) (beq_iff_eq.mpr c231) ?_
            refine condT (by kernel_rfl) ?_
            refine wp_seq_k (fun K232 hK233 => ?_)
            refine wp_region_lit ?_
            refine seqL1 (by kernel_rfl) ?_
            refine seqK rfl (does_run (run_load rfl Try.underlying34 rfl (by kernel_rfl : _ = Value.pointer (some ⟨b222, 7, none⟩)) (HS227.cell 7)) ?_)
            refine seqS2 (a' := ⟨#[.agg #[iV s1.Back, .slice A2 s1.Stars.length c3, .slice A5 s1.Galaxies.length c6, .slice A8 s1.Bodies.length c9, iV s1.Home.ID, iV s1.Home.Was.X, iV s1.Home.Was.Y, iV s1.Home.Was.Z, iV s1.Home.Here.X, iV s1.Home.Here.Y, iV s1.Home.Here.Z, iV s1.Home.Rate], iV vid11, iV vt12, .pointer (some ⟨b15, 0, none⟩), uV, uV, iV ((rd s1.Bodies x197).Rate), iV 0, iV vt23, uV, (j102 2), uV, (j170 2), uV, .pointer (some ⟨b222, 0, none⟩), .agg #[iV s1.Back, .slice A2 s1.Stars.length c3, .slice A5 s1.Galaxies.length c6, .slice A8 s1.Bodies.length c9, iV s1.Home.ID, iV s1.Home.Was.X, iV s1.Home.Was.Y, iV s1.Home.Was.Z, iV s1.Home.Here.X, iV s1.Home.Here.Y, iV s1.Home.Here.Z, iV s1.Home.Rate], iV vt12, iV vt23, iV vt23, .bool false, uV, .pointer (some ⟨b15, 1, none⟩), .slice A2 s1.Stars.length c3, iV (s1.Stars.length : Int), (j102 3), (j102 4), (j102 5), (j102 6), (j102 7), (j102 8), (j102 9), (j102 10), (j102 11), (j102 12), (j102 13), (j102 14), .pointer (some ⟨b15, 2, none⟩), .slice A5 s1.Galaxies.length c6, iV (s1.Galaxies.length : Int), (j170 3), (j170 4), (j170 5), (j170 6), (j170 7), (j170 8), (j170 9), (j170 10), (j170 11), (j170 12), (j170 13), .pointer (some ⟨b15, 3, none⟩), .slice A8 s1.Bodies.length c9, iV (s1.Bodies.length : Int), iV x197, .bool true, .pointer (some ⟨b219, of220 + (x197 : Int).toNat * 8, none⟩), .agg #[iV ((rd s1.Bodies x197).ID), iV (((rd s1.Bodies x197).Was).X), iV (((rd s1.Bodies x197).Was).Y), iV (((rd s1.Bodies x197).Was).Z), iV (((rd s1.Bodies x197).Here).X), iV (((rd s1.Bodies x197).Here).Y), iV (((rd s1.Bodies x197).Here).Z), iV ((rd s1.Bodies x197).Rate)], .pointer (some ⟨b222, 0, none⟩), iV ((rd s1.Bodies x197).ID), iV vid11, .bool true, .pointer (some ⟨b222, 7, none⟩), iV ((rd s1.Bodies x197).Rate), (j196 12)], []⟩) (by kernel_rfl) ?_
            refine wpList_nil ?_
            refine hK233 _ _ ?_
            refine wp_ret ?_
            refine hr209 _ _ ?_
            refine hr185 _ _ ?_
            refine hret _ _ ?_
            refine ends_still (v := Value.tuple #[.int .i64 ((rd s1.Bodies x197).Rate), .int .i64 0]) (by kernel_rfl) (by kernel_rfl) ?_
            have HS253 := HS227.drop
            have HS254 := HS253.drop
            replace h := JR241 _ h
            injection h with h
            injection h with h0_ h
            subst h0_ h
            exact ⟨f192, rfl, (L26.trans (L99.trans (L167.trans L193))), HS254⟩
          · have c231 : ¬ (((rd s1.Bodies x197).ID) = vid11) := c231
            refine wpRwI 60 (x := (((rd s1.Bodies x197).ID) == vid11)) (v := false) (by kernel_rfl) (beq_eq_false_iff_ne.mpr c231) ?_
            refine condF (by kernel_rfl) ?_
            refine wp_skip ?_
            refine hn208 _ _ ?_
            refine hK205 _ _ ?_
            refine wp_region_lit ?_
            refine seqS2 (a' := ⟨#[.agg #[iV s1.Back, .slice A2 s1.Stars.length c3, .slice A5 s1.Galaxies.length c6, .slice A8 s1.Bodies.length c9, iV s1.Home.ID, iV s1.Home.Was.X, iV s1.Home.Was.Y, iV s1.Home.Was.Z, iV s1.Home.Here.X, iV s1.Home.Here.Y, iV s1.Home.Here.Z, iV s1.Home.Rate], iV vid11, iV vt12, .pointer (some ⟨b15, 0, none⟩), uV, uV, (j196 0), (j196 1), iV vt23, uV, (j102 2), uV, (j170 2), uV, .pointer (some ⟨b222, 0, none⟩), .agg #[iV s1.Back, .slice A2 s1.Stars.length c3, .slice A5 s1.Galaxies.length c6, .slice A8 s1.Bodies.length c9, iV s1.Home.ID, iV s1.Home.Was.X, iV s1.Home.Was.Y, iV s1.Home.Was.Z, iV s1.Home.Here.X, iV s1.Home.Here.Y, iV s1.Home.Here.Z, iV s1.Home.Rate], iV vt12, iV vt23, iV vt23, .bool false, uV, .pointer (some ⟨b15, 1, none⟩), .slice A2 s1.Stars.length c3, iV (s1.Stars.length : Int), (j102 3), (j102 4), (j102 5), (j102 6), (j102 7), (j102 8), (j102 9), (j102 10), (j102 11), (j102 12), (j102 13), (j102 14), .pointer (some ⟨b15, 2, none⟩), .slice A5 s1.Galaxies.length c6, iV (s1.Galaxies.length : Int), (j170 3), (j170 4), (j170 5), (j170 6), (j170 7), (j170 8), (j170 9), (j170 10), (j170 11), (j170 12), (j170 13), .pointer (some ⟨b15, 3, none⟩), .slice A8 s1.Bodies.length c9, iV (s1.Bodies.length : Int), iV (w64 (x197 + 1)), .bool true, .pointer (some ⟨b219, of220 + (x197 : Int).toNat * 8, none⟩), .agg #[iV ((rd s1.Bodies x197).ID), iV (((rd s1.Bodies x197).Was).X), iV (((rd s1.Bodies x197).Was).Y), iV (((rd s1.Bodies x197).Was).Z), iV (((rd s1.Bodies x197).Here).X), iV (((rd s1.Bodies x197).Here).Y), iV (((rd s1.Bodies x197).Here).Z), iV ((rd s1.Bodies x197).Rate)], .pointer (some ⟨b222, 0, none⟩), iV ((rd s1.Bodies x197).ID), iV vid11, .bool false, (j196 10), (j196 11), iV (w64 (x197 + 1))], []⟩) (by kernel_rfl) ?_
            refine wpList_nil ?_
            refine hK190 n191 _ _ (Nat.lt_succ_self _) ?_
            have HS243 := HS227.u1
            have HS244 := HS243.u1
            have HS245 := HS244.drop
            exact ⟨f192, (w64 (x197 + 1)), (fun i_ => [(j196 0), (j196 1), Value.pointer (some ⟨b222, 0, none⟩), Value.bool true, Value.pointer (some ⟨b219, of220 + (x197 : Int).toNat * 8, none⟩), Value.agg #[.int .i64 ((rd s1.Bodies x197).ID), .int .i64 (((rd s1.Bodies x197).Was).X), .int .i64 (((rd s1.Bodies x197).Was).Y), .int .i64 (((rd s1.Bodies x197).Was).Z), .int .i64 (((rd s1.Bodies x197).Here).X), .int .i64 (((rd s1.Bodies x197).Here).Y), .int .i64 (((rd s1.Bodies x197).Here).Z), .int .i64 ((rd s1.Bodies x197).Rate)], Value.pointer (some ⟨b222, 0, none⟩), Value.int .i64 ((rd s1.Bodies x197).ID), Value.int .i64 vid11, Value.bool false, (j196 10), (j196 11), Value.int .i64 (w64 (x197 + 1))].getD i_ undef), L193, HS245, h, (by kernel_rfl)⟩
        · have c203 : ¬ (x197 < (s1.Bodies.length : Int)) := c203
          refine wpRwI 54 (x := (decide (x197 < (s1.Bodies.length : Int)))) (v := false) (by kernel_rfl) (decide_eq_false c203) ?_
          refine condF (by kernel_rfl) ?_
          refine wp_exit ?_
          refine hx183 _ _ ?_
          exact J240 f192 (fun i_ => [(j196 0), (j196 1), (j196 2), Value.int .i64 x197, Value.bool false, (j196 4), (j196 5), (j196 6), (j196 7), (j196 8), (j196 9), (j196 10), (j196 11), (j196 12)].getD i_ undef) W194 _ L193 h HS195 (by kernel_rfl)
      clear h; have h := hv171; clear hv171
      refine loopK (fun n_ a_ w_ => ∃ (f124 : FM) (x129 : Int) (j128 : Nat → Value), FM.le f98 f124 ∧ St t w_ f124 ([(b15, .cells #[.int .i64 s1.Back, .slice A2 s1.Stars.length c3, .slice A5 s1.Galaxies.length c6, .slice A8 s1.Bodies.length c9, .int .i64 s1.Home.ID, .int .i64 s1.Home.Was.X, .int .i64 s1.Home.Was.Y, .int .i64 s1.Home.Was.Z, .int .i64 s1.Home.Here.X, .int .i64 s1.Home.Here.Y, .int .i64 s1.Home.Here.Z, .int .i64 s1.Home.Rate] 69 (0, 0))] :: H) ∧ sky_Rate.l1 k s1 vid11 n_ x129 = some o120 ∧ a_ = ⟨#[.agg #[iV s1.Back, .slice A2 s1.Stars.length c3, .slice A5 s1.Galaxies.length c6, .slice A8 s1.Bodies.length c9, iV s1.Home.ID, iV s1.Home.Was.X, iV s1.Home.Was.Y, iV s1.Home.Was.Z, iV s1.Home.Here.X, iV s1.Home.Here.Y, iV s1.Home.Here.Z, iV s1.Home.Rate], iV vid11, iV vt12, .pointer (some ⟨b15, 0, none⟩), uV, uV, (j128 0), (j128 1), iV vt23, uV, (j102 2), uV, (j128 2), uV, uV, .agg #[iV s1.Back, .slice A2 s1.Stars.length c3, .slice A5 s1.Galaxies.length c6, .slice A8 s1.Bodies.length c9, iV s1.Home.ID, iV s1.Home.Was.X, iV s1.Home.Was.Y, iV s1.Home.Was.Z, iV s1.Home.Here.X, iV s1.Home.Here.Y, iV s1.Home.Here.Z, iV s1.Home.Rate], iV vt12, iV vt23, iV vt23, .bool false, uV, .pointer (some ⟨b15, 1, none⟩), .slice A2 s1.Stars.length c3, iV (s1.Stars.length : Int), (j102 3), (j102 4), (j102 5), (j102 6), (j102 7), (j102 8), (j102 9), (j102 10), (j102 11), (j102 12), (j102 13), (j102 14), .pointer (some ⟨b15, 2, none⟩), .slice A5 s1.Galaxies.length c6, iV (s1.Galaxies.length : Int), iV x129, (j128 3), (j128 4), (j128 5), (j128 6), (j128 7), (j128 8), (j128 9), (j128 10), (j128 11), (j128 12), uV, uV, uV, uV, uV, uV, uV, uV, uV, uV, uV, uV, uV, uV], []⟩) k ⟨f98, 0, (fun i_ => [(j102 0), (j102 1), undef, undef, undef, undef, undef, undef, undef, undef, undef, undef, undef].getD i_ undef), (FM.le.refl _), HS101, h, (by kernel_rfl)⟩ ?_
      clear h
      rintro n123 _ W126 ⟨f124, x129, j128, L125, HS127, h, rfl⟩ K121 hK122
      obtain _ | n123 := n123
      · exact nomatch h
      simp only [sky_Rate.l1] at h
      refine wp_seq_k (fun K130 hK131 => ?_)
      refine wp_region_lit ?_
      refine seqS1 (a' := ⟨#[.agg #[iV s1.Back, .slice A2 s1.Stars.length c3, .slice A5 s1.Galaxies.length c6, .slice A8 s1.Bodies.length c9, iV s1.Home.ID, iV s1.Home.Was.X, iV s1.Home.Was.Y, iV s1.Home.Was.Z, iV s1.Home.Here.X, iV s1.Home.Here.Y, iV s1.Home.Here.Z, iV s1.Home.Rate], iV vid11, iV vt12, .pointer (some ⟨b15, 0, none⟩), uV, uV, (j128 0), (j128 1), iV vt23, uV, (j102 2), uV, (j128 2), uV, uV, .agg #[iV s1.Back, .slice A2 s1.Stars.length c3, .slice A5 s1.Galaxies.length c6, .slice A8 s1.Bodies.length c9, iV s1.Home.ID, iV s1.Home.Was.X, iV s1.Home.Was.Y, iV s1.Home.Was.Z, iV s1.Home.Here.X, iV s1.Home.Here.Y, iV s1.Home.Here.Z, iV s1.Home.Rate], iV vt12, iV vt23, iV vt23, .bool false, uV, .pointer (some ⟨b15, 1, none⟩), .slice A2 s1.Stars.length c3, iV (s1.Stars.length : Int), (j102 3), (j102 4), (j102 5), (j102 6), (j102 7), (j102 8), (j102 9), (j102 10), (j102 11), (j102 12), (j102 13), (j102 14), .pointer (some ⟨b15, 2, none⟩), .slice A5 s1.Galaxies.length c6, iV (s1.Galaxies.length : Int), iV x129, .bool (decide (x129 < (s1.Galaxies.length : Int))), (j128 4), (j128 5), (j128 6), (j128 7), (j128 8), (j128 9), (j128 10), (j128 11), (j128 12), uV, uV, uV, uV, uV, uV, uV, uV, uV, uV, uV, uV, uV, uV], []⟩) (by kernel_rfl) ?_
      refine wpList_nil ?_
      refine hK131 _ _ ?_
      refine wp_seq_k (fun K132 hK133 => ?_)
      have hq_ := ite_some h; clear h; rcases hq_ with ⟨c135, h⟩ | ⟨c135, h⟩
      · have c135 : x129 < (s1.Galaxies.length : Int) := c135
        refine wpRwI 40 (x := (decide (x129 < (s1.Galaxies.length : Int)))) (v := true) (by kernel_rfl) (decide_eq_true c135) ?_
        refine condT (by kernel_rfl) ?_
        refine wp_skip ?_
        refine hK133 _ _ ?_
        refine wp_seq_k (fun K136 hK137 => ?_)
        refine blockK (fun B138 hx139 hn140 hr141 ho142 hp143 => ?_)
        refine wp_seq_k (fun K145 hK146 => ?_)
        refine wp_region_lit ?_
        have hq_ := guard_some h; clear h; obtain ⟨c147, h⟩ := hq_
        have c147 : 0 ≤ x129 := c147
        obtain ⟨b151, of152, cs148, hA153, hr149, hc150⟩ := (HR7.mono (L26.trans (L99.trans L125))).at (i := x129) c147 c135
        obtain rfl := hr149
        refine seqK rfl (does_run (run_indexE hA153 (sz := 7) rfl Try.underlying66 (by kernel_rfl) (by kernel_rfl : _ = Value.slice A5 s1.Galaxies.length c6) (by kernel_rfl : _ = Value.int .i64 x129) c147 c135 W126) ?_)
        refine seqK rfl (does_run (run_loadN (n := 7) rfl Try.underlying93 rfl (by kernel_rfl) (by kernel_rfl : _ = Value.pointer (some ⟨b151, of152 + (x129 : Int).toNat * 7, none⟩)) (cs := [.int .i64 ((rd s1.Galaxies x129).ID), .int .i64 (((rd s1.Galaxies x129).At).X), .int .i64 (((rd s1.Galaxies x129).At).Y), .int .i64 (((rd s1.Galaxies x129).At).Z), .int .i64 ((rd s1.Galaxies x129).Rate), .int .i64 ((rd s1.Galaxies x129).Wide), .int .i64 ((rd s1.Galaxies x129).High)]) rfl (fun j_ hj_ => ((hc150 (FM.le.refl _) HS127) j_ hj_))) ?_)
        refine seqK rfl (does_alloc (z := Value.agg #[.int .i64 0, .int .i64 0, .int .i64 0, .int .i64 0, .int .i64 0, .int .i64 0, .int .i64 0]) (cs := #[.int .i64 0, .int .i64 0, .int .i64 0, .int .i64 0, .int .i64 0, .int .i64 0, .int .i64 0]) rfl (by kernel_rfl) rfl HS127 ?_)
        intro b154 W155 HS156
        refine seqK rfl (does_store (n := 7) (vs := [.int .i64 ((rd s1.Galaxies x129).ID), .int .i64 (((rd s1.Galaxies x129).At).X), .int .i64 (((rd s1.Galaxies x129).At).Y), .int .i64 (((rd s1.Galaxies x129).At).Z), .int .i64 ((rd s1.Galaxies x129).Rate), .int .i64 ((rd s1.Galaxies x129).Wide), .int .i64 ((rd s1.Galaxies x129).High)]) (cs' := #[.int .i64 ((rd s1.Galaxies x129).ID), .int .i64 (((rd s1.Galaxies x129).At).X), .int .i64 (((rd s1.Galaxies x129).At).Y), .int .i64 (((rd s1.Galaxies x129).At).Z), .int .i64 ((rd s1.Galaxies x129).Rate), .int .i64 ((rd s1.Galaxies x129).Wide), .int .i64 ((rd s1.Galaxies x129).High)]) rfl (by kernel_rfl) (by kernel_rfl : _ = Value.pointer (some ⟨b154, 0, none⟩)) (by kernel_rfl : _ = Value.agg #[.int .i64 ((rd s1.Galaxies x129).ID), .int .i64 (((rd s1.Galaxies x129).At).X), .int .i64 (((rd s1.Galaxies x129).At).Y), .int .i64 (((rd s1.Galaxies x129).At).Z), .int .i64 ((rd s1.Galaxies x129).Rate), .int .i64 ((rd s1.Galaxies x129).Wide), .int .i64 ((rd s1.Galaxies x129).High)]) rfl rfl (by intro u_ hu_; simp only [List.mem_cons, List.not_mem_nil, or_false] at hu_; rcases hu_ with rfl | rfl | rfl | rfl | rfl | rfl | rfl <;> rfl) HS156 (Nat.le_of_ble_eq_true rfl) (by kernel_rfl) ?_)
        intro W158 HS159
        refine wpList_nil ?_
        refine hK146 _ _ ?_
        refine wp_seq_k (fun K160 hK161 => ?_)
        refine wp_region_lit ?_
        refine seqL1 (by kernel_rfl) ?_
        refine seqK rfl (does_run (run_load rfl Try.underlying3 rfl (by kernel_rfl : _ = Value.pointer (some ⟨b154, 0, none⟩)) (HS159.cell 0)) ?_)
        refine seqS2 (a' := ⟨#[.agg #[iV s1.Back, .slice A2 s1.Stars.length c3, .slice A5 s1.Galaxies.length c6, .slice A8 s1.Bodies.length c9, iV s1.Home.ID, iV s1.Home.Was.X, iV s1.Home.Was.Y, iV s1.Home.Was.Z, iV s1.Home.Here.X, iV s1.Home.Here.Y, iV s1.Home.Here.Z, iV s1.Home.Rate], iV vid11, iV vt12, .pointer (some ⟨b15, 0, none⟩), uV, uV, (j128 0), (j128 1), iV vt23, uV, (j102 2), uV, .pointer (some ⟨b154, 0, none⟩), uV, uV, .agg #[iV s1.Back, .slice A2 s1.Stars.length c3, .slice A5 s1.Galaxies.length c6, .slice A8 s1.Bodies.length c9, iV s1.Home.ID, iV s1.Home.Was.X, iV s1.Home.Was.Y, iV s1.Home.Was.Z, iV s1.Home.Here.X, iV s1.Home.Here.Y, iV s1.Home.Here.Z, iV s1.Home.Rate], iV vt12, iV vt23, iV vt23, .bool false, uV, .pointer (some ⟨b15, 1, none⟩), .slice A2 s1.Stars.length c3, iV (s1.Stars.length : Int), (j102 3), (j102 4), (j102 5), (j102 6), (j102 7), (j102 8), (j102 9), (j102 10), (j102 11), (j102 12), (j102 13), (j102 14), .pointer (some ⟨b15, 2, none⟩), .slice A5 s1.Galaxies.length c6, iV (s1.Galaxies.length : Int), iV x129, .bool true, .pointer (some ⟨b151, of152 + (x129 : Int).toNat * 7, none⟩), .agg #[iV ((rd s1.Galaxies x129).ID), iV (((rd s1.Galaxies x129).At).X), iV (((rd s1.Galaxies x129).At).Y), iV (((rd s1.Galaxies x129).At).Z), iV ((rd s1.Galaxies x129).Rate), iV ((rd s1.Galaxies x129).Wide), iV ((rd s1.Galaxies x129).High)], .pointer (some ⟨b154, 0, none⟩), iV ((rd s1.Galaxies x129).ID), iV vid11, .bool (((rd s1.Galaxies x129).ID) == vid11), (j128 10), (j128 11), (j128 12), uV, uV, uV, uV, uV, uV, uV, uV, uV, uV, uV, uV, uV, uV], []⟩) (by kernel_rfl) ?_
        refine wpList_nil ?_
        refine hK161 _ _ ?_
        have hq_ := ite_some h; clear h; rcases hq_ with ⟨c163, h⟩ | ⟨c163, h⟩
        · have c163 : ((rd s1.Galaxies x129).ID) = vid11 := c163
          refine wpRwI 46 (x := (((rd s1.Galaxies x129).ID) == vid11)) (v := true) (by kernel_rfl) (beq_iff_eq.mpr c163) ?_
          refine condT (by kernel_rfl) ?_
          refine wp_seq_k (fun K164 hK165 => ?_)
          refine wp_region_lit ?_
          refine seqL1 (by kernel_rfl) ?_
          refine seqK rfl (does_run (run_load rfl Try.underlying34 rfl (by kernel_rfl : _ = Value.pointer (some ⟨b154, 4, none⟩)) (HS159.cell 4)) ?_)
          refine seqS2 (a' := ⟨#[.agg #[iV s1.Back, .slice A2 s1.Stars.length c3, .slice A5 s1.Galaxies.length c6, .slice A8 s1.Bodies.length c9, iV s1.Home.ID, iV s1.Home.Was.X, iV s1.Home.Was.Y, iV s1.Home.Was.Z, iV s1.Home.Here.X, iV s1.Home.Here.Y, iV s1.Home.Here.Z, iV s1.Home.Rate], iV vid11, iV vt12, .pointer (some ⟨b15, 0, none⟩), uV, uV, iV ((rd s1.Galaxies x129).Rate), iV 0, iV vt23, uV, (j102 2), uV, .pointer (some ⟨b154, 0, none⟩), uV, uV, .agg #[iV s1.Back, .slice A2 s1.Stars.length c3, .slice A5 s1.Galaxies.length c6, .slice A8 s1.Bodies.length c9, iV s1.Home.ID, iV s1.Home.Was.X, iV s1.Home.Was.Y, iV s1.Home.Was.Z, iV s1.Home.Here.X, iV s1.Home.Here.Y, iV s1.Home.Here.Z, iV s1.Home.Rate], iV vt12, iV vt23, iV vt23, .bool false, uV, .pointer (some ⟨b15, 1, none⟩), .slice A2 s1.Stars.length c3, iV (s1.Stars.length : Int), (j102 3), (j102 4), (j102 5), (j102 6), (j102 7), (j102 8), (j102 9), (j102 10), (j102 11), (j102 12), (j102 13), (j102 14), .pointer (some ⟨b15, 2, none⟩), .slice A5 s1.Galaxies.length c6, iV (s1.Galaxies.length : Int), iV x129, .bool true, .pointer (some ⟨b151, of152 + (x129 : Int).toNat * 7, none⟩), .agg #[iV ((rd s1.Galaxies x129).ID), iV (((rd s1.Galaxies x129).At).X), iV (((rd s1.Galaxies x129).At).Y), iV (((rd s1.Galaxies x129).At).Z), iV ((rd s1.Galaxies x129).Rate), iV ((rd s1.Galaxies x129).Wide), iV ((rd s1.Galaxies x129).High)], .pointer (some ⟨b154, 0, none⟩), iV ((rd s1.Galaxies x129).ID), iV vid11, .bool true, .pointer (some ⟨b154, 4, none⟩), iV ((rd s1.Galaxies x129).Rate), (j128 12), uV, uV, uV, uV, uV, uV, uV, uV, uV, uV, uV, uV, uV, uV], []⟩) (by kernel_rfl) ?_
          refine wpList_nil ?_
          refine hK165 _ _ ?_
          refine wp_ret ?_
          refine hr141 _ _ ?_
          refine hr117 _ _ ?_
          refine hret _ _ ?_
          refine ends_still (v := Value.tuple #[.int .i64 ((rd s1.Galaxies x129).Rate), .int .i64 0]) (by kernel_rfl) (by kernel_rfl) ?_
          have HS251 := HS159.drop
          have HS252 := HS251.drop
          replace h := JR173 _ h
          injection h with h
          injection h with h0_ h
          subst h0_ h
          exact ⟨f124, rfl, (L26.trans (L99.trans L125)), HS252⟩
        · have c163 : ¬ (((rd s1.Galaxies x129).ID) = vid11) := c163
          refine wpRwI 46 (x := (((rd s1.Galaxies x129).ID) == vid11)) (v := false) (by kernel_rfl) (beq_eq_false_iff_ne.mpr c163) ?_
          refine condF (by kernel_rfl) ?_
          refine wp_skip ?_
          refine hn140 _ _ ?_
          refine hK137 _ _ ?_
          refine wp_region_lit ?_
          refine seqS2 (a' := ⟨#[.agg #[iV s1.Back, .slice A2 s1.Stars.length c3, .slice A5 s1.Galaxies.length c6, .slice A8 s1.Bodies.length c9, iV s1.Home.ID, iV s1.Home.Was.X, iV s1.Home.Was.Y, iV s1.Home.Was.Z, iV s1.Home.Here.X, iV s1.Home.Here.Y, iV s1.Home.Here.Z, iV s1.Home.Rate], iV vid11, iV vt12, .pointer (some ⟨b15, 0, none⟩), uV, uV, (j128 0), (j128 1), iV vt23, uV, (j102 2), uV, .pointer (some ⟨b154, 0, none⟩), uV, uV, .agg #[iV s1.Back, .slice A2 s1.Stars.length c3, .slice A5 s1.Galaxies.length c6, .slice A8 s1.Bodies.length c9, iV s1.Home.ID, iV s1.Home.Was.X, iV s1.Home.Was.Y, iV s1.Home.Was.Z, iV s1.Home.Here.X, iV s1.Home.Here.Y, iV s1.Home.Here.Z, iV s1.Home.Rate], iV vt12, iV vt23, iV vt23, .bool false, uV, .pointer (some ⟨b15, 1, none⟩), .slice A2 s1.Stars.length c3, iV (s1.Stars.length : Int), (j102 3), (j102 4), (j102 5), (j102 6), (j102 7), (j102 8), (j102 9), (j102 10), (j102 11), (j102 12), (j102 13), (j102 14), .pointer (some ⟨b15, 2, none⟩), .slice A5 s1.Galaxies.length c6, iV (s1.Galaxies.length : Int), iV (w64 (x129 + 1)), .bool true, .pointer (some ⟨b151, of152 + (x129 : Int).toNat * 7, none⟩), .agg #[iV ((rd s1.Galaxies x129).ID), iV (((rd s1.Galaxies x129).At).X), iV (((rd s1.Galaxies x129).At).Y), iV (((rd s1.Galaxies x129).At).Z), iV ((rd s1.Galaxies x129).Rate), iV ((rd s1.Galaxies x129).Wide), iV ((rd s1.Galaxies x129).High)], .pointer (some ⟨b154, 0, none⟩), iV ((rd s1.Galaxies x129).ID), iV vid11, .bool false, (j128 10), (j128 11), iV (w64 (x129 + 1)), uV, uV, uV, uV, uV, uV, uV, uV, uV, uV, uV, uV, uV, uV], []⟩) (by kernel_rfl) ?_
          refine wpList_nil ?_
          refine hK122 n123 _ _ (Nat.lt_succ_self _) ?_
          have HS175 := HS159.u1
          have HS176 := HS175.u1
          have HS177 := HS176.drop
          exact ⟨f124, (w64 (x129 + 1)), (fun i_ => [(j128 0), (j128 1), Value.pointer (some ⟨b154, 0, none⟩), Value.bool true, Value.pointer (some ⟨b151, of152 + (x129 : Int).toNat * 7, none⟩), Value.agg #[.int .i64 ((rd s1.Galaxies x129).ID), .int .i64 (((rd s1.Galaxies x129).At).X), .int .i64 (((rd s1.Galaxies x129).At).Y), .int .i64 (((rd s1.Galaxies x129).At).Z), .int .i64 ((rd s1.Galaxies x129).Rate), .int .i64 ((rd s1.Galaxies x129).Wide), .int .i64 ((rd s1.Galaxies x129).High)], Value.pointer (some ⟨b154, 0, none⟩), Value.int .i64 ((rd s1.Galaxies x129).ID), Value.int .i64 vid11, Value.bool false, (j128 10), (j128 11), Value.int .i64 (w64 (x129 + 1))].getD i_ undef), L125, HS177, h, (by kernel_rfl)⟩
      · have c135 : ¬ (x129 < (s1.Galaxies.length : Int)) := c135
        refine wpRwI 40 (x := (decide (x129 < (s1.Galaxies.length : Int)))) (v := false) (by kernel_rfl) (decide_eq_false c135) ?_
        refine condF (by kernel_rfl) ?_
        refine wp_exit ?_
        refine hx115 _ _ ?_
        exact J172 f124 (fun i_ => [(j128 0), (j128 1), (j128 2), Value.int .i64 x129, Value.bool false, (j128 4), (j128 5), (j128 6), (j128 7), (j128 8), (j128 9), (j128 10), (j128 11), (j128 12)].getD i_ undef) W126 _ L125 h HS127 (by kernel_rfl)
    clear h; have h := hv103; clear hv103
    refine loopK (fun n_ a_ w_ => ∃ (f49 : FM) (x54 : Int) (j53 : Nat → Value), FM.le f25 f49 ∧ St t w_ f49 ([(b15, .cells #[.int .i64 s1.Back, .slice A2 s1.Stars.length c3, .slice A5 s1.Galaxies.length c6, .slice A8 s1.Bodies.length c9, .int .i64 s1.Home.ID, .int .i64 s1.Home.Was.X, .int .i64 s1.Home.Was.Y, .int .i64 s1.Home.Was.Z, .int .i64 s1.Home.Here.X, .int .i64 s1.Home.Here.Y, .int .i64 s1.Home.Here.Z, .int .i64 s1.Home.Rate] 69 (0, 0))] :: H) ∧ sky_Rate.l0 k s1 vid11 vt12 n_ x54 = some o45 ∧ a_ = ⟨#[.agg #[iV s1.Back, .slice A2 s1.Stars.length c3, .slice A5 s1.Galaxies.length c6, .slice A8 s1.Bodies.length c9, iV s1.Home.ID, iV s1.Home.Was.X, iV s1.Home.Was.Y, iV s1.Home.Was.Z, iV s1.Home.Here.X, iV s1.Home.Here.Y, iV s1.Home.Here.Z, iV s1.Home.Rate], iV vid11, iV vt12, .pointer (some ⟨b15, 0, none⟩), uV, uV, (j53 0), (j53 1), iV vt23, uV, (j53 2), uV, uV, uV, uV, .agg #[iV s1.Back, .slice A2 s1.Stars.length c3, .slice A5 s1.Galaxies.length c6, .slice A8 s1.Bodies.length c9, iV s1.Home.ID, iV s1.Home.Was.X, iV s1.Home.Was.Y, iV s1.Home.Was.Z, iV s1.Home.Here.X, iV s1.Home.Here.Y, iV s1.Home.Here.Z, iV s1.Home.Rate], iV vt12, iV vt23, iV vt23, .bool false, uV, .pointer (some ⟨b15, 1, none⟩), .slice A2 s1.Stars.length c3, iV (s1.Stars.length : Int), iV x54, (j53 3), (j53 4), (j53 5), (j53 6), (j53 7), (j53 8), (j53 9), (j53 10), (j53 11), (j53 12), (j53 13), uV, uV, uV, uV, uV, uV, uV, uV, uV, uV, uV, uV, uV, uV, uV, uV, uV, uV, uV, uV, uV, uV, uV, uV, uV, uV, uV, uV], []⟩) k ⟨f25, 0, (fun i_ => [Value.int .i64 0, Value.int .i64 0, undef, undef, undef, undef, undef, undef, undef, undef, undef, undef, undef, undef].getD i_ undef), (FM.le.refl _), HS28, h, (by kernel_rfl)⟩ ?_
    clear h
    rintro n48 _ W51 ⟨f49, x54, j53, L50, HS52, h, rfl⟩ K46 hK47
    obtain _ | n48 := n48
    · exact nomatch h
    simp only [sky_Rate.l0] at h
    refine wp_seq_k (fun K55 hK56 => ?_)
    refine wp_region_lit ?_
    refine seqS1 (a' := ⟨#[.agg #[iV s1.Back, .slice A2 s1.Stars.length c3, .slice A5 s1.Galaxies.length c6, .slice A8 s1.Bodies.length c9, iV s1.Home.ID, iV s1.Home.Was.X, iV s1.Home.Was.Y, iV s1.Home.Was.Z, iV s1.Home.Here.X, iV s1.Home.Here.Y, iV s1.Home.Here.Z, iV s1.Home.Rate], iV vid11, iV vt12, .pointer (some ⟨b15, 0, none⟩), uV, uV, (j53 0), (j53 1), iV vt23, uV, (j53 2), uV, uV, uV, uV, .agg #[iV s1.Back, .slice A2 s1.Stars.length c3, .slice A5 s1.Galaxies.length c6, .slice A8 s1.Bodies.length c9, iV s1.Home.ID, iV s1.Home.Was.X, iV s1.Home.Was.Y, iV s1.Home.Was.Z, iV s1.Home.Here.X, iV s1.Home.Here.Y, iV s1.Home.Here.Z, iV s1.Home.Rate], iV vt12, iV vt23, iV vt23, .bool false, uV, .pointer (some ⟨b15, 1, none⟩), .slice A2 s1.Stars.length c3, iV (s1.Stars.length : Int), iV x54, .bool (decide (x54 < (s1.Stars.length : Int))), (j53 4), (j53 5), (j53 6), (j53 7), (j53 8), (j53 9), (j53 10), (j53 11), (j53 12), (j53 13), uV, uV, uV, uV, uV, uV, uV, uV, uV, uV, uV, uV, uV, uV, uV, uV, uV, uV, uV, uV, uV, uV, uV, uV, uV, uV, uV, uV], []⟩) (by kernel_rfl) ?_
    refine wpList_nil ?_
    refine hK56 _ _ ?_
    refine wp_seq_k (fun K57 hK58 => ?_)
    have hq_ := ite_some h; clear h; rcases hq_ with ⟨c60, h⟩ | ⟨c60, h⟩
    · have c60 : x54 < (s1.Stars.length : Int) := c60
      refine wpRwI 25 (x := (decide (x54 < (s1.Stars.length : Int)))) (v := true) (by kernel_rfl) (decide_eq_true c60) ?_
      refine condT (by kernel_rfl) ?_
      refine wp_skip ?_
      refine hK58 _ _ ?_
      refine wp_seq_k (fun K61 hK62 => ?_)
      refine blockK (fun B63 hx64 hn65 hr66 ho67 hp68 => ?_)
      refine wp_seq_k (fun K70 hK71 => ?_)
      refine wp_region_lit ?_
      have hq_ := guard_some h; clear h; obtain ⟨c72, h⟩ := hq_
      have c72 : 0 ≤ x54 := c72
      obtain ⟨b76, of77, cs73, hA78, hr74, hc75⟩ := (HR4.mono (L26.trans L50)).at (i := x54) c72 c60
      obtain ⟨A79, c79, rfl, HR79⟩ := hr74
      refine seqK rfl (does_run (run_indexE hA78 (sz := 9) rfl Try.underlying65 (by kernel_rfl) (by kernel_rfl : _ = Value.slice A2 s1.Stars.length c3) (by kernel_rfl : _ = Value.int .i64 x54) c72 c60 W51) ?_)
      refine seqK rfl (does_run (run_loadN (n := 9) rfl Try.underlying62 rfl (by kernel_rfl) (by kernel_rfl : _ = Value.pointer (some ⟨b76, of77 + (x54 : Int).toNat * 9, none⟩)) (cs := [.int .i64 ((rd s1.Stars x54).ID), .int .i64 (((rd s1.Stars x54).At).X), .int .i64 (((rd s1.Stars x54).At).Y), .int .i64 (((rd s1.Stars x54).At).Z), .int .i64 ((rd s1.Stars x54).Rate), .slice A79 ((rd s1.Stars x54).Wave).length c79, .int .i64 ((rd s1.Stars x54).Period), .int .i64 ((rd s1.Stars x54).From), .int .i64 ((rd s1.Stars x54).To)]) rfl (fun j_ hj_ => ((hc75 (FM.le.refl _) HS52) j_ hj_))) ?_)
      refine seqK rfl (does_alloc (z := Value.agg #[.int .i64 0, .int .i64 0, .int .i64 0, .int .i64 0, .int .i64 0, .slice none 0 0, .int .i64 0, .int .i64 0, .int .i64 0]) (cs := #[.int .i64 0, .int .i64 0, .int .i64 0, .int .i64 0, .int .i64 0, .slice none 0 0, .int .i64 0, .int .i64 0, .int .i64 0]) rfl (by kernel_rfl) rfl HS52 ?_)
      intro b80 W81 HS82
      refine seqK rfl (does_store (n := 9) (vs := [.int .i64 ((rd s1.Stars x54).ID), .int .i64 (((rd s1.Stars x54).At).X), .int .i64 (((rd s1.Stars x54).At).Y), .int .i64 (((rd s1.Stars x54).At).Z), .int .i64 ((rd s1.Stars x54).Rate), .slice A79 ((rd s1.Stars x54).Wave).length c79, .int .i64 ((rd s1.Stars x54).Period), .int .i64 ((rd s1.Stars x54).From), .int .i64 ((rd s1.Stars x54).To)]) (cs' := #[.int .i64 ((rd s1.Stars x54).ID), .int .i64 (((rd s1.Stars x54).At).X), .int .i64 (((rd s1.Stars x54).At).Y), .int .i64 (((rd s1.Stars x54).At).Z), .int .i64 ((rd s1.Stars x54).Rate), .slice A79 ((rd s1.Stars x54).Wave).length c79, .int .i64 ((rd s1.Stars x54).Period), .int .i64 ((rd s1.Stars x54).From), .int .i64 ((rd s1.Stars x54).To)]) rfl (by kernel_rfl) (by kernel_rfl : _ = Value.pointer (some ⟨b80, 0, none⟩)) (by kernel_rfl : _ = Value.agg #[.int .i64 ((rd s1.Stars x54).ID), .int .i64 (((rd s1.Stars x54).At).X), .int .i64 (((rd s1.Stars x54).At).Y), .int .i64 (((rd s1.Stars x54).At).Z), .int .i64 ((rd s1.Stars x54).Rate), .slice A79 ((rd s1.Stars x54).Wave).length c79, .int .i64 ((rd s1.Stars x54).Period), .int .i64 ((rd s1.Stars x54).From), .int .i64 ((rd s1.Stars x54).To)]) rfl rfl (by intro u_ hu_; simp only [List.mem_cons, List.not_mem_nil, or_false] at hu_; rcases hu_ with rfl | rfl | rfl | rfl | rfl | rfl | rfl | rfl | rfl <;> rfl) HS82 (Nat.le_of_ble_eq_true rfl) (by kernel_rfl) ?_)
      intro W84 HS85
      refine wpList_nil ?_
      refine hK71 _ _ ?_
      refine wp_seq_k (fun K86 hK87 => ?_)
      refine wp_region_lit ?_
      refine seqL1 (by kernel_rfl) ?_
      refine seqK rfl (does_run (run_load rfl Try.underlying3 rfl (by kernel_rfl : _ = Value.pointer (some ⟨b80, 0, none⟩)) (HS85.cell 0)) ?_)
      refine seqS2 (a' := ⟨#[.agg #[iV s1.Back, .slice A2 s1.Stars.length c3, .slice A5 s1.Galaxies.length c6, .slice A8 s1.Bodies.length c9, iV s1.Home.ID, iV s1.Home.Was.X, iV s1.Home.Was.Y, iV s1.Home.Was.Z, iV s1.Home.Here.X, iV s1.Home.Here.Y, iV s1.Home.Here.Z, iV s1.Home.Rate], iV vid11, iV vt12, .pointer (some ⟨b15, 0, none⟩), uV, uV, (j53 0), (j53 1), iV vt23, uV, .pointer (some ⟨b80, 0, none⟩), uV, uV, uV, uV, .agg #[iV s1.Back, .slice A2 s1.Stars.length c3, .slice A5 s1.Galaxies.length c6, .slice A8 s1.Bodies.length c9, iV s1.Home.ID, iV s1.Home.Was.X, iV s1.Home.Was.Y, iV s1.Home.Was.Z, iV s1.Home.Here.X, iV s1.Home.Here.Y, iV s1.Home.Here.Z, iV s1.Home.Rate], iV vt12, iV vt23, iV vt23, .bool false, uV, .pointer (some ⟨b15, 1, none⟩), .slice A2 s1.Stars.length c3, iV (s1.Stars.length : Int), iV x54, .bool true, .pointer (some ⟨b76, of77 + (x54 : Int).toNat * 9, none⟩), .agg #[iV ((rd s1.Stars x54).ID), iV (((rd s1.Stars x54).At).X), iV (((rd s1.Stars x54).At).Y), iV (((rd s1.Stars x54).At).Z), iV ((rd s1.Stars x54).Rate), .slice A79 ((rd s1.Stars x54).Wave).length c79, iV ((rd s1.Stars x54).Period), iV ((rd s1.Stars x54).From), iV ((rd s1.Stars x54).To)], .pointer (some ⟨b80, 0, none⟩), iV ((rd s1.Stars x54).ID), iV vid11, .bool (((rd s1.Stars x54).ID) == vid11), (j53 10), (j53 11), (j53 12), (j53 13), uV, uV, uV, uV, uV, uV, uV, uV, uV, uV, uV, uV, uV, uV, uV, uV, uV, uV, uV, uV, uV, uV, uV, uV, uV, uV, uV, uV], []⟩) (by kernel_rfl) ?_
      refine wpList_nil ?_
      refine hK87 _ _ ?_
      have hq_ := ite_some h; clear h; rcases hq_ with ⟨c89, h⟩ | ⟨c89, h⟩
      · have c89 : ((rd s1.Stars x54).ID) = vid11 := c89
        refine wpRwI 31 (x := (((rd s1.Stars x54).ID) == vid11)) (v := true) (by kernel_rfl) (beq_iff_eq.mpr c89) ?_
        refine condT (by kernel_rfl) ?_
        refine wp_seq_k (fun K90 hK91 => ?_)
        refine wp_region_lit ?_
        refine seqK rfl (does_run (run_loadN (n := 9) rfl Try.underlying62 rfl (by kernel_rfl) (by kernel_rfl : _ = Value.pointer (some ⟨b80, 0, none⟩)) (cs := [.int .i64 ((rd s1.Stars x54).ID), .int .i64 (((rd s1.Stars x54).At).X), .int .i64 (((rd s1.Stars x54).At).Y), .int .i64 (((rd s1.Stars x54).At).Z), .int .i64 ((rd s1.Stars x54).Rate), .slice A79 ((rd s1.Stars x54).Wave).length c79, .int .i64 ((rd s1.Stars x54).Period), .int .i64 ((rd s1.Stars x54).From), .int .i64 ((rd s1.Stars x54).To)]) rfl (HS85.cells 0 9 _ rfl)) ?_)
        have hq_ := bind_some h; clear h; obtain ⟨vt92, hc93, h⟩ := hq_
        refine seqL1 (by kernel_rfl) ?_
        refine seqK rfl (does_call (f := 43) (args := #[.agg #[.int .i64 ((rd s1.Stars x54).ID), .int .i64 (((rd s1.Stars x54).At).X), .int .i64 (((rd s1.Stars x54).At).Y), .int .i64 (((rd s1.Stars x54).At).Z), .int .i64 ((rd s1.Stars x54).Rate), .slice A79 ((rd s1.Stars x54).Wave).length c79, .int .i64 ((rd s1.Stars x54).Period), .int .i64 ((rd s1.Stars x54).From), .int .i64 ((rd s1.Stars x54).To)], .int .i64 vt12]) (by kernel_rfl) (sky_shines.calls k A79 c79 (rd s1.Stars x54) vt12 HS85 HR79 vt92 hc93) ?_)
        rintro _ W96 ⟨f94, rfl, L95, HS97⟩
        refine ⟨_, rfl, ?_⟩
        refine seqS2 (a' := ⟨#[.agg #[iV s1.Back, .slice A2 s1.Stars.length c3, .slice A5 s1.Galaxies.length c6, .slice A8 s1.Bodies.length c9, iV s1.Home.ID, iV s1.Home.Was.X, iV s1.Home.Was.Y, iV s1.Home.Was.Z, iV s1.Home.Here.X, iV s1.Home.Here.Y, iV s1.Home.Here.Z, iV s1.Home.Rate], iV vid11, iV vt12, .pointer (some ⟨b15, 0, none⟩), uV, uV, iV vt92, iV 0, iV vt23, uV, .pointer (some ⟨b80, 0, none⟩), uV, uV, uV, uV, .agg #[iV s1.Back, .slice A2 s1.Stars.length c3, .slice A5 s1.Galaxies.length c6, .slice A8 s1.Bodies.length c9, iV s1.Home.ID, iV s1.Home.Was.X, iV s1.Home.Was.Y, iV s1.Home.Was.Z, iV s1.Home.Here.X, iV s1.Home.Here.Y, iV s1.Home.Here.Z, iV s1.Home.Rate], iV vt12, iV vt23, iV vt23, .bool false, uV, .pointer (some ⟨b15, 1, none⟩), .slice A2 s1.Stars.length c3, iV (s1.Stars.length : Int), iV x54, .bool true, .pointer (some ⟨b76, of77 + (x54 : Int).toNat * 9, none⟩), .agg #[iV ((rd s1.Stars x54).ID), iV (((rd s1.Stars x54).At).X), iV (((rd s1.Stars x54).At).Y), iV (((rd s1.Stars x54).At).Z), iV ((rd s1.Stars x54).Rate), .slice A79 ((rd s1.Stars x54).Wave).length c79, iV ((rd s1.Stars x54).Period), iV ((rd s1.Stars x54).From), iV ((rd s1.Stars x54).To)], .pointer (some ⟨b80, 0, none⟩), iV ((rd s1.Stars x54).ID), iV vid11, .bool true, .agg #[iV ((rd s1.Stars x54).ID), iV (((rd s1.Stars x54).At).X), iV (((rd s1.Stars x54).At).Y), iV (((rd s1.Stars x54).At).Z), iV ((rd s1.Stars x54).Rate), .slice A79 ((rd s1.Stars x54).Wave).length c79, iV ((rd s1.Stars x54).Period), iV ((rd s1.Stars x54).From), iV ((rd s1.Stars x54).To)], iV vt12, iV vt92, (j53 13), uV, uV, uV, uV, uV, uV, uV, uV, uV, uV, uV, uV, uV, uV, uV, uV, uV, uV, uV, uV, uV, uV, uV, uV, uV, uV, uV, uV], []⟩) (by kernel_rfl) ?_
        refine wpList_nil ?_
        refine hK91 _ _ ?_
        refine wp_ret ?_
        refine hr66 _ _ ?_
        refine hr42 _ _ ?_
        refine hret _ _ ?_
        refine ends_still (v := Value.tuple #[.int .i64 vt92, .int .i64 0]) (by kernel_rfl) (by kernel_rfl) ?_
        have HS249 := HS97.drop
        have HS250 := HS249.drop
        replace h := JR105 _ h
        injection h with h
        injection h with h0_ h
        subst h0_ h
        exact ⟨f94, rfl, (L26.trans (L50.trans L95)), HS250⟩
      · have c89 : ¬ (((rd s1.Stars x54).ID) = vid11) := c89
        refine wpRwI 31 (x := (((rd s1.Stars x54).ID) == vid11)) (v := false) (by kernel_rfl) (beq_eq_false_iff_ne.mpr c89) ?_
        refine condF (by kernel_rfl) ?_
        refine wp_skip ?_
        refine hn65 _ _ ?_
        refine hK62 _ _ ?_
        refine wp_region_lit ?_
        refine seqS2 (a' := ⟨#[.agg #[iV s1.Back, .slice A2 s1.Stars.length c3, .slice A5 s1.Galaxies.length c6, .slice A8 s1.Bodies.length c9, iV s1.Home.ID, iV s1.Home.Was.X, iV s1.Home.Was.Y, iV s1.Home.Was.Z, iV s1.Home.Here.X, iV s1.Home.Here.Y, iV s1.Home.Here.Z, iV s1.Home.Rate], iV vid11, iV vt12, .pointer (some ⟨b15, 0, none⟩), uV, uV, (j53 0), (j53 1), iV vt23, uV, .pointer (some ⟨b80, 0, none⟩), uV, uV, uV, uV, .agg #[iV s1.Back, .slice A2 s1.Stars.length c3, .slice A5 s1.Galaxies.length c6, .slice A8 s1.Bodies.length c9, iV s1.Home.ID, iV s1.Home.Was.X, iV s1.Home.Was.Y, iV s1.Home.Was.Z, iV s1.Home.Here.X, iV s1.Home.Here.Y, iV s1.Home.Here.Z, iV s1.Home.Rate], iV vt12, iV vt23, iV vt23, .bool false, uV, .pointer (some ⟨b15, 1, none⟩), .slice A2 s1.Stars.length c3, iV (s1.Stars.length : Int), iV (w64 (x54 + 1)), .bool true, .pointer (some ⟨b76, of77 + (x54 : Int).toNat * 9, none⟩), .agg #[iV ((rd s1.Stars x54).ID), iV (((rd s1.Stars x54).At).X), iV (((rd s1.Stars x54).At).Y), iV (((rd s1.Stars x54).At).Z), iV ((rd s1.Stars x54).Rate), .slice A79 ((rd s1.Stars x54).Wave).length c79, iV ((rd s1.Stars x54).Period), iV ((rd s1.Stars x54).From), iV ((rd s1.Stars x54).To)], .pointer (some ⟨b80, 0, none⟩), iV ((rd s1.Stars x54).ID), iV vid11, .bool false, (j53 10), (j53 11), (j53 12), iV (w64 (x54 + 1)), uV, uV, uV, uV, uV, uV, uV, uV, uV, uV, uV, uV, uV, uV, uV, uV, uV, uV, uV, uV, uV, uV, uV, uV, uV, uV, uV, uV], []⟩) (by kernel_rfl) ?_
        refine wpList_nil ?_
        refine hK47 n48 _ _ (Nat.lt_succ_self _) ?_
        have HS107 := HS85.u1
        have HS108 := HS107.u1
        have HS109 := HS108.drop
        exact ⟨f49, (w64 (x54 + 1)), (fun i_ => [(j53 0), (j53 1), Value.pointer (some ⟨b80, 0, none⟩), Value.bool true, Value.pointer (some ⟨b76, of77 + (x54 : Int).toNat * 9, none⟩), Value.agg #[.int .i64 ((rd s1.Stars x54).ID), .int .i64 (((rd s1.Stars x54).At).X), .int .i64 (((rd s1.Stars x54).At).Y), .int .i64 (((rd s1.Stars x54).At).Z), .int .i64 ((rd s1.Stars x54).Rate), .slice A79 ((rd s1.Stars x54).Wave).length c79, .int .i64 ((rd s1.Stars x54).Period), .int .i64 ((rd s1.Stars x54).From), .int .i64 ((rd s1.Stars x54).To)], Value.pointer (some ⟨b80, 0, none⟩), Value.int .i64 ((rd s1.Stars x54).ID), Value.int .i64 vid11, Value.bool false, (j53 10), (j53 11), (j53 12), Value.int .i64 (w64 (x54 + 1))].getD i_ undef), L50, HS109, h, (by kernel_rfl)⟩
    · have c60 : ¬ (x54 < (s1.Stars.length : Int)) := c60
      refine wpRwI 25 (x := (decide (x54 < (s1.Stars.length : Int)))) (v := false) (by kernel_rfl) (decide_eq_false c60) ?_
      refine condF (by kernel_rfl) ?_
      refine wp_exit ?_
      refine hx40 _ _ ?_
      exact J104 f49 (fun i_ => [(j53 0), (j53 1), (j53 2), Value.int .i64 x54, Value.bool false, (j53 4), (j53 5), (j53 6), (j53 7), (j53 8), (j53 9), (j53 10), (j53 11), (j53 12), (j53 13)].getD i_ undef) W51 _ L50 h HS52 (by kernel_rfl)

set_option maxRecDepth 100000 in
set_option maxHeartbeats 4000000 in
theorem bits_Mul64.calls (k : Nat)  (x1 : Int) (y2 : Int) {t w : World} {f : FM} {H : List Seg} (HS : St t w f (H)) (r1 : Int) (r2 : Int) (h : bits_Mul64 k x1 y2 = some (r1, r2)) :
    Calls Try.prog 54 #[.int .u64 x1, .int .u64 y2] w (fun e w' => ∃ (g : FM), e = .returned (Value.tuple #[.int .u64 r1, .int .u64 r2]) ∧ FM.le f g ∧ St t w' g (H)) := by
  unfold bits_Mul64 at h
  refine enter Try.func54 rfl (tm := #[.int .u64 x1, .int .u64 y2, uV, uV, uV, uV, uV, uV, uV, uV, uV, uV, uV, uV, uV, uV, uV, uV, uV, uV, uV, uV, uV, uV, uV, uV, uV, uV, uV, uV, uV, uV, uV, uV, uV, uV, uV, uV, uV, uV, uV, uV, uV, uV, uV, uV, uV, uV, uV, uV, uV]) (by kernel_rfl) ?_
  intro B hret hnor hnp
  refine wp_seq_k (fun K3 hK4 => ?_)
  refine wp_region_lit ?_
  refine seqS2 (a' := ⟨#[.int .u64 x1, .int .u64 y2, uV, uV, .int .u64 0, .int .u64 0, uV, uV, uV, uV, uV, uV, uV, uV, uV, uV, uV, uV, uV, uV, uV, uV, uV, uV, uV, uV, uV, uV, uV, uV, uV, uV, uV, uV, uV, uV, uV, uV, uV, uV, uV, uV, uV, uV, uV, uV, uV, uV, uV, uV, uV], []⟩) (by kernel_rfl) ?_
  refine wpList_nil ?_
  refine hK4 _ _ ?_
  refine wp_seq_k (fun K5 hK6 => ?_)
  refine wp_region_lit ?_
  refine seqS3 (a' := ⟨#[.int .u64 x1, .int .u64 y2, uV, uV, .int .u64 0, .int .u64 0, .int .u64 (Go.bits .and .u64 x1 4294967295), uV, uV, uV, uV, uV, uV, uV, .int .u64 x1, .int .u64 (Go.bits .and .u64 x1 4294967295), uV, uV, uV, uV, uV, uV, uV, uV, uV, uV, uV, uV, uV, uV, uV, uV, uV, uV, uV, uV, uV, uV, uV, uV, uV, uV, uV, uV, uV, uV, uV, uV, uV, uV, uV], []⟩) (by kernel_rfl) ?_
  refine wpList_nil ?_
  refine hK6 _ _ ?_
  refine wp_seq_k (fun K7 hK8 => ?_)
  refine wp_region_lit ?_
  refine seqS3 (a' := ⟨#[.int .u64 x1, .int .u64 y2, uV, uV, .int .u64 0, .int .u64 0, .int .u64 (Go.bits .and .u64 x1 4294967295), .int .u64 (shr x1 32), uV, uV, uV, uV, uV, uV, .int .u64 x1, .int .u64 (Go.bits .and .u64 x1 4294967295), .int .u64 x1, .int .u64 (shr x1 32), uV, uV, uV, uV, uV, uV, uV, uV, uV, uV, uV, uV, uV, uV, uV, uV, uV, uV, uV, uV, uV, uV, uV, uV, uV, uV, uV, uV, uV, uV, uV, uV, uV], []⟩) (by kernel_rfl) ?_
  refine wpList_nil ?_
  refine hK8 _ _ ?_
  refine wp_seq_k (fun K9 hK10 => ?_)
  refine wp_region_lit ?_
  refine seqS3 (a' := ⟨#[.int .u64 x1, .int .u64 y2, uV, uV, .int .u64 0, .int .u64 0, .int .u64 (Go.bits .and .u64 x1 4294967295), .int .u64 (shr x1 32), .int .u64 (Go.bits .and .u64 y2 4294967295), uV, uV, uV, uV, uV, .int .u64 x1, .int .u64 (Go.bits .and .u64 x1 4294967295), .int .u64 x1, .int .u64 (shr x1 32), .int .u64 y2, .int .u64 (Go.bits .and .u64 y2 4294967295), uV, uV, uV, uV, uV, uV, uV, uV, uV, uV, uV, uV, uV, uV, uV, uV, uV, uV, uV, uV, uV, uV, uV, uV, uV, uV, uV, uV, uV, uV, uV], []⟩) (by kernel_rfl) ?_
  refine wpList_nil ?_
  refine hK10 _ _ ?_
  refine wp_seq_k (fun K11 hK12 => ?_)
  refine wp_region_lit ?_
  refine seqS3 (a' := ⟨#[.int .u64 x1, .int .u64 y2, uV, uV, .int .u64 0, .int .u64 0, .int .u64 (Go.bits .and .u64 x1 4294967295), .int .u64 (shr x1 32), .int .u64 (Go.bits .and .u64 y2 4294967295), .int .u64 (shr y2 32), uV, uV, uV, uV, .int .u64 x1, .int .u64 (Go.bits .and .u64 x1 4294967295), .int .u64 x1, .int .u64 (shr x1 32), .int .u64 y2, .int .u64 (Go.bits .and .u64 y2 4294967295), .int .u64 y2, .int .u64 (shr y2 32), uV, uV, uV, uV, uV, uV, uV, uV, uV, uV, uV, uV, uV, uV, uV, uV, uV, uV, uV, uV, uV, uV, uV, uV, uV, uV, uV, uV, uV], []⟩) (by kernel_rfl) ?_
  refine wpList_nil ?_
  refine hK12 _ _ ?_
  refine wp_seq_k (fun K13 hK14 => ?_)
  refine wp_region_lit ?_
  refine seqS4 (a' := ⟨#[.int .u64 x1, .int .u64 y2, uV, uV, .int .u64 0, .int .u64 0, .int .u64 (Go.bits .and .u64 x1 4294967295), .int .u64 (shr x1 32), .int .u64 (Go.bits .and .u64 y2 4294967295), .int .u64 (shr y2 32), .int .u64 (u64 ((Go.bits .and .u64 x1 4294967295) * (Go.bits .and .u64 y2 4294967295))), uV, uV, uV, .int .u64 x1, .int .u64 (Go.bits .and .u64 x1 4294967295), .int .u64 x1, .int .u64 (shr x1 32), .int .u64 y2, .int .u64 (Go.bits .and .u64 y2 4294967295), .int .u64 y2, .int .u64 (shr y2 32), .int .u64 (Go.bits .and .u64 x1 4294967295), .int .u64 (Go.bits .and .u64 y2 4294967295), .int .u64 (u64 ((Go.bits .and .u64 x1 4294967295) * (Go.bits .and .u64 y2 4294967295))), uV, uV, uV, uV, uV, uV, uV, uV, uV, uV, uV, uV, uV, uV, uV, uV, uV, uV, uV, uV, uV, uV, uV, uV, uV, uV], []⟩) (by kernel_rfl) ?_
  refine wpList_nil ?_
  refine hK14 _ _ ?_
  refine wp_seq_k (fun K15 hK16 => ?_)
  refine wp_region_lit ?_
  refine seqS7 (a' := ⟨#[.int .u64 x1, .int .u64 y2, uV, uV, .int .u64 0, .int .u64 0, .int .u64 (Go.bits .and .u64 x1 4294967295), .int .u64 (shr x1 32), .int .u64 (Go.bits .and .u64 y2 4294967295), .int .u64 (shr y2 32), .int .u64 (u64 ((Go.bits .and .u64 x1 4294967295) * (Go.bits .and .u64 y2 4294967295))), .int .u64 (u64 ((u64 ((shr x1 32) * (Go.bits .and .u64 y2 4294967295))) + (shr (u64 ((Go.bits .and .u64 x1 4294967295) * (Go.bits .and .u64 y2 4294967295))) 32))), uV, uV, .int .u64 x1, .int .u64 (Go.bits .and .u64 x1 4294967295), .int .u64 x1, .int .u64 (shr x1 32), .int .u64 y2, .int .u64 (Go.bits .and .u64 y2 4294967295), .int .u64 y2, .int .u64 (shr y2 32), .int .u64 (Go.bits .and .u64 x1 4294967295), .int .u64 (Go.bits .and .u64 y2 4294967295), .int .u64 (u64 ((Go.bits .and .u64 x1 4294967295) * (Go.bits .and .u64 y2 4294967295))), .int .u64 (shr x1 32), .int .u64 (Go.bits .and .u64 y2 4294967295), .int .u64 (u64 ((shr x1 32) * (Go.bits .and .u64 y2 4294967295))), .int .u64 (u64 ((Go.bits .and .u64 x1 4294967295) * (Go.bits .and .u64 y2 4294967295))), .int .u64 (shr (u64 ((Go.bits .and .u64 x1 4294967295) * (Go.bits .and .u64 y2 4294967295))) 32), .int .u64 (u64 ((u64 ((shr x1 32) * (Go.bits .and .u64 y2 4294967295))) + (shr (u64 ((Go.bits .and .u64 x1 4294967295) * (Go.bits .and .u64 y2 4294967295))) 32))), uV, uV, uV, uV, uV, uV, uV, uV, uV, uV, uV, uV, uV, uV, uV, uV, uV, uV, uV, uV], []⟩) (by kernel_rfl) ?_
  refine wpList_nil ?_
  refine hK16 _ _ ?_
  refine wp_seq_k (fun K17 hK18 => ?_)
  refine wp_region_lit ?_
  refine seqS3 (a' := ⟨#[.int .u64 x1, .int .u64 y2, uV, uV, .int .u64 0, .int .u64 0, .int .u64 (Go.bits .and .u64 x1 4294967295), .int .u64 (shr x1 32), .int .u64 (Go.bits .and .u64 y2 4294967295), .int .u64 (shr y2 32), .int .u64 (u64 ((Go.bits .and .u64 x1 4294967295) * (Go.bits .and .u64 y2 4294967295))), .int .u64 (u64 ((u64 ((shr x1 32) * (Go.bits .and .u64 y2 4294967295))) + (shr (u64 ((Go.bits .and .u64 x1 4294967295) * (Go.bits .and .u64 y2 4294967295))) 32))), .int .u64 (Go.bits .and .u64 (u64 ((u64 ((shr x1 32) * (Go.bits .and .u64 y2 4294967295))) + (shr (u64 ((Go.bits .and .u64 x1 4294967295) * (Go.bits .and .u64 y2 4294967295))) 32))) 4294967295), uV, .int .u64 x1, .int .u64 (Go.bits .and .u64 x1 4294967295), .int .u64 x1, .int .u64 (shr x1 32), .int .u64 y2, .int .u64 (Go.bits .and .u64 y2 4294967295), .int .u64 y2, .int .u64 (shr y2 32), .int .u64 (Go.bits .and .u64 x1 4294967295), .int .u64 (Go.bits .and .u64 y2 4294967295), .int .u64 (u64 ((Go.bits .and .u64 x1 4294967295) * (Go.bits .and .u64 y2 4294967295))), .int .u64 (shr x1 32), .int .u64 (Go.bits .and .u64 y2 4294967295), .int .u64 (u64 ((shr x1 32) * (Go.bits .and .u64 y2 4294967295))), .int .u64 (u64 ((Go.bits .and .u64 x1 4294967295) * (Go.bits .and .u64 y2 4294967295))), .int .u64 (shr (u64 ((Go.bits .and .u64 x1 4294967295) * (Go.bits .and .u64 y2 4294967295))) 32), .int .u64 (u64 ((u64 ((shr x1 32) * (Go.bits .and .u64 y2 4294967295))) + (shr (u64 ((Go.bits .and .u64 x1 4294967295) * (Go.bits .and .u64 y2 4294967295))) 32))), .int .u64 (u64 ((u64 ((shr x1 32) * (Go.bits .and .u64 y2 4294967295))) + (shr (u64 ((Go.bits .and .u64 x1 4294967295) * (Go.bits .and .u64 y2 4294967295))) 32))), .int .u64 (Go.bits .and .u64 (u64 ((u64 ((shr x1 32) * (Go.bits .and .u64 y2 4294967295))) + (shr (u64 ((Go.bits .and .u64 x1 4294967295) * (Go.bits .and .u64 y2 4294967295))) 32))) 4294967295), uV, uV, uV, uV, uV, uV, uV, uV, uV, uV, uV, uV, uV, uV, uV, uV, uV, uV], []⟩) (by kernel_rfl) ?_
  refine wpList_nil ?_
  refine hK18 _ _ ?_
  refine wp_seq_k (fun K19 hK20 => ?_)
  refine wp_region_lit ?_
  refine seqS3 (a' := ⟨#[.int .u64 x1, .int .u64 y2, uV, uV, .int .u64 0, .int .u64 0, .int .u64 (Go.bits .and .u64 x1 4294967295), .int .u64 (shr x1 32), .int .u64 (Go.bits .and .u64 y2 4294967295), .int .u64 (shr y2 32), .int .u64 (u64 ((Go.bits .and .u64 x1 4294967295) * (Go.bits .and .u64 y2 4294967295))), .int .u64 (u64 ((u64 ((shr x1 32) * (Go.bits .and .u64 y2 4294967295))) + (shr (u64 ((Go.bits .and .u64 x1 4294967295) * (Go.bits .and .u64 y2 4294967295))) 32))), .int .u64 (Go.bits .and .u64 (u64 ((u64 ((shr x1 32) * (Go.bits .and .u64 y2 4294967295))) + (shr (u64 ((Go.bits .and .u64 x1 4294967295) * (Go.bits .and .u64 y2 4294967295))) 32))) 4294967295), .int .u64 (shr (u64 ((u64 ((shr x1 32) * (Go.bits .and .u64 y2 4294967295))) + (shr (u64 ((Go.bits .and .u64 x1 4294967295) * (Go.bits .and .u64 y2 4294967295))) 32))) 32), .int .u64 x1, .int .u64 (Go.bits .and .u64 x1 4294967295), .int .u64 x1, .int .u64 (shr x1 32), .int .u64 y2, .int .u64 (Go.bits .and .u64 y2 4294967295), .int .u64 y2, .int .u64 (shr y2 32), .int .u64 (Go.bits .and .u64 x1 4294967295), .int .u64 (Go.bits .and .u64 y2 4294967295), .int .u64 (u64 ((Go.bits .and .u64 x1 4294967295) * (Go.bits .and .u64 y2 4294967295))), .int .u64 (shr x1 32), .int .u64 (Go.bits .and .u64 y2 4294967295), .int .u64 (u64 ((shr x1 32) * (Go.bits .and .u64 y2 4294967295))), .int .u64 (u64 ((Go.bits .and .u64 x1 4294967295) * (Go.bits .and .u64 y2 4294967295))), .int .u64 (shr (u64 ((Go.bits .and .u64 x1 4294967295) * (Go.bits .and .u64 y2 4294967295))) 32), .int .u64 (u64 ((u64 ((shr x1 32) * (Go.bits .and .u64 y2 4294967295))) + (shr (u64 ((Go.bits .and .u64 x1 4294967295) * (Go.bits .and .u64 y2 4294967295))) 32))), .int .u64 (u64 ((u64 ((shr x1 32) * (Go.bits .and .u64 y2 4294967295))) + (shr (u64 ((Go.bits .and .u64 x1 4294967295) * (Go.bits .and .u64 y2 4294967295))) 32))), .int .u64 (Go.bits .and .u64 (u64 ((u64 ((shr x1 32) * (Go.bits .and .u64 y2 4294967295))) + (shr (u64 ((Go.bits .and .u64 x1 4294967295) * (Go.bits .and .u64 y2 4294967295))) 32))) 4294967295), .int .u64 (u64 ((u64 ((shr x1 32) * (Go.bits .and .u64 y2 4294967295))) + (shr (u64 ((Go.bits .and .u64 x1 4294967295) * (Go.bits .and .u64 y2 4294967295))) 32))), .int .u64 (shr (u64 ((u64 ((shr x1 32) * (Go.bits .and .u64 y2 4294967295))) + (shr (u64 ((Go.bits .and .u64 x1 4294967295) * (Go.bits .and .u64 y2 4294967295))) 32))) 32), uV, uV, uV, uV, uV, uV, uV, uV, uV, uV, uV, uV, uV, uV, uV, uV], []⟩) (by kernel_rfl) ?_
  refine wpList_nil ?_
  refine hK20 _ _ ?_
  refine wp_seq_k (fun K21 hK22 => ?_)
  refine wp_region_lit ?_
  refine seqS6 (a' := ⟨#[.int .u64 x1, .int .u64 y2, uV, uV, .int .u64 0, .int .u64 0, .int .u64 (Go.bits .and .u64 x1 4294967295), .int .u64 (shr x1 32), .int .u64 (Go.bits .and .u64 y2 4294967295), .int .u64 (shr y2 32), .int .u64 (u64 ((Go.bits .and .u64 x1 4294967295) * (Go.bits .and .u64 y2 4294967295))), .int .u64 (u64 ((u64 ((shr x1 32) * (Go.bits .and .u64 y2 4294967295))) + (shr (u64 ((Go.bits .and .u64 x1 4294967295) * (Go.bits .and .u64 y2 4294967295))) 32))), .int .u64 (u64 ((Go.bits .and .u64 (u64 ((u64 ((shr x1 32) * (Go.bits .and .u64 y2 4294967295))) + (shr (u64 ((Go.bits .and .u64 x1 4294967295) * (Go.bits .and .u64 y2 4294967295))) 32))) 4294967295) + (u64 ((Go.bits .and .u64 x1 4294967295) * (shr y2 32))))), .int .u64 (shr (u64 ((u64 ((shr x1 32) * (Go.bits .and .u64 y2 4294967295))) + (shr (u64 ((Go.bits .and .u64 x1 4294967295) * (Go.bits .and .u64 y2 4294967295))) 32))) 32), .int .u64 x1, .int .u64 (Go.bits .and .u64 x1 4294967295), .int .u64 x1, .int .u64 (shr x1 32), .int .u64 y2, .int .u64 (Go.bits .and .u64 y2 4294967295), .int .u64 y2, .int .u64 (shr y2 32), .int .u64 (Go.bits .and .u64 x1 4294967295), .int .u64 (Go.bits .and .u64 y2 4294967295), .int .u64 (u64 ((Go.bits .and .u64 x1 4294967295) * (Go.bits .and .u64 y2 4294967295))), .int .u64 (shr x1 32), .int .u64 (Go.bits .and .u64 y2 4294967295), .int .u64 (u64 ((shr x1 32) * (Go.bits .and .u64 y2 4294967295))), .int .u64 (u64 ((Go.bits .and .u64 x1 4294967295) * (Go.bits .and .u64 y2 4294967295))), .int .u64 (shr (u64 ((Go.bits .and .u64 x1 4294967295) * (Go.bits .and .u64 y2 4294967295))) 32), .int .u64 (u64 ((u64 ((shr x1 32) * (Go.bits .and .u64 y2 4294967295))) + (shr (u64 ((Go.bits .and .u64 x1 4294967295) * (Go.bits .and .u64 y2 4294967295))) 32))), .int .u64 (u64 ((u64 ((shr x1 32) * (Go.bits .and .u64 y2 4294967295))) + (shr (u64 ((Go.bits .and .u64 x1 4294967295) * (Go.bits .and .u64 y2 4294967295))) 32))), .int .u64 (Go.bits .and .u64 (u64 ((u64 ((shr x1 32) * (Go.bits .and .u64 y2 4294967295))) + (shr (u64 ((Go.bits .and .u64 x1 4294967295) * (Go.bits .and .u64 y2 4294967295))) 32))) 4294967295), .int .u64 (u64 ((u64 ((shr x1 32) * (Go.bits .and .u64 y2 4294967295))) + (shr (u64 ((Go.bits .and .u64 x1 4294967295) * (Go.bits .and .u64 y2 4294967295))) 32))), .int .u64 (shr (u64 ((u64 ((shr x1 32) * (Go.bits .and .u64 y2 4294967295))) + (shr (u64 ((Go.bits .and .u64 x1 4294967295) * (Go.bits .and .u64 y2 4294967295))) 32))) 32), .int .u64 (Go.bits .and .u64 (u64 ((u64 ((shr x1 32) * (Go.bits .and .u64 y2 4294967295))) + (shr (u64 ((Go.bits .and .u64 x1 4294967295) * (Go.bits .and .u64 y2 4294967295))) 32))) 4294967295), .int .u64 (Go.bits .and .u64 x1 4294967295), .int .u64 (shr y2 32), .int .u64 (u64 ((Go.bits .and .u64 x1 4294967295) * (shr y2 32))), .int .u64 (u64 ((Go.bits .and .u64 (u64 ((u64 ((shr x1 32) * (Go.bits .and .u64 y2 4294967295))) + (shr (u64 ((Go.bits .and .u64 x1 4294967295) * (Go.bits .and .u64 y2 4294967295))) 32))) 4294967295) + (u64 ((Go.bits .and .u64 x1 4294967295) * (shr y2 32))))), uV, uV, uV, uV, uV, uV, uV, uV, uV, uV, uV], []⟩) (by kernel_rfl) ?_
  refine wpList_nil ?_
  refine hK22 _ _ ?_
  refine wp_seq_k (fun K23 hK24 => ?_)
  refine wp_region_lit ?_
  refine seqS9 (a' := ⟨#[.int .u64 x1, .int .u64 y2, uV, uV, .int .u64 (u64 ((u64 ((u64 ((shr x1 32) * (shr y2 32))) + (shr (u64 ((u64 ((shr x1 32) * (Go.bits .and .u64 y2 4294967295))) + (shr (u64 ((Go.bits .and .u64 x1 4294967295) * (Go.bits .and .u64 y2 4294967295))) 32))) 32))) + (shr (u64 ((Go.bits .and .u64 (u64 ((u64 ((shr x1 32) * (Go.bits .and .u64 y2 4294967295))) + (shr (u64 ((Go.bits .and .u64 x1 4294967295) * (Go.bits .and .u64 y2 4294967295))) 32))) 4294967295) + (u64 ((Go.bits .and .u64 x1 4294967295) * (shr y2 32))))) 32))), .int .u64 0, .int .u64 (Go.bits .and .u64 x1 4294967295), .int .u64 (shr x1 32), .int .u64 (Go.bits .and .u64 y2 4294967295), .int .u64 (shr y2 32), .int .u64 (u64 ((Go.bits .and .u64 x1 4294967295) * (Go.bits .and .u64 y2 4294967295))), .int .u64 (u64 ((u64 ((shr x1 32) * (Go.bits .and .u64 y2 4294967295))) + (shr (u64 ((Go.bits .and .u64 x1 4294967295) * (Go.bits .and .u64 y2 4294967295))) 32))), .int .u64 (u64 ((Go.bits .and .u64 (u64 ((u64 ((shr x1 32) * (Go.bits .and .u64 y2 4294967295))) + (shr (u64 ((Go.bits .and .u64 x1 4294967295) * (Go.bits .and .u64 y2 4294967295))) 32))) 4294967295) + (u64 ((Go.bits .and .u64 x1 4294967295) * (shr y2 32))))), .int .u64 (shr (u64 ((u64 ((shr x1 32) * (Go.bits .and .u64 y2 4294967295))) + (shr (u64 ((Go.bits .and .u64 x1 4294967295) * (Go.bits .and .u64 y2 4294967295))) 32))) 32), .int .u64 x1, .int .u64 (Go.bits .and .u64 x1 4294967295), .int .u64 x1, .int .u64 (shr x1 32), .int .u64 y2, .int .u64 (Go.bits .and .u64 y2 4294967295), .int .u64 y2, .int .u64 (shr y2 32), .int .u64 (Go.bits .and .u64 x1 4294967295), .int .u64 (Go.bits .and .u64 y2 4294967295), .int .u64 (u64 ((Go.bits .and .u64 x1 4294967295) * (Go.bits .and .u64 y2 4294967295))), .int .u64 (shr x1 32), .int .u64 (Go.bits .and .u64 y2 4294967295), .int .u64 (u64 ((shr x1 32) * (Go.bits .and .u64 y2 4294967295))), .int .u64 (u64 ((Go.bits .and .u64 x1 4294967295) * (Go.bits .and .u64 y2 4294967295))), .int .u64 (shr (u64 ((Go.bits .and .u64 x1 4294967295) * (Go.bits .and .u64 y2 4294967295))) 32), .int .u64 (u64 ((u64 ((shr x1 32) * (Go.bits .and .u64 y2 4294967295))) + (shr (u64 ((Go.bits .and .u64 x1 4294967295) * (Go.bits .and .u64 y2 4294967295))) 32))), .int .u64 (u64 ((u64 ((shr x1 32) * (Go.bits .and .u64 y2 4294967295))) + (shr (u64 ((Go.bits .and .u64 x1 4294967295) * (Go.bits .and .u64 y2 4294967295))) 32))), .int .u64 (Go.bits .and .u64 (u64 ((u64 ((shr x1 32) * (Go.bits .and .u64 y2 4294967295))) + (shr (u64 ((Go.bits .and .u64 x1 4294967295) * (Go.bits .and .u64 y2 4294967295))) 32))) 4294967295), .int .u64 (u64 ((u64 ((shr x1 32) * (Go.bits .and .u64 y2 4294967295))) + (shr (u64 ((Go.bits .and .u64 x1 4294967295) * (Go.bits .and .u64 y2 4294967295))) 32))), .int .u64 (shr (u64 ((u64 ((shr x1 32) * (Go.bits .and .u64 y2 4294967295))) + (shr (u64 ((Go.bits .and .u64 x1 4294967295) * (Go.bits .and .u64 y2 4294967295))) 32))) 32), .int .u64 (Go.bits .and .u64 (u64 ((u64 ((shr x1 32) * (Go.bits .and .u64 y2 4294967295))) + (shr (u64 ((Go.bits .and .u64 x1 4294967295) * (Go.bits .and .u64 y2 4294967295))) 32))) 4294967295), .int .u64 (Go.bits .and .u64 x1 4294967295), .int .u64 (shr y2 32), .int .u64 (u64 ((Go.bits .and .u64 x1 4294967295) * (shr y2 32))), .int .u64 (u64 ((Go.bits .and .u64 (u64 ((u64 ((shr x1 32) * (Go.bits .and .u64 y2 4294967295))) + (shr (u64 ((Go.bits .and .u64 x1 4294967295) * (Go.bits .and .u64 y2 4294967295))) 32))) 4294967295) + (u64 ((Go.bits .and .u64 x1 4294967295) * (shr y2 32))))), .int .u64 (shr x1 32), .int .u64 (shr y2 32), .int .u64 (u64 ((shr x1 32) * (shr y2 32))), .int .u64 (shr (u64 ((u64 ((shr x1 32) * (Go.bits .and .u64 y2 4294967295))) + (shr (u64 ((Go.bits .and .u64 x1 4294967295) * (Go.bits .and .u64 y2 4294967295))) 32))) 32), .int .u64 (u64 ((u64 ((shr x1 32) * (shr y2 32))) + (shr (u64 ((u64 ((shr x1 32) * (Go.bits .and .u64 y2 4294967295))) + (shr (u64 ((Go.bits .and .u64 x1 4294967295) * (Go.bits .and .u64 y2 4294967295))) 32))) 32))), .int .u64 (u64 ((Go.bits .and .u64 (u64 ((u64 ((shr x1 32) * (Go.bits .and .u64 y2 4294967295))) + (shr (u64 ((Go.bits .and .u64 x1 4294967295) * (Go.bits .and .u64 y2 4294967295))) 32))) 4294967295) + (u64 ((Go.bits .and .u64 x1 4294967295) * (shr y2 32))))), .int .u64 (shr (u64 ((Go.bits .and .u64 (u64 ((u64 ((shr x1 32) * (Go.bits .and .u64 y2 4294967295))) + (shr (u64 ((Go.bits .and .u64 x1 4294967295) * (Go.bits .and .u64 y2 4294967295))) 32))) 4294967295) + (u64 ((Go.bits .and .u64 x1 4294967295) * (shr y2 32))))) 32), .int .u64 (u64 ((u64 ((u64 ((shr x1 32) * (shr y2 32))) + (shr (u64 ((u64 ((shr x1 32) * (Go.bits .and .u64 y2 4294967295))) + (shr (u64 ((Go.bits .and .u64 x1 4294967295) * (Go.bits .and .u64 y2 4294967295))) 32))) 32))) + (shr (u64 ((Go.bits .and .u64 (u64 ((u64 ((shr x1 32) * (Go.bits .and .u64 y2 4294967295))) + (shr (u64 ((Go.bits .and .u64 x1 4294967295) * (Go.bits .and .u64 y2 4294967295))) 32))) 4294967295) + (u64 ((Go.bits .and .u64 x1 4294967295) * (shr y2 32))))) 32))), uV, uV, uV], []⟩) (by kernel_rfl) ?_
  refine wpList_nil ?_
  refine hK24 _ _ ?_
  refine wp_seq_k (fun K25 hK26 => ?_)
  refine wp_region_lit ?_
  refine seqS4 (a' := ⟨#[.int .u64 x1, .int .u64 y2, uV, uV, .int .u64 (u64 ((u64 ((u64 ((shr x1 32) * (shr y2 32))) + (shr (u64 ((u64 ((shr x1 32) * (Go.bits .and .u64 y2 4294967295))) + (shr (u64 ((Go.bits .and .u64 x1 4294967295) * (Go.bits .and .u64 y2 4294967295))) 32))) 32))) + (shr (u64 ((Go.bits .and .u64 (u64 ((u64 ((shr x1 32) * (Go.bits .and .u64 y2 4294967295))) + (shr (u64 ((Go.bits .and .u64 x1 4294967295) * (Go.bits .and .u64 y2 4294967295))) 32))) 4294967295) + (u64 ((Go.bits .and .u64 x1 4294967295) * (shr y2 32))))) 32))), .int .u64 (u64 (x1 * y2)), .int .u64 (Go.bits .and .u64 x1 4294967295), .int .u64 (shr x1 32), .int .u64 (Go.bits .and .u64 y2 4294967295), .int .u64 (shr y2 32), .int .u64 (u64 ((Go.bits .and .u64 x1 4294967295) * (Go.bits .and .u64 y2 4294967295))), .int .u64 (u64 ((u64 ((shr x1 32) * (Go.bits .and .u64 y2 4294967295))) + (shr (u64 ((Go.bits .and .u64 x1 4294967295) * (Go.bits .and .u64 y2 4294967295))) 32))), .int .u64 (u64 ((Go.bits .and .u64 (u64 ((u64 ((shr x1 32) * (Go.bits .and .u64 y2 4294967295))) + (shr (u64 ((Go.bits .and .u64 x1 4294967295) * (Go.bits .and .u64 y2 4294967295))) 32))) 4294967295) + (u64 ((Go.bits .and .u64 x1 4294967295) * (shr y2 32))))), .int .u64 (shr (u64 ((u64 ((shr x1 32) * (Go.bits .and .u64 y2 4294967295))) + (shr (u64 ((Go.bits .and .u64 x1 4294967295) * (Go.bits .and .u64 y2 4294967295))) 32))) 32), .int .u64 x1, .int .u64 (Go.bits .and .u64 x1 4294967295), .int .u64 x1, .int .u64 (shr x1 32), .int .u64 y2, .int .u64 (Go.bits .and .u64 y2 4294967295), .int .u64 y2, .int .u64 (shr y2 32), .int .u64 (Go.bits .and .u64 x1 4294967295), .int .u64 (Go.bits .and .u64 y2 4294967295), .int .u64 (u64 ((Go.bits .and .u64 x1 4294967295) * (Go.bits .and .u64 y2 4294967295))), .int .u64 (shr x1 32), .int .u64 (Go.bits .and .u64 y2 4294967295), .int .u64 (u64 ((shr x1 32) * (Go.bits .and .u64 y2 4294967295))), .int .u64 (u64 ((Go.bits .and .u64 x1 4294967295) * (Go.bits .and .u64 y2 4294967295))), .int .u64 (shr (u64 ((Go.bits .and .u64 x1 4294967295) * (Go.bits .and .u64 y2 4294967295))) 32), .int .u64 (u64 ((u64 ((shr x1 32) * (Go.bits .and .u64 y2 4294967295))) + (shr (u64 ((Go.bits .and .u64 x1 4294967295) * (Go.bits .and .u64 y2 4294967295))) 32))), .int .u64 (u64 ((u64 ((shr x1 32) * (Go.bits .and .u64 y2 4294967295))) + (shr (u64 ((Go.bits .and .u64 x1 4294967295) * (Go.bits .and .u64 y2 4294967295))) 32))), .int .u64 (Go.bits .and .u64 (u64 ((u64 ((shr x1 32) * (Go.bits .and .u64 y2 4294967295))) + (shr (u64 ((Go.bits .and .u64 x1 4294967295) * (Go.bits .and .u64 y2 4294967295))) 32))) 4294967295), .int .u64 (u64 ((u64 ((shr x1 32) * (Go.bits .and .u64 y2 4294967295))) + (shr (u64 ((Go.bits .and .u64 x1 4294967295) * (Go.bits .and .u64 y2 4294967295))) 32))), .int .u64 (shr (u64 ((u64 ((shr x1 32) * (Go.bits .and .u64 y2 4294967295))) + (shr (u64 ((Go.bits .and .u64 x1 4294967295) * (Go.bits .and .u64 y2 4294967295))) 32))) 32), .int .u64 (Go.bits .and .u64 (u64 ((u64 ((shr x1 32) * (Go.bits .and .u64 y2 4294967295))) + (shr (u64 ((Go.bits .and .u64 x1 4294967295) * (Go.bits .and .u64 y2 4294967295))) 32))) 4294967295), .int .u64 (Go.bits .and .u64 x1 4294967295), .int .u64 (shr y2 32), .int .u64 (u64 ((Go.bits .and .u64 x1 4294967295) * (shr y2 32))), .int .u64 (u64 ((Go.bits .and .u64 (u64 ((u64 ((shr x1 32) * (Go.bits .and .u64 y2 4294967295))) + (shr (u64 ((Go.bits .and .u64 x1 4294967295) * (Go.bits .and .u64 y2 4294967295))) 32))) 4294967295) + (u64 ((Go.bits .and .u64 x1 4294967295) * (shr y2 32))))), .int .u64 (shr x1 32), .int .u64 (shr y2 32), .int .u64 (u64 ((shr x1 32) * (shr y2 32))), .int .u64 (shr (u64 ((u64 ((shr x1 32) * (Go.bits .and .u64 y2 4294967295))) + (shr (u64 ((Go.bits .and .u64 x1 4294967295) * (Go.bits .and .u64 y2 4294967295))) 32))) 32), .int .u64 (u64 ((u64 ((shr x1 32) * (shr y2 32))) + (shr (u64 ((u64 ((shr x1 32) * (Go.bits .and .u64 y2 4294967295))) + (shr (u64 ((Go.bits .and .u64 x1 4294967295) * (Go.bits .and .u64 y2 4294967295))) 32))) 32))), .int .u64 (u64 ((Go.bits .and .u64 (u64 ((u64 ((shr x1 32) * (Go.bits .and .u64 y2 4294967295))) + (shr (u64 ((Go.bits .and .u64 x1 4294967295) * (Go.bits .and .u64 y2 4294967295))) 32))) 4294967295) + (u64 ((Go.bits .and .u64 x1 4294967295) * (shr y2 32))))), .int .u64 (shr (u64 ((Go.bits .and .u64 (u64 ((u64 ((shr x1 32) * (Go.bits .and .u64 y2 4294967295))) + (shr (u64 ((Go.bits .and .u64 x1 4294967295) * (Go.bits .and .u64 y2 4294967295))) 32))) 4294967295) + (u64 ((Go.bits .and .u64 x1 4294967295) * (shr y2 32))))) 32), .int .u64 (u64 ((u64 ((u64 ((shr x1 32) * (shr y2 32))) + (shr (u64 ((u64 ((shr x1 32) * (Go.bits .and .u64 y2 4294967295))) + (shr (u64 ((Go.bits .and .u64 x1 4294967295) * (Go.bits .and .u64 y2 4294967295))) 32))) 32))) + (shr (u64 ((Go.bits .and .u64 (u64 ((u64 ((shr x1 32) * (Go.bits .and .u64 y2 4294967295))) + (shr (u64 ((Go.bits .and .u64 x1 4294967295) * (Go.bits .and .u64 y2 4294967295))) 32))) 4294967295) + (u64 ((Go.bits .and .u64 x1 4294967295) * (shr y2 32))))) 32))), .int .u64 x1, .int .u64 y2, .int .u64 (u64 (x1 * y2))], []⟩) (by kernel_rfl) ?_
  refine wpList_nil ?_
  refine hK26 _ _ ?_
  refine wp_ret ?_
  refine hret _ _ ?_
  refine ends_still (v := Value.tuple #[.int .u64 (u64 ((u64 ((u64 ((shr x1 32) * (shr y2 32))) + (shr (u64 ((u64 ((shr x1 32) * (Go.bits .and .u64 y2 4294967295))) + (shr (u64 ((Go.bits .and .u64 x1 4294967295) * (Go.bits .and .u64 y2 4294967295))) 32))) 32))) + (shr (u64 ((Go.bits .and .u64 (u64 ((u64 ((shr x1 32) * (Go.bits .and .u64 y2 4294967295))) + (shr (u64 ((Go.bits .and .u64 x1 4294967295) * (Go.bits .and .u64 y2 4294967295))) 32))) 4294967295) + (u64 ((Go.bits .and .u64 x1 4294967295) * (shr y2 32))))) 32))), .int .u64 (u64 (x1 * y2))]) (by kernel_rfl) (by kernel_rfl) ?_
  injection h with h
  injection h with h0_ h
  subst h0_ h
  exact ⟨f, rfl, FM.le.refl _, HS⟩

set_option maxRecDepth 100000 in
set_option maxHeartbeats 4000000 in
theorem num_SqrtMul.calls (k : Nat)  (a1 : Int) (b2 : Int) {t w : World} {f : FM} {H : List Seg} (HS : St t w f (H)) (r1 : Int) (h : num_SqrtMul k a1 b2 = some r1) :
    Calls Try.prog 44 #[.int .i64 a1, .int .i64 b2] w (fun e w' => ∃ (g : FM), e = .returned (Value.int .i64 r1) ∧ FM.le f g ∧ St t w' g (H)) := by
  unfold num_SqrtMul at h
  refine enter Try.func44 rfl (tm := #[iV a1, iV b2, uV, uV, uV, uV, uV, uV, uV, uV, uV, uV, uV, uV, uV, uV, uV, uV, uV, uV, uV, uV, uV, uV, uV, uV, uV, uV, uV, uV, uV, uV, uV, uV, uV, uV, uV, uV, uV, uV, uV, uV, uV, uV, uV, uV, uV, uV, uV, uV, uV, uV, uV, uV, uV, uV, uV]) (by kernel_rfl) ?_
  intro B hret hnor hnp
  refine wp_seq_k (fun K3 hK4 => ?_)
  refine wp_region_lit ?_
  refine seqS1 (a' := ⟨#[iV a1, iV b2, uV, uV, iV 0, uV, uV, uV, uV, uV, uV, uV, uV, uV, uV, uV, uV, uV, uV, uV, uV, uV, uV, uV, uV, uV, uV, uV, uV, uV, uV, uV, uV, uV, uV, uV, uV, uV, uV, uV, uV, uV, uV, uV, uV, uV, uV, uV, uV, uV, uV, uV, uV, uV, uV, uV, uV], []⟩) (by kernel_rfl) ?_
  refine wpList_nil ?_
  refine hK4 _ _ ?_
  refine wp_seq_k (fun K5 hK6 => ?_)
  refine wp_seq_k (fun K7 hK8 => ?_)
  refine wp_region_lit ?_
  refine seqS3 (a' := ⟨#[iV a1, iV b2, uV, uV, iV 0, uV, uV, uV, uV, uV, uV, iV a1, .bool (decide (a1 < 0)), .bool (decide (a1 < 0)), uV, uV, uV, uV, uV, uV, uV, uV, uV, uV, uV, uV, uV, uV, uV, uV, uV, uV, uV, uV, uV, uV, uV, uV, uV, uV, uV, uV, uV, uV, uV, uV, uV, uV, uV, uV, uV, uV, uV, uV, uV, uV, uV], []⟩) (by kernel_rfl) ?_
  have hq_ := ite_some h; clear h; rcases hq_ with ⟨c9, h⟩ | ⟨c9, h⟩
  · have c9 : a1 < 0 := c9
    refine seqRwI 12 (x := (decide (a1 < 0))) (v := true) (by kernel_rfl) (decide_eq_true c9) ?_
    refine seqRwI 13 (x := (decide (a1 < 0))) (v := true) (by kernel_rfl) (decide_eq_true c9) ?_
    refine seqS3 (a' := ⟨#[iV a1, iV b2, uV, uV, iV 0, uV, uV, uV, uV, uV, uV, iV a1, .bool true, .bool true, uV, uV, .bool true, uV, uV, uV, uV, uV, uV, uV, uV, uV, uV, uV, uV, uV, uV, uV, uV, uV, uV, uV, uV, uV, uV, uV, uV, uV, uV, uV, uV, uV, uV, uV, uV, uV, uV, uV, uV, uV, uV, uV, uV], []⟩) (by kernel_rfl) ?_
    refine wpList_nil ?_
    refine hK8 _ _ ?_
    refine condT (by kernel_rfl) ?_
    refine wp_seq_k (fun K10 hK11 => ?_)
    refine wp_region_lit ?_
    refine seqS1 (a' := ⟨#[iV a1, iV b2, uV, uV, iV 0, uV, uV, uV, uV, uV, uV, iV a1, .bool true, .bool true, uV, uV, .bool true, uV, uV, uV, uV, uV, uV, uV, uV, uV, uV, uV, uV, uV, uV, uV, uV, uV, uV, uV, uV, uV, uV, uV, uV, uV, uV, uV, uV, uV, uV, uV, uV, uV, uV, uV, uV, uV, uV, uV, uV], []⟩) (by kernel_rfl) ?_
    refine wpList_nil ?_
    refine hK11 _ _ ?_
    refine wp_ret ?_
    refine hret _ _ ?_
    refine ends_still (v := Value.int .i64 0) (by kernel_rfl) (by kernel_rfl) ?_
    injection h with h
    subst h
    exact ⟨f, rfl, FM.le.refl _, HS⟩
  · have c9 : ¬ (a1 < 0) := c9
    refine seqRwI 12 (x := (decide (a1 < 0))) (v := false) (by kernel_rfl) (decide_eq_false c9) ?_
    refine seqRwI 13 (x := (decide (a1 < 0))) (v := false) (by kernel_rfl) (decide_eq_false c9) ?_
    refine seqS3 (a' := ⟨#[iV a1, iV b2, uV, uV, iV 0, uV, uV, uV, uV, uV, uV, iV a1, .bool false, .bool false, iV b2, .bool (decide (b2 < 0)), .bool (decide (b2 < 0)), uV, uV, uV, uV, uV, uV, uV, uV, uV, uV, uV, uV, uV, uV, uV, uV, uV, uV, uV, uV, uV, uV, uV, uV, uV, uV, uV, uV, uV, uV, uV, uV, uV, uV, uV, uV, uV, uV, uV, uV], []⟩) (by kernel_rfl) ?_
    refine wpList_nil ?_
    refine hK8 _ _ ?_
    have hq_ := ite_some h; clear h; rcases hq_ with ⟨c13, h⟩ | ⟨c13, h⟩
    · have c13 : b2 < 0 := c13
      refine wpRwI 15 (x := (decide (b2 < 0))) (v := true) (by kernel_rfl) (decide_eq_true c13) ?_
      refine wpRwI 16 (x := (decide (b2 < 0))) (v := true) (by kernel_rfl) (decide_eq_true c13) ?_
      refine condT (by kernel_rfl) ?_
      refine wp_seq_k (fun K14 hK15 => ?_)
      refine wp_region_lit ?_
      refine seqS1 (a' := ⟨#[iV a1, iV b2, uV, uV, iV 0, uV, uV, uV, uV, uV, uV, iV a1, .bool false, .bool false, iV b2, .bool true, .bool true, uV, uV, uV, uV, uV, uV, uV, uV, uV, uV, uV, uV, uV, uV, uV, uV, uV, uV, uV, uV, uV, uV, uV, uV, uV, uV, uV, uV, uV, uV, uV, uV, uV, uV, uV, uV, uV, uV, uV, uV], []⟩) (by kernel_rfl) ?_
      refine wpList_nil ?_
      refine hK15 _ _ ?_
      refine wp_ret ?_
      refine hret _ _ ?_
      refine ends_still (v := Value.int .i64 0) (by kernel_rfl) (by kernel_rfl) ?_
      injection h with h
      subst h
      exact ⟨f, rfl, FM.le.refl _, HS⟩
    · have c13 : ¬ (b2 < 0) := c13
      refine wpRwI 15 (x := (decide (b2 < 0))) (v := false) (by kernel_rfl) (decide_eq_false c13) ?_
      refine wpRwI 16 (x := (decide (b2 < 0))) (v := false) (by kernel_rfl) (decide_eq_false c13) ?_
      refine condF (by kernel_rfl) ?_
      refine wp_skip ?_
      refine hK6 _ _ ?_
      refine wp_seq_k (fun K16 hK17 => ?_)
      refine wp_region_lit ?_
      have hq_ := bind_some h; clear h; obtain ⟨⟨vt18, vt19⟩, hc20, h⟩ := hq_
      refine seqL4 (by kernel_rfl) ?_
      refine seqK rfl (does_call (f := 54) (args := #[.int .u64 (u64 (a1)), .int .u64 (u64 (b2))]) (by kernel_rfl) (bits_Mul64.calls k (u64 (a1)) (u64 (b2)) HS vt18 vt19 hc20) ?_)
      rintro _ W23 ⟨f21, rfl, L22, HS24⟩
      refine ⟨_, rfl, ?_⟩
      refine seqS5 (a' := ⟨#[iV a1, iV b2, uV, uV, iV 0, .int .u64 vt18, .int .u64 vt19, uV, uV, uV, uV, iV a1, .bool false, .bool false, iV b2, .bool false, .bool false, .tuple #[.int .u64 vt18, .int .u64 vt19], iV a1, .int .u64 (u64 (a1)), iV b2, .int .u64 (u64 (b2)), .tuple #[.int .u64 vt18, .int .u64 vt19], .int .u64 vt18, .int .u64 vt19, uV, uV, uV, uV, uV, uV, uV, uV, uV, uV, uV, uV, uV, uV, uV, uV, uV, uV, uV, uV, uV, uV, uV, uV, uV, uV, uV, uV, uV, uV, uV, uV], []⟩) (by kernel_rfl) ?_
      refine wpList_nil ?_
      refine hK17 _ _ ?_
      refine wp_seq_k (fun K25 hK26 => ?_)
      refine wp_region_lit ?_
      refine seqS1 (a' := ⟨#[iV a1, iV b2, uV, uV, iV 0, .int .u64 vt18, .int .u64 vt19, .int .u64 0, uV, uV, uV, iV a1, .bool false, .bool false, iV b2, .bool false, .bool false, .tuple #[.int .u64 vt18, .int .u64 vt19], iV a1, .int .u64 (u64 (a1)), iV b2, .int .u64 (u64 (b2)), .tuple #[.int .u64 vt18, .int .u64 vt19], .int .u64 vt18, .int .u64 vt19, uV, uV, uV, uV, uV, uV, uV, uV, uV, uV, uV, uV, uV, uV, uV, uV, uV, uV, uV, uV, uV, uV, uV, uV, uV, uV, uV, uV, uV, uV, uV, uV], []⟩) (by kernel_rfl) ?_
      refine wpList_nil ?_
      refine hK26 _ _ ?_
      refine wp_seq_k (fun K27 hK28 => ?_)
      refine wp_seq_k (fun K29 hK30 => ?_)
      refine wp_region_lit ?_
      refine seqS1 (a' := ⟨#[iV a1, iV b2, uV, uV, iV 0, .int .u64 vt18, .int .u64 vt19, .int .u64 0, .int .u64 4611686018427387904, uV, uV, iV a1, .bool false, .bool false, iV b2, .bool false, .bool false, .tuple #[.int .u64 vt18, .int .u64 vt19], iV a1, .int .u64 (u64 (a1)), iV b2, .int .u64 (u64 (b2)), .tuple #[.int .u64 vt18, .int .u64 vt19], .int .u64 vt18, .int .u64 vt19, uV, uV, uV, uV, uV, uV, uV, uV, uV, uV, uV, uV, uV, uV, uV, uV, uV, uV, uV, uV, uV, uV, uV, uV, uV, uV, uV, uV, uV, uV, uV, uV], []⟩) (by kernel_rfl) ?_
      refine wpList_nil ?_
      refine hK30 _ _ ?_
      refine blockK (fun B31 hx32 hn33 hr34 ho35 hp36 => ?_)
      have hq_ := bind_some h; clear h; obtain ⟨o37, hv84, h⟩ := hq_
      have J85 : ∀ (f78 : FM) (r83 : Int) (j82 : Nat → Value) (W80 : World) (a_ : Act), FM.le f21 f78 → some (r83) = some o37 → St t W80 f78 (H) → a_ = ⟨#[iV a1, iV b2, uV, uV, iV 0, .int .u64 vt18, .int .u64 vt19, .int .u64 r83, (j82 0), (j82 1), (j82 2), iV a1, .bool false, .bool false, iV b2, .bool false, .bool false, .tuple #[.int .u64 vt18, .int .u64 vt19], iV a1, .int .u64 (u64 (a1)), iV b2, .int .u64 (u64 (b2)), .tuple #[.int .u64 vt18, .int .u64 vt19], .int .u64 vt18, .int .u64 vt19, (j82 3), (j82 4), (j82 5), (j82 6), (j82 7), (j82 8), (j82 9), (j82 10), (j82 11), (j82 12), (j82 13), (j82 14), (j82 15), (j82 16), (j82 17), (j82 18), (j82 19), (j82 20), (j82 21), (j82 22), (j82 23), (j82 24), (j82 25), (j82 26), (j82 27), (j82 28), (j82 29), (j82 30), (j82 31), (j82 32), uV, uV], []⟩ → K27 a_ W80 := by
        intro f78 r83 j82 W80 a_ L79 hj86 HS81  hfr_; subst hfr_
        injection hj86 with hj86; subst hj86; try dsimp only at h
        refine hK28 _ _ ?_
        refine wp_seq_k (fun K87 hK88 => ?_)
        refine wp_region_lit ?_
        refine seqS3 (a' := ⟨#[iV a1, iV b2, uV, uV, iV (w64 (r83)), .int .u64 vt18, .int .u64 vt19, .int .u64 r83, (j82 0), (j82 1), (j82 2), iV a1, .bool false, .bool false, iV b2, .bool false, .bool false, .tuple #[.int .u64 vt18, .int .u64 vt19], iV a1, .int .u64 (u64 (a1)), iV b2, .int .u64 (u64 (b2)), .tuple #[.int .u64 vt18, .int .u64 vt19], .int .u64 vt18, .int .u64 vt19, (j82 3), (j82 4), (j82 5), (j82 6), (j82 7), (j82 8), (j82 9), (j82 10), (j82 11), (j82 12), (j82 13), (j82 14), (j82 15), (j82 16), (j82 17), (j82 18), (j82 19), (j82 20), (j82 21), (j82 22), (j82 23), (j82 24), (j82 25), (j82 26), (j82 27), (j82 28), (j82 29), (j82 30), (j82 31), (j82 32), .int .u64 r83, iV (w64 (r83))], []⟩) (by kernel_rfl) ?_
        refine wpList_nil ?_
        refine hK88 _ _ ?_
        refine wp_ret ?_
        refine hret _ _ ?_
        refine ends_still (v := Value.int .i64 (w64 (r83))) (by kernel_rfl) (by kernel_rfl) ?_
        injection h with h
        subst h
        exact ⟨f78, rfl, (L22.trans L79), HS81⟩
      clear h; have h := hv84; clear hv84
      refine loopK (fun n_ a_ w_ => ∃ (f41 : FM) (r46 : Int) (bit47 : Int) (j45 : Nat → Value), FM.le f21 f41 ∧ St t w_ f41 (H) ∧ num_SqrtMul.l0 k vt18 vt19 n_ r46 bit47 = some o37 ∧ a_ = ⟨#[iV a1, iV b2, uV, uV, iV 0, .int .u64 vt18, .int .u64 vt19, .int .u64 r46, .int .u64 bit47, (j45 0), (j45 1), iV a1, .bool false, .bool false, iV b2, .bool false, .bool false, .tuple #[.int .u64 vt18, .int .u64 vt19], iV a1, .int .u64 (u64 (a1)), iV b2, .int .u64 (u64 (b2)), .tuple #[.int .u64 vt18, .int .u64 vt19], .int .u64 vt18, .int .u64 vt19, (j45 2), (j45 3), (j45 4), (j45 5), (j45 6), (j45 7), (j45 8), (j45 9), (j45 10), (j45 11), (j45 12), (j45 13), (j45 14), (j45 15), (j45 16), (j45 17), (j45 18), (j45 19), (j45 20), (j45 21), (j45 22), (j45 23), (j45 24), (j45 25), (j45 26), (j45 27), (j45 28), (j45 29), (j45 30), (j45 31), uV, uV], []⟩) k ⟨f21, 0, 4611686018427387904, (fun i_ => [undef, undef, undef, undef, undef, undef, undef, undef, undef, undef, undef, undef, undef, undef, undef, undef, undef, undef, undef, undef, undef, undef, undef, undef, undef, undef, undef, undef, undef, undef, undef, undef].getD i_ undef), (FM.le.refl _), HS24, h, (by kernel_rfl)⟩ ?_
      clear h
      rintro n40 _ W43 ⟨f41, r46, bit47, j45, L42, HS44, h, rfl⟩ K38 hK39
      obtain _ | n40 := n40
      · exact nomatch h
      simp only [num_SqrtMul.l0] at h
      refine wp_seq_k (fun K48 hK49 => ?_)
      refine wp_seq_k (fun K50 hK51 => ?_)
      refine wp_region_lit ?_
      refine seqS2 (a' := ⟨#[iV a1, iV b2, uV, uV, iV 0, .int .u64 vt18, .int .u64 vt19, .int .u64 r46, .int .u64 bit47, (j45 0), (j45 1), iV a1, .bool false, .bool false, iV b2, .bool false, .bool false, .tuple #[.int .u64 vt18, .int .u64 vt19], iV a1, .int .u64 (u64 (a1)), iV b2, .int .u64 (u64 (b2)), .tuple #[.int .u64 vt18, .int .u64 vt19], .int .u64 vt18, .int .u64 vt19, .int .u64 bit47, .bool (decide (bit47 > 0)), (j45 4), (j45 5), (j45 6), (j45 7), (j45 8), (j45 9), (j45 10), (j45 11), (j45 12), (j45 13), (j45 14), (j45 15), (j45 16), (j45 17), (j45 18), (j45 19), (j45 20), (j45 21), (j45 22), (j45 23), (j45 24), (j45 25), (j45 26), (j45 27), (j45 28), (j45 29), (j45 30), (j45 31), uV, uV], []⟩) (by kernel_rfl) ?_
      refine wpList_nil ?_
      refine hK51 _ _ ?_
      have hq_ := ite_some h; clear h; rcases hq_ with ⟨c53, h⟩ | ⟨c53, h⟩
      · have c53 : bit47 > 0 := c53
        refine wpRwI 26 (x := (decide (bit47 > 0))) (v := true) (by kernel_rfl) (decide_eq_true c53) ?_
        refine condT (by kernel_rfl) ?_
        refine wp_skip ?_
        refine hK49 _ _ ?_
        refine wp_seq_k (fun K54 hK55 => ?_)
        refine blockK (fun B56 hx57 hn58 hr59 ho60 hp61 => ?_)
        refine wp_seq_k (fun K63 hK64 => ?_)
        refine wp_region_lit ?_
        have hq_ := bind_some h; clear h; obtain ⟨⟨vt65, vt66⟩, hc67, h⟩ := hq_
        refine seqL6 (by kernel_rfl) ?_
        refine seqK rfl (does_call (f := 54) (args := #[.int .u64 (Go.bits .or .u64 r46 bit47), .int .u64 (Go.bits .or .u64 r46 bit47)]) (by kernel_rfl) (bits_Mul64.calls k (Go.bits .or .u64 r46 bit47) (Go.bits .or .u64 r46 bit47) HS44 vt65 vt66 hc67) ?_)
        rintro _ W70 ⟨f68, rfl, L69, HS71⟩
        refine ⟨_, rfl, ?_⟩
        refine seqS5 (a' := ⟨#[iV a1, iV b2, uV, uV, iV 0, .int .u64 vt18, .int .u64 vt19, .int .u64 r46, .int .u64 bit47, .int .u64 vt65, .int .u64 vt66, iV a1, .bool false, .bool false, iV b2, .bool false, .bool false, .tuple #[.int .u64 vt18, .int .u64 vt19], iV a1, .int .u64 (u64 (a1)), iV b2, .int .u64 (u64 (b2)), .tuple #[.int .u64 vt18, .int .u64 vt19], .int .u64 vt18, .int .u64 vt19, .int .u64 bit47, .bool true, (j45 4), (j45 5), .tuple #[.int .u64 vt65, .int .u64 vt66], .int .u64 r46, .int .u64 bit47, .int .u64 (Go.bits .or .u64 r46 bit47), .int .u64 r46, .int .u64 bit47, .int .u64 (Go.bits .or .u64 r46 bit47), .tuple #[.int .u64 vt65, .int .u64 vt66], .int .u64 vt65, .int .u64 vt66, (j45 16), (j45 17), (j45 18), (j45 19), (j45 20), (j45 21), (j45 22), (j45 23), (j45 24), (j45 25), (j45 26), (j45 27), (j45 28), (j45 29), (j45 30), (j45 31), uV, uV], []⟩) (by kernel_rfl) ?_
        refine wpList_nil ?_
        refine hK64 _ _ ?_
        refine wp_seq_k (fun K72 hK73 => ?_)
        refine wp_region_lit ?_
        refine seqS4 (a' := ⟨#[iV a1, iV b2, uV, uV, iV 0, .int .u64 vt18, .int .u64 vt19, .int .u64 r46, .int .u64 bit47, .int .u64 vt65, .int .u64 vt66, iV a1, .bool false, .bool false, iV b2, .bool false, .bool false, .tuple #[.int .u64 vt18, .int .u64 vt19], iV a1, .int .u64 (u64 (a1)), iV b2, .int .u64 (u64 (b2)), .tuple #[.int .u64 vt18, .int .u64 vt19], .int .u64 vt18, .int .u64 vt19, .int .u64 bit47, .bool true, (j45 4), (j45 5), .tuple #[.int .u64 vt65, .int .u64 vt66], .int .u64 r46, .int .u64 bit47, .int .u64 (Go.bits .or .u64 r46 bit47), .int .u64 r46, .int .u64 bit47, .int .u64 (Go.bits .or .u64 r46 bit47), .tuple #[.int .u64 vt65, .int .u64 vt66], .int .u64 vt65, .int .u64 vt66, .int .u64 vt65, .int .u64 vt18, .bool (decide (vt65 < vt18)), .bool (decide (vt65 < vt18)), (j45 20), (j45 21), (j45 22), (j45 23), (j45 24), (j45 25), (j45 26), (j45 27), (j45 28), (j45 29), (j45 30), (j45 31), uV, uV], []⟩) (by kernel_rfl) ?_
        have hq_ := ite_some h; clear h; rcases hq_ with ⟨c74, h⟩ | ⟨c74, h⟩
        · have c74 : vt65 < vt18 := c74
          refine seqRwI 41 (x := (decide (vt65 < vt18))) (v := true) (by kernel_rfl) (decide_eq_true c74) ?_
          refine seqRwI 42 (x := (decide (vt65 < vt18))) (v := true) (by kernel_rfl) (decide_eq_true c74) ?_
          refine seqS9 (a' := ⟨#[iV a1, iV b2, uV, uV, iV 0, .int .u64 vt18, .int .u64 vt19, .int .u64 r46, .int .u64 bit47, .int .u64 vt65, .int .u64 vt66, iV a1, .bool false, .bool false, iV b2, .bool false, .bool false, .tuple #[.int .u64 vt18, .int .u64 vt19], iV a1, .int .u64 (u64 (a1)), iV b2, .int .u64 (u64 (b2)), .tuple #[.int .u64 vt18, .int .u64 vt19], .int .u64 vt18, .int .u64 vt19, .int .u64 bit47, .bool true, (j45 4), (j45 5), .tuple #[.int .u64 vt65, .int .u64 vt66], .int .u64 r46, .int .u64 bit47, .int .u64 (Go.bits .or .u64 r46 bit47), .int .u64 r46, .int .u64 bit47, .int .u64 (Go.bits .or .u64 r46 bit47), .tuple #[.int .u64 vt65, .int .u64 vt66], .int .u64 vt65, .int .u64 vt66, .int .u64 vt65, .int .u64 vt18, .bool true, .bool true, uV, uV, uV, uV, uV, uV, uV, uV, .bool true, (j45 29), (j45 30), (j45 31), uV, uV], []⟩) (by kernel_rfl) ?_
          refine wpList_nil ?_
          refine hK73 _ _ ?_
          refine condT (by kernel_rfl) ?_
          refine wp_region_lit ?_
          refine seqS4 (a' := ⟨#[iV a1, iV b2, uV, uV, iV 0, .int .u64 vt18, .int .u64 vt19, .int .u64 (Go.bits .or .u64 r46 bit47), .int .u64 bit47, .int .u64 vt65, .int .u64 vt66, iV a1, .bool false, .bool false, iV b2, .bool false, .bool false, .tuple #[.int .u64 vt18, .int .u64 vt19], iV a1, .int .u64 (u64 (a1)), iV b2, .int .u64 (u64 (b2)), .tuple #[.int .u64 vt18, .int .u64 vt19], .int .u64 vt18, .int .u64 vt19, .int .u64 bit47, .bool true, (j45 4), (j45 5), .tuple #[.int .u64 vt65, .int .u64 vt66], .int .u64 r46, .int .u64 bit47, .int .u64 (Go.bits .or .u64 r46 bit47), .int .u64 r46, .int .u64 bit47, .int .u64 (Go.bits .or .u64 r46 bit47), .tuple #[.int .u64 vt65, .int .u64 vt66], .int .u64 vt65, .int .u64 vt66, .int .u64 vt65, .int .u64 vt18, .bool true, .bool true, uV, uV, uV, uV, uV, uV, uV, uV, .bool true, .int .u64 r46, .int .u64 bit47, .int .u64 (Go.bits .or .u64 r46 bit47), uV, uV], []⟩) (by kernel_rfl) ?_
          refine wpList_nil ?_
          refine hn58 _ _ ?_
          refine hK55 _ _ ?_
          refine wp_region_lit ?_
          refine seqS3 (a' := ⟨#[iV a1, iV b2, uV, uV, iV 0, .int .u64 vt18, .int .u64 vt19, .int .u64 (Go.bits .or .u64 r46 bit47), .int .u64 (shr bit47 1), .int .u64 vt65, .int .u64 vt66, iV a1, .bool false, .bool false, iV b2, .bool false, .bool false, .tuple #[.int .u64 vt18, .int .u64 vt19], iV a1, .int .u64 (u64 (a1)), iV b2, .int .u64 (u64 (b2)), .tuple #[.int .u64 vt18, .int .u64 vt19], .int .u64 vt18, .int .u64 vt19, .int .u64 bit47, .bool true, .int .u64 bit47, .int .u64 (shr bit47 1), .tuple #[.int .u64 vt65, .int .u64 vt66], .int .u64 r46, .int .u64 bit47, .int .u64 (Go.bits .or .u64 r46 bit47), .int .u64 r46, .int .u64 bit47, .int .u64 (Go.bits .or .u64 r46 bit47), .tuple #[.int .u64 vt65, .int .u64 vt66], .int .u64 vt65, .int .u64 vt66, .int .u64 vt65, .int .u64 vt18, .bool true, .bool true, uV, uV, uV, uV, uV, uV, uV, uV, .bool true, .int .u64 r46, .int .u64 bit47, .int .u64 (Go.bits .or .u64 r46 bit47), uV, uV], []⟩) (by kernel_rfl) ?_
          refine wpList_nil ?_
          refine hK39 n40 _ _ (Nat.lt_succ_self _) ?_
          exact ⟨f68, (Go.bits .or .u64 r46 bit47), (shr bit47 1), (fun i_ => [Value.int .u64 vt65, Value.int .u64 vt66, Value.int .u64 bit47, Value.bool true, Value.int .u64 bit47, Value.int .u64 (shr bit47 1), Value.tuple #[.int .u64 vt65, .int .u64 vt66], Value.int .u64 r46, Value.int .u64 bit47, Value.int .u64 (Go.bits .or .u64 r46 bit47), Value.int .u64 r46, Value.int .u64 bit47, Value.int .u64 (Go.bits .or .u64 r46 bit47), Value.tuple #[.int .u64 vt65, .int .u64 vt66], Value.int .u64 vt65, Value.int .u64 vt66, Value.int .u64 vt65, Value.int .u64 vt18, Value.bool true, Value.bool true, undef, undef, undef, undef, undef, undef, undef, undef, Value.bool true, Value.int .u64 r46, Value.int .u64 bit47, Value.int .u64 (Go.bits .or .u64 r46 bit47)].getD i_ undef), (L42.trans L69), HS71, h, (by kernel_rfl)⟩
        · have c74 : ¬ (vt65 < vt18) := c74
          refine seqRwI 41 (x := (decide (vt65 < vt18))) (v := false) (by kernel_rfl) (decide_eq_false c74) ?_
          refine seqRwI 42 (x := (decide (vt65 < vt18))) (v := false) (by kernel_rfl) (decide_eq_false c74) ?_
          refine seqS4 (a' := ⟨#[iV a1, iV b2, uV, uV, iV 0, .int .u64 vt18, .int .u64 vt19, .int .u64 r46, .int .u64 bit47, .int .u64 vt65, .int .u64 vt66, iV a1, .bool false, .bool false, iV b2, .bool false, .bool false, .tuple #[.int .u64 vt18, .int .u64 vt19], iV a1, .int .u64 (u64 (a1)), iV b2, .int .u64 (u64 (b2)), .tuple #[.int .u64 vt18, .int .u64 vt19], .int .u64 vt18, .int .u64 vt19, .int .u64 bit47, .bool true, (j45 4), (j45 5), .tuple #[.int .u64 vt65, .int .u64 vt66], .int .u64 r46, .int .u64 bit47, .int .u64 (Go.bits .or .u64 r46 bit47), .int .u64 r46, .int .u64 bit47, .int .u64 (Go.bits .or .u64 r46 bit47), .tuple #[.int .u64 vt65, .int .u64 vt66], .int .u64 vt65, .int .u64 vt66, .int .u64 vt65, .int .u64 vt18, .bool false, .bool false, .int .u64 vt65, .int .u64 vt18, .bool (vt65 == vt18), .bool (vt65 == vt18), (j45 24), (j45 25), (j45 26), (j45 27), (j45 28), (j45 29), (j45 30), (j45 31), uV, uV], []⟩) (by kernel_rfl) ?_
          have hq_ := ite_some h; clear h; rcases hq_ with ⟨c75, h⟩ | ⟨c75, h⟩
          · have c75 : vt65 = vt18 := c75
            refine seqRwI 45 (x := (vt65 == vt18)) (v := true) (by kernel_rfl) (beq_iff_eq.mpr c75) ?_
            refine seqRwI 46 (x := (vt65 == vt18)) (v := true) (by kernel_rfl) (beq_iff_eq.mpr c75) ?_
            refine seqS5 (a' := ⟨#[iV a1, iV b2, uV, uV, iV 0, .int .u64 vt18, .int .u64 vt19, .int .u64 r46, .int .u64 bit47, .int .u64 vt65, .int .u64 vt66, iV a1, .bool false, .bool false, iV b2, .bool false, .bool false, .tuple #[.int .u64 vt18, .int .u64 vt19], iV a1, .int .u64 (u64 (a1)), iV b2, .int .u64 (u64 (b2)), .tuple #[.int .u64 vt18, .int .u64 vt19], .int .u64 vt18, .int .u64 vt19, .int .u64 bit47, .bool true, (j45 4), (j45 5), .tuple #[.int .u64 vt65, .int .u64 vt66], .int .u64 r46, .int .u64 bit47, .int .u64 (Go.bits .or .u64 r46 bit47), .int .u64 r46, .int .u64 bit47, .int .u64 (Go.bits .or .u64 r46 bit47), .tuple #[.int .u64 vt65, .int .u64 vt66], .int .u64 vt65, .int .u64 vt66, .int .u64 vt65, .int .u64 vt18, .bool false, .bool false, .int .u64 vt65, .int .u64 vt18, .bool true, .bool true, .int .u64 vt66, .int .u64 vt19, .bool (decide (vt66 ≤ vt19)), .bool (decide (vt66 ≤ vt19)), .bool (decide (vt66 ≤ vt19)), (j45 29), (j45 30), (j45 31), uV, uV], []⟩) (by kernel_rfl) ?_
            refine wpList_nil ?_
            refine hK73 _ _ ?_
            have hq_ := ite_some h; clear h; rcases hq_ with ⟨c77, h⟩ | ⟨c77, h⟩
            · have c77 : vt66 ≤ vt19 := c77
              refine wpRwI 49 (x := (decide (vt66 ≤ vt19))) (v := true) (by kernel_rfl) (decide_eq_true c77) ?_
              refine wpRwI 50 (x := (decide (vt66 ≤ vt19))) (v := true) (by kernel_rfl) (decide_eq_true c77) ?_
              refine wpRwI 51 (x := (decide (vt66 ≤ vt19))) (v := true) (by kernel_rfl) (decide_eq_true c77) ?_
              refine condT (by kernel_rfl) ?_
              refine wp_region_lit ?_
              refine seqS4 (a' := ⟨#[iV a1, iV b2, uV, uV, iV 0, .int .u64 vt18, .int .u64 vt19, .int .u64 (Go.bits .or .u64 r46 bit47), .int .u64 bit47, .int .u64 vt65, .int .u64 vt66, iV a1, .bool false, .bool false, iV b2, .bool false, .bool false, .tuple #[.int .u64 vt18, .int .u64 vt19], iV a1, .int .u64 (u64 (a1)), iV b2, .int .u64 (u64 (b2)), .tuple #[.int .u64 vt18, .int .u64 vt19], .int .u64 vt18, .int .u64 vt19, .int .u64 bit47, .bool true, (j45 4), (j45 5), .tuple #[.int .u64 vt65, .int .u64 vt66], .int .u64 r46, .int .u64 bit47, .int .u64 (Go.bits .or .u64 r46 bit47), .int .u64 r46, .int .u64 bit47, .int .u64 (Go.bits .or .u64 r46 bit47), .tuple #[.int .u64 vt65, .int .u64 vt66], .int .u64 vt65, .int .u64 vt66, .int .u64 vt65, .int .u64 vt18, .bool false, .bool false, .int .u64 vt65, .int .u64 vt18, .bool true, .bool true, .int .u64 vt66, .int .u64 vt19, .bool true, .bool true, .bool true, .int .u64 r46, .int .u64 bit47, .int .u64 (Go.bits .or .u64 r46 bit47), uV, uV], []⟩) (by kernel_rfl) ?_
              refine wpList_nil ?_
              refine hn58 _ _ ?_
              refine hK55 _ _ ?_
              refine wp_region_lit ?_
              refine seqS3 (a' := ⟨#[iV a1, iV b2, uV, uV, iV 0, .int .u64 vt18, .int .u64 vt19, .int .u64 (Go.bits .or .u64 r46 bit47), .int .u64 (shr bit47 1), .int .u64 vt65, .int .u64 vt66, iV a1, .bool false, .bool false, iV b2, .bool false, .bool false, .tuple #[.int .u64 vt18, .int .u64 vt19], iV a1, .int .u64 (u64 (a1)), iV b2, .int .u64 (u64 (b2)), .tuple #[.int .u64 vt18, .int .u64 vt19], .int .u64 vt18, .int .u64 vt19, .int .u64 bit47, .bool true, .int .u64 bit47, .int .u64 (shr bit47 1), .tuple #[.int .u64 vt65, .int .u64 vt66], .int .u64 r46, .int .u64 bit47, .int .u64 (Go.bits .or .u64 r46 bit47), .int .u64 r46, .int .u64 bit47, .int .u64 (Go.bits .or .u64 r46 bit47), .tuple #[.int .u64 vt65, .int .u64 vt66], .int .u64 vt65, .int .u64 vt66, .int .u64 vt65, .int .u64 vt18, .bool false, .bool false, .int .u64 vt65, .int .u64 vt18, .bool true, .bool true, .int .u64 vt66, .int .u64 vt19, .bool true, .bool true, .bool true, .int .u64 r46, .int .u64 bit47, .int .u64 (Go.bits .or .u64 r46 bit47), uV, uV], []⟩) (by kernel_rfl) ?_
              refine wpList_nil ?_
              refine hK39 n40 _ _ (Nat.lt_succ_self _) ?_
              exact ⟨f68, (Go.bits .or .u64 r46 bit47), (shr bit47 1), (fun i_ => [Value.int .u64 vt65, Value.int .u64 vt66, Value.int .u64 bit47, Value.bool true, Value.int .u64 bit47, Value.int .u64 (shr bit47 1), Value.tuple #[.int .u64 vt65, .int .u64 vt66], Value.int .u64 r46, Value.int .u64 bit47, Value.int .u64 (Go.bits .or .u64 r46 bit47), Value.int .u64 r46, Value.int .u64 bit47, Value.int .u64 (Go.bits .or .u64 r46 bit47), Value.tuple #[.int .u64 vt65, .int .u64 vt66], Value.int .u64 vt65, Value.int .u64 vt66, Value.int .u64 vt65, Value.int .u64 vt18, Value.bool false, Value.bool false, Value.int .u64 vt65, Value.int .u64 vt18, Value.bool true, Value.bool true, Value.int .u64 vt66, Value.int .u64 vt19, Value.bool true, Value.bool true, Value.bool true, Value.int .u64 r46, Value.int .u64 bit47, Value.int .u64 (Go.bits .or .u64 r46 bit47)].getD i_ undef), (L42.trans L69), HS71, h, (by kernel_rfl)⟩
            · have c77 : ¬ (vt66 ≤ vt19) := c77
              refine wpRwI 49 (x := (decide (vt66 ≤ vt19))) (v := false) (by kernel_rfl) (decide_eq_false c77) ?_
              refine wpRwI 50 (x := (decide (vt66 ≤ vt19))) (v := false) (by kernel_rfl) (decide_eq_false c77) ?_
              refine wpRwI 51 (x := (decide (vt66 ≤ vt19))) (v := false) (by kernel_rfl) (decide_eq_false c77) ?_
              refine condF (by kernel_rfl) ?_
              refine wp_skip ?_
              refine hn58 _ _ ?_
              refine hK55 _ _ ?_
              refine wp_region_lit ?_
              refine seqS3 (a' := ⟨#[iV a1, iV b2, uV, uV, iV 0, .int .u64 vt18, .int .u64 vt19, .int .u64 r46, .int .u64 (shr bit47 1), .int .u64 vt65, .int .u64 vt66, iV a1, .bool false, .bool false, iV b2, .bool false, .bool false, .tuple #[.int .u64 vt18, .int .u64 vt19], iV a1, .int .u64 (u64 (a1)), iV b2, .int .u64 (u64 (b2)), .tuple #[.int .u64 vt18, .int .u64 vt19], .int .u64 vt18, .int .u64 vt19, .int .u64 bit47, .bool true, .int .u64 bit47, .int .u64 (shr bit47 1), .tuple #[.int .u64 vt65, .int .u64 vt66], .int .u64 r46, .int .u64 bit47, .int .u64 (Go.bits .or .u64 r46 bit47), .int .u64 r46, .int .u64 bit47, .int .u64 (Go.bits .or .u64 r46 bit47), .tuple #[.int .u64 vt65, .int .u64 vt66], .int .u64 vt65, .int .u64 vt66, .int .u64 vt65, .int .u64 vt18, .bool false, .bool false, .int .u64 vt65, .int .u64 vt18, .bool true, .bool true, .int .u64 vt66, .int .u64 vt19, .bool false, .bool false, .bool false, (j45 29), (j45 30), (j45 31), uV, uV], []⟩) (by kernel_rfl) ?_
              refine wpList_nil ?_
              refine hK39 n40 _ _ (Nat.lt_succ_self _) ?_
              exact ⟨f68, r46, (shr bit47 1), (fun i_ => [Value.int .u64 vt65, Value.int .u64 vt66, Value.int .u64 bit47, Value.bool true, Value.int .u64 bit47, Value.int .u64 (shr bit47 1), Value.tuple #[.int .u64 vt65, .int .u64 vt66], Value.int .u64 r46, Value.int .u64 bit47, Value.int .u64 (Go.bits .or .u64 r46 bit47), Value.int .u64 r46, Value.int .u64 bit47, Value.int .u64 (Go.bits .or .u64 r46 bit47), Value.tuple #[.int .u64 vt65, .int .u64 vt66], Value.int .u64 vt65, Value.int .u64 vt66, Value.int .u64 vt65, Value.int .u64 vt18, Value.bool false, Value.bool false, Value.int .u64 vt65, Value.int .u64 vt18, Value.bool true, Value.bool true, Value.int .u64 vt66, Value.int .u64 vt19, Value.bool false, Value.bool false, Value.bool false, (j45 29), (j45 30), (j45 31)].getD i_ undef), (L42.trans L69), HS71, h, (by kernel_rfl)⟩
          · have c75 : ¬ (vt65 = vt18) := c75
            refine seqRwI 45 (x := (vt65 == vt18)) (v := false) (by kernel_rfl) (beq_eq_false_iff_ne.mpr c75) ?_
            refine seqRwI 46 (x := (vt65 == vt18)) (v := false) (by kernel_rfl) (beq_eq_false_iff_ne.mpr c75) ?_
            refine seqS5 (a' := ⟨#[iV a1, iV b2, uV, uV, iV 0, .int .u64 vt18, .int .u64 vt19, .int .u64 r46, .int .u64 bit47, .int .u64 vt65, .int .u64 vt66, iV a1, .bool false, .bool false, iV b2, .bool false, .bool false, .tuple #[.int .u64 vt18, .int .u64 vt19], iV a1, .int .u64 (u64 (a1)), iV b2, .int .u64 (u64 (b2)), .tuple #[.int .u64 vt18, .int .u64 vt19], .int .u64 vt18, .int .u64 vt19, .int .u64 bit47, .bool true, (j45 4), (j45 5), .tuple #[.int .u64 vt65, .int .u64 vt66], .int .u64 r46, .int .u64 bit47, .int .u64 (Go.bits .or .u64 r46 bit47), .int .u64 r46, .int .u64 bit47, .int .u64 (Go.bits .or .u64 r46 bit47), .tuple #[.int .u64 vt65, .int .u64 vt66], .int .u64 vt65, .int .u64 vt66, .int .u64 vt65, .int .u64 vt18, .bool false, .bool false, .int .u64 vt65, .int .u64 vt18, .bool false, .bool false, uV, uV, uV, .bool false, .bool false, (j45 29), (j45 30), (j45 31), uV, uV], []⟩) (by kernel_rfl) ?_
            refine wpList_nil ?_
            refine hK73 _ _ ?_
            refine condF (by kernel_rfl) ?_
            refine wp_skip ?_
            refine hn58 _ _ ?_
            refine hK55 _ _ ?_
            refine wp_region_lit ?_
            refine seqS3 (a' := ⟨#[iV a1, iV b2, uV, uV, iV 0, .int .u64 vt18, .int .u64 vt19, .int .u64 r46, .int .u64 (shr bit47 1), .int .u64 vt65, .int .u64 vt66, iV a1, .bool false, .bool false, iV b2, .bool false, .bool false, .tuple #[.int .u64 vt18, .int .u64 vt19], iV a1, .int .u64 (u64 (a1)), iV b2, .int .u64 (u64 (b2)), .tuple #[.int .u64 vt18, .int .u64 vt19], .int .u64 vt18, .int .u64 vt19, .int .u64 bit47, .bool true, .int .u64 bit47, .int .u64 (shr bit47 1), .tuple #[.int .u64 vt65, .int .u64 vt66], .int .u64 r46, .int .u64 bit47, .int .u64 (Go.bits .or .u64 r46 bit47), .int .u64 r46, .int .u64 bit47, .int .u64 (Go.bits .or .u64 r46 bit47), .tuple #[.int .u64 vt65, .int .u64 vt66], .int .u64 vt65, .int .u64 vt66, .int .u64 vt65, .int .u64 vt18, .bool false, .bool false, .int .u64 vt65, .int .u64 vt18, .bool false, .bool false, uV, uV, uV, .bool false, .bool false, (j45 29), (j45 30), (j45 31), uV, uV], []⟩) (by kernel_rfl) ?_
            refine wpList_nil ?_
            refine hK39 n40 _ _ (Nat.lt_succ_self _) ?_
            exact ⟨f68, r46, (shr bit47 1), (fun i_ => [Value.int .u64 vt65, Value.int .u64 vt66, Value.int .u64 bit47, Value.bool true, Value.int .u64 bit47, Value.int .u64 (shr bit47 1), Value.tuple #[.int .u64 vt65, .int .u64 vt66], Value.int .u64 r46, Value.int .u64 bit47, Value.int .u64 (Go.bits .or .u64 r46 bit47), Value.int .u64 r46, Value.int .u64 bit47, Value.int .u64 (Go.bits .or .u64 r46 bit47), Value.tuple #[.int .u64 vt65, .int .u64 vt66], Value.int .u64 vt65, Value.int .u64 vt66, Value.int .u64 vt65, Value.int .u64 vt18, Value.bool false, Value.bool false, Value.int .u64 vt65, Value.int .u64 vt18, Value.bool false, Value.bool false, undef, undef, undef, Value.bool false, Value.bool false, (j45 29), (j45 30), (j45 31)].getD i_ undef), (L42.trans L69), HS71, h, (by kernel_rfl)⟩
      · have c53 : ¬ (bit47 > 0) := c53
        refine wpRwI 26 (x := (decide (bit47 > 0))) (v := false) (by kernel_rfl) (decide_eq_false c53) ?_
        refine condF (by kernel_rfl) ?_
        refine wp_exit ?_
        refine hx32 _ _ ?_
        exact J85 f41 r46 (fun i_ => [Value.int .u64 bit47, (j45 0), (j45 1), Value.int .u64 bit47, Value.bool false, (j45 4), (j45 5), (j45 6), (j45 7), (j45 8), (j45 9), (j45 10), (j45 11), (j45 12), (j45 13), (j45 14), (j45 15), (j45 16), (j45 17), (j45 18), (j45 19), (j45 20), (j45 21), (j45 22), (j45 23), (j45 24), (j45 25), (j45 26), (j45 27), (j45 28), (j45 29), (j45 30), (j45 31)].getD i_ undef) W43 _ L42 h HS44 (by kernel_rfl)

set_option maxRecDepth 100000 in
set_option maxHeartbeats 4000000 in
theorem num_Sqrt.calls (k : Nat)  (a1 : Int) {t w : World} {f : FM} {H : List Seg} (HS : St t w f (H)) (r1 : Int) (h : num_Sqrt k a1 = some r1) :
    Calls Try.prog 27 #[.int .i64 a1] w (fun e w' => ∃ (g : FM), e = .returned (Value.int .i64 r1) ∧ FM.le f g ∧ St t w' g (H)) := by
  unfold num_Sqrt at h
  refine enter Try.func27 rfl (tm := #[iV a1, uV, uV, uV, uV]) (by kernel_rfl) ?_
  intro B hret hnor hnp
  refine wp_seq_k (fun K2 hK3 => ?_)
  refine wp_region_lit ?_
  refine seqS1 (a' := ⟨#[iV a1, uV, iV 0, uV, uV], []⟩) (by kernel_rfl) ?_
  refine wpList_nil ?_
  refine hK3 _ _ ?_
  refine wp_seq_k (fun K4 hK5 => ?_)
  refine wp_region_lit ?_
  have hq_ := bind_some h; clear h; obtain ⟨vt6, hc7, h⟩ := hq_
  refine seqL1 (by kernel_rfl) ?_
  refine seqK rfl (does_call (f := 44) (args := #[.int .i64 a1, .int .i64 1]) (by kernel_rfl) (num_SqrtMul.calls k a1 1 HS vt6 hc7) ?_)
  rintro _ W10 ⟨f8, rfl, L9, HS11⟩
  refine ⟨_, rfl, ?_⟩
  refine seqS1 (a' := ⟨#[iV a1, uV, iV vt6, iV a1, iV vt6], []⟩) (by kernel_rfl) ?_
  refine wpList_nil ?_
  refine hK5 _ _ ?_
  refine wp_ret ?_
  refine hret _ _ ?_
  refine ends_still (v := Value.int .i64 vt6) (by kernel_rfl) (by kernel_rfl) ?_
  injection h with h
  subst h
  exact ⟨f8, rfl, L9, HS11⟩

set_option maxRecDepth 100000 in
set_option maxHeartbeats 4000000 in
theorem num_size.calls (k : Nat)  (a1 : Int) {t w : World} {f : FM} {H : List Seg} (HS : St t w f (H)) (r1 : Int) (h : num_size k a1 = some r1) :
    Calls Try.prog 55 #[.int .i64 a1] w (fun e w' => ∃ (g : FM), e = .returned (Value.int .u64 r1) ∧ FM.le f g ∧ St t w' g (H)) := by
  unfold num_size at h
  refine enter Try.func55 rfl (tm := #[iV a1, uV, uV, uV, uV, uV, uV, uV, uV, uV]) (by kernel_rfl) ?_
  intro B hret hnor hnp
  refine wp_seq_k (fun K2 hK3 => ?_)
  refine wp_region_lit ?_
  refine seqS1 (a' := ⟨#[iV a1, uV, .int .u64 0, uV, uV, uV, uV, uV, uV, uV], []⟩) (by kernel_rfl) ?_
  refine wpList_nil ?_
  refine hK3 _ _ ?_
  refine wp_seq_k (fun K4 hK5 => ?_)
  refine wp_seq_k (fun K6 hK7 => ?_)
  refine wp_region_lit ?_
  refine seqS2 (a' := ⟨#[iV a1, uV, .int .u64 0, iV a1, .bool (decide (a1 < 0)), uV, uV, uV, uV, uV], []⟩) (by kernel_rfl) ?_
  refine wpList_nil ?_
  refine hK7 _ _ ?_
  have hq_ := ite_some h; clear h; rcases hq_ with ⟨c9, h⟩ | ⟨c9, h⟩
  · have c9 : a1 < 0 := c9
    refine wpRwI 4 (x := (decide (a1 < 0))) (v := true) (by kernel_rfl) (decide_eq_true c9) ?_
    refine condT (by kernel_rfl) ?_
    refine wp_seq_k (fun K10 hK11 => ?_)
    refine wp_region_lit ?_
    refine seqS4 (a' := ⟨#[iV a1, uV, .int .u64 (u64 (0 - (u64 (a1)))), iV a1, .bool true, iV a1, .int .u64 (u64 (a1)), .int .u64 (u64 (0 - (u64 (a1)))), uV, uV], []⟩) (by kernel_rfl) ?_
    refine wpList_nil ?_
    refine hK11 _ _ ?_
    refine wp_ret ?_
    refine hret _ _ ?_
    refine ends_still (v := Value.int .u64 (u64 (0 - (u64 (a1))))) (by kernel_rfl) (by kernel_rfl) ?_
    injection h with h
    subst h
    exact ⟨f, rfl, FM.le.refl _, HS⟩
  · have c9 : ¬ (a1 < 0) := c9
    refine wpRwI 4 (x := (decide (a1 < 0))) (v := false) (by kernel_rfl) (decide_eq_false c9) ?_
    refine condF (by kernel_rfl) ?_
    refine wp_skip ?_
    refine hK5 _ _ ?_
    refine wp_seq_k (fun K12 hK13 => ?_)
    refine wp_region_lit ?_
    refine seqS3 (a' := ⟨#[iV a1, uV, .int .u64 (u64 (a1)), iV a1, .bool false, uV, uV, uV, iV a1, .int .u64 (u64 (a1))], []⟩) (by kernel_rfl) ?_
    refine wpList_nil ?_
    refine hK13 _ _ ?_
    refine wp_ret ?_
    refine hret _ _ ?_
    refine ends_still (v := Value.int .u64 (u64 (a1))) (by kernel_rfl) (by kernel_rfl) ?_
    injection h with h
    subst h
    exact ⟨f, rfl, FM.le.refl _, HS⟩

set_option maxRecDepth 100000 in
set_option maxHeartbeats 4000000 in
theorem num_Wide_Neg.calls (k : Nat)  (vw1 : S_Wide) {t w : World} {f : FM} {H : List Seg} (HS : St t w f (H)) (r1 : S_Wide) (h : num_Wide_Neg k vw1 = some r1) :
    Calls Try.prog 56 #[.agg #[.int .i64 vw1.Hi, .int .u64 vw1.Lo]] w (fun e w' => ∃ (g : FM), e = .returned (Value.agg #[.int .i64 r1.Hi, .int .u64 r1.Lo]) ∧ FM.le f g ∧ St t w' g (H)) := by
  unfold num_Wide_Neg at h
  refine enter Try.func56 rfl (tm := #[.agg #[iV vw1.Hi, .int .u64 vw1.Lo], uV, uV, uV, uV, uV, uV, uV, uV, uV, uV, uV, uV, uV, uV, uV, uV, uV, uV, uV, uV, uV, uV, uV, uV, uV, uV]) (by kernel_rfl) ?_
  intro B hret hnor hnp
  refine wp_seq_k (fun K2 hK3 => ?_)
  refine wp_region_lit ?_
  refine seqK rfl (does_box (cs := #[.int .i64 vw1.Hi, .int .u64 vw1.Lo]) rfl (by kernel_rfl : _ = Value.agg #[.int .i64 vw1.Hi, .int .u64 vw1.Lo]) rfl HS ?_)
  intro b4 W5 HS6
  refine seqK rfl (does_alloc (z := Value.agg #[.int .i64 0, .int .u64 0]) (cs := #[.int .i64 0, .int .u64 0]) rfl (by kernel_rfl) rfl HS6 ?_)
  intro b8 W9 HS10
  refine wpList_nil ?_
  refine hK3 _ _ ?_
  refine wp_seq_k (fun K12 hK13 => ?_)
  refine wp_region_lit ?_
  refine seqL1 (by kernel_rfl) ?_
  refine seqK rfl (does_run (run_load rfl Try.underlying84 rfl (by kernel_rfl : _ = Value.pointer (some ⟨b4, 1, none⟩)) (HS10.u1.cell 1)) ?_)
  have hq_ := guard_some h; clear h; obtain ⟨c14, h⟩ := hq_
  have c14 : 0 ≤ (Go.bits .xor .u64 IntKind.u64.max vw1.Lo) := c14
  refine seqL1 (by kernel_rfl) ?_
  refine seqK rfl (does_run (run_add64op (x := Go.bits .xor .u64 IntKind.u64.max vw1.Lo) (y := 1) (c := 0) (by kernel_rfl) Try.func63 (by kernel_rfl) (by kernel_rfl) (by kernel_rfl) (by kernel_rfl) c14 (by decide) (by decide) (by decide) W9) ?_)
  refine seqS5 (a' := ⟨#[.agg #[iV vw1.Hi, .int .u64 vw1.Lo], .pointer (some ⟨b4, 0, none⟩), .pointer (some ⟨b8, 0, none⟩), .int .u64 (((Go.bits .xor .u64 IntKind.u64.max vw1.Lo) + 1 + 0) % 18446744073709551616), .int .u64 (((Go.bits .xor .u64 IntKind.u64.max vw1.Lo) + 1 + 0) / 18446744073709551616), uV, uV, .tuple #[.int .u64 (((Go.bits .xor .u64 IntKind.u64.max vw1.Lo) + 1 + 0) % 18446744073709551616), .int .u64 (((Go.bits .xor .u64 IntKind.u64.max vw1.Lo) + 1 + 0) / 18446744073709551616)], .pointer (some ⟨b4, 1, none⟩), .int .u64 vw1.Lo, .int .u64 (Go.bits .xor .u64 IntKind.u64.max vw1.Lo), .tuple #[.int .u64 (((Go.bits .xor .u64 IntKind.u64.max vw1.Lo) + 1 + 0) % 18446744073709551616), .int .u64 (((Go.bits .xor .u64 IntKind.u64.max vw1.Lo) + 1 + 0) / 18446744073709551616)], .int .u64 (((Go.bits .xor .u64 IntKind.u64.max vw1.Lo) + 1 + 0) % 18446744073709551616), .int .u64 (((Go.bits .xor .u64 IntKind.u64.max vw1.Lo) + 1 + 0) / 18446744073709551616), uV, uV, uV, uV, uV, uV, uV, uV, uV, uV, uV, uV, uV], []⟩) (by kernel_rfl) ?_
  refine wpList_nil ?_
  refine hK13 _ _ ?_
  refine wp_seq_k (fun K15 hK16 => ?_)
  refine wp_region_lit ?_
  refine seqL1 (by kernel_rfl) ?_
  refine seqK rfl (does_run (run_load rfl Try.underlying2 rfl (by kernel_rfl : _ = Value.pointer (some ⟨b4, 0, none⟩)) (HS10.u1.cell 0)) ?_)
  have hq_ := guard_some h; clear h; obtain ⟨c17, h⟩ := hq_
  have c17 : 0 ≤ (Go.bits .xor .u64 IntKind.u64.max (u64 (vw1.Hi))) := c17
  have hq_ := guard_some h; clear h; obtain ⟨c18, h⟩ := hq_
  have c18 : 0 ≤ (((Go.bits .xor .u64 IntKind.u64.max vw1.Lo) + 1 + 0) / 18446744073709551616) := c18
  have hq_ := guard_some h; clear h; obtain ⟨c19, h⟩ := hq_
  have c19 : (((Go.bits .xor .u64 IntKind.u64.max vw1.Lo) + 1 + 0) / 18446744073709551616) ≤ 1 := c19
  refine seqL3 (by kernel_rfl) ?_
  refine seqK rfl (does_run (run_add64op (x := Go.bits .xor .u64 IntKind.u64.max (u64 (vw1.Hi))) (y := 0) (c := ((Go.bits .xor .u64 IntKind.u64.max vw1.Lo) + 1 + 0) / 18446744073709551616) (by kernel_rfl) Try.func63 (by kernel_rfl) (by kernel_rfl) (by kernel_rfl) (by kernel_rfl) c17 (by decide) c18 c19 W9) ?_)
  refine seqS5 (a' := ⟨#[.agg #[iV vw1.Hi, .int .u64 vw1.Lo], .pointer (some ⟨b4, 0, none⟩), .pointer (some ⟨b8, 0, none⟩), .int .u64 (((Go.bits .xor .u64 IntKind.u64.max vw1.Lo) + 1 + 0) % 18446744073709551616), .int .u64 (((Go.bits .xor .u64 IntKind.u64.max vw1.Lo) + 1 + 0) / 18446744073709551616), .int .u64 (((Go.bits .xor .u64 IntKind.u64.max (u64 (vw1.Hi))) + 0 + (((Go.bits .xor .u64 IntKind.u64.max vw1.Lo) + 1 + 0) / 18446744073709551616)) % 18446744073709551616), .int .u64 (((Go.bits .xor .u64 IntKind.u64.max (u64 (vw1.Hi))) + 0 + (((Go.bits .xor .u64 IntKind.u64.max vw1.Lo) + 1 + 0) / 18446744073709551616)) / 18446744073709551616), .tuple #[.int .u64 (((Go.bits .xor .u64 IntKind.u64.max vw1.Lo) + 1 + 0) % 18446744073709551616), .int .u64 (((Go.bits .xor .u64 IntKind.u64.max vw1.Lo) + 1 + 0) / 18446744073709551616)], .pointer (some ⟨b4, 1, none⟩), .int .u64 vw1.Lo, .int .u64 (Go.bits .xor .u64 IntKind.u64.max vw1.Lo), .tuple #[.int .u64 (((Go.bits .xor .u64 IntKind.u64.max vw1.Lo) + 1 + 0) % 18446744073709551616), .int .u64 (((Go.bits .xor .u64 IntKind.u64.max vw1.Lo) + 1 + 0) / 18446744073709551616)], .int .u64 (((Go.bits .xor .u64 IntKind.u64.max vw1.Lo) + 1 + 0) % 18446744073709551616), .int .u64 (((Go.bits .xor .u64 IntKind.u64.max vw1.Lo) + 1 + 0) / 18446744073709551616), .tuple #[.int .u64 (((Go.bits .xor .u64 IntKind.u64.max (u64 (vw1.Hi))) + 0 + (((Go.bits .xor .u64 IntKind.u64.max vw1.Lo) + 1 + 0) / 18446744073709551616)) % 18446744073709551616), .int .u64 (((Go.bits .xor .u64 IntKind.u64.max (u64 (vw1.Hi))) + 0 + (((Go.bits .xor .u64 IntKind.u64.max vw1.Lo) + 1 + 0) / 18446744073709551616)) / 18446744073709551616)], .pointer (some ⟨b4, 0, none⟩), iV vw1.Hi, .int .u64 (u64 (vw1.Hi)), .int .u64 (Go.bits .xor .u64 IntKind.u64.max (u64 (vw1.Hi))), .int .u64 (((Go.bits .xor .u64 IntKind.u64.max vw1.Lo) + 1 + 0) / 18446744073709551616), .tuple #[.int .u64 (((Go.bits .xor .u64 IntKind.u64.max (u64 (vw1.Hi))) + 0 + (((Go.bits .xor .u64 IntKind.u64.max vw1.Lo) + 1 + 0) / 18446744073709551616)) % 18446744073709551616), .int .u64 (((Go.bits .xor .u64 IntKind.u64.max (u64 (vw1.Hi))) + 0 + (((Go.bits .xor .u64 IntKind.u64.max vw1.Lo) + 1 + 0) / 18446744073709551616)) / 18446744073709551616)], .int .u64 (((Go.bits .xor .u64 IntKind.u64.max (u64 (vw1.Hi))) + 0 + (((Go.bits .xor .u64 IntKind.u64.max vw1.Lo) + 1 + 0) / 18446744073709551616)) % 18446744073709551616), .int .u64 (((Go.bits .xor .u64 IntKind.u64.max (u64 (vw1.Hi))) + 0 + (((Go.bits .xor .u64 IntKind.u64.max vw1.Lo) + 1 + 0) / 18446744073709551616)) / 18446744073709551616), uV, uV, uV, uV], []⟩) (by kernel_rfl) ?_
  refine wpList_nil ?_
  refine hK16 _ _ ?_
  refine wp_seq_k (fun K20 hK21 => ?_)
  refine wp_region_lit ?_
  refine seqL4 (by kernel_rfl) ?_
  refine seqK rfl (does_store (n := 2) (vs := [.int .i64 (w64 (((Go.bits .xor .u64 IntKind.u64.max (u64 (vw1.Hi))) + 0 + (((Go.bits .xor .u64 IntKind.u64.max vw1.Lo) + 1 + 0) / 18446744073709551616)) % 18446744073709551616)), .int .u64 (((Go.bits .xor .u64 IntKind.u64.max vw1.Lo) + 1 + 0) % 18446744073709551616)]) (cs' := #[.int .i64 (w64 (((Go.bits .xor .u64 IntKind.u64.max (u64 (vw1.Hi))) + 0 + (((Go.bits .xor .u64 IntKind.u64.max vw1.Lo) + 1 + 0) / 18446744073709551616)) % 18446744073709551616)), .int .u64 (((Go.bits .xor .u64 IntKind.u64.max vw1.Lo) + 1 + 0) % 18446744073709551616)]) rfl (by kernel_rfl) (by kernel_rfl : _ = Value.pointer (some ⟨b8, 0, none⟩)) (by kernel_rfl : _ = Value.agg #[.int .i64 (w64 (((Go.bits .xor .u64 IntKind.u64.max (u64 (vw1.Hi))) + 0 + (((Go.bits .xor .u64 IntKind.u64.max vw1.Lo) + 1 + 0) / 18446744073709551616)) % 18446744073709551616)), .int .u64 (((Go.bits .xor .u64 IntKind.u64.max vw1.Lo) + 1 + 0) % 18446744073709551616)]) rfl rfl (by intro u_ hu_; simp only [List.mem_cons, List.not_mem_nil, or_false] at hu_; rcases hu_ with rfl | rfl <;> rfl) HS10 (Nat.le_of_ble_eq_true rfl) (by kernel_rfl) ?_)
  intro W22 HS23
  refine wpList_nil ?_
  refine hK21 _ _ ?_
  refine wp_ret ?_
  refine hret _ _ ?_
  refine ends (v := Value.agg #[.int .i64 (w64 (((Go.bits .xor .u64 IntKind.u64.max (u64 (vw1.Hi))) + 0 + (((Go.bits .xor .u64 IntKind.u64.max vw1.Lo) + 1 + 0) / 18446744073709551616)) % 18446744073709551616)), .int .u64 (((Go.bits .xor .u64 IntKind.u64.max vw1.Lo) + 1 + 0) % 18446744073709551616)]) (results1 (q1 := .cell 2 95) (by kernel_rfl) (resN (n := 2) (cs := [.int .i64 (w64 (((Go.bits .xor .u64 IntKind.u64.max (u64 (vw1.Hi))) + 0 + (((Go.bits .xor .u64 IntKind.u64.max vw1.Lo) + 1 + 0) / 18446744073709551616)) % 18446744073709551616)), .int .u64 (((Go.bits .xor .u64 IntKind.u64.max vw1.Lo) + 1 + 0) % 18446744073709551616)]) (by kernel_rfl : _ = Value.pointer (some ⟨b8, 0, none⟩)) Try.underlying95 rfl (by kernel_rfl) rfl (HS23.cells 0 2 _ rfl))) (by kernel_rfl) ?_
  have HS24 := HS23.drop
  have HS25 := HS24.drop
  injection h with h
  subst h
  exact ⟨f, rfl, FM.le.refl _, HS25⟩

set_option maxRecDepth 100000 in
set_option maxHeartbeats 4000000 in
theorem num_Product.calls (k : Nat)  (a1 : Int) (b2 : Int) {t w : World} {f : FM} {H : List Seg} (HS : St t w f (H)) (r1 : S_Wide) (h : num_Product k a1 b2 = some r1) :
    Calls Try.prog 45 #[.int .i64 a1, .int .i64 b2] w (fun e w' => ∃ (g : FM), e = .returned (Value.agg #[.int .i64 r1.Hi, .int .u64 r1.Lo]) ∧ FM.le f g ∧ St t w' g (H)) := by
  unfold num_Product at h
  refine enter Try.func45 rfl (tm := #[iV a1, iV b2, uV, uV, uV, uV, uV, uV, uV, uV, uV, uV, uV, uV, uV, uV, uV, uV, uV, uV, uV, uV, uV, uV, uV, uV, uV, uV]) (by kernel_rfl) ?_
  intro B hret hnor hnp
  refine wp_seq_k (fun K3 hK4 => ?_)
  refine wp_region_lit ?_
  refine seqK rfl (does_alloc (z := Value.agg #[.int .i64 0, .int .u64 0]) (cs := #[.int .i64 0, .int .u64 0]) rfl (by kernel_rfl) rfl HS ?_)
  intro b5 W6 HS7
  refine wpList_nil ?_
  refine hK4 _ _ ?_
  refine wp_seq_k (fun K9 hK10 => ?_)
  refine wp_region_lit ?_
  have hq_ := bind_some h; clear h; obtain ⟨vt11, hc12, h⟩ := hq_
  refine seqL1 (by kernel_rfl) ?_
  refine seqK rfl (does_call (f := 55) (args := #[.int .i64 a1]) (by kernel_rfl) (num_size.calls k a1 HS7 vt11 hc12) ?_)
  rintro _ W15 ⟨f13, rfl, L14, HS16⟩
  refine ⟨_, rfl, ?_⟩
  have hq_ := bind_some h; clear h; obtain ⟨vt17, hc18, h⟩ := hq_
  refine seqL1 (by kernel_rfl) ?_
  refine seqK rfl (does_call (f := 55) (args := #[.int .i64 b2]) (by kernel_rfl) (num_size.calls k b2 HS16 vt17 hc18) ?_)
  rintro _ W21 ⟨f19, rfl, L20, HS22⟩
  refine ⟨_, rfl, ?_⟩
  have hq_ := bind_some h; clear h; obtain ⟨⟨vt23, vt24⟩, hc25, h⟩ := hq_
  refine seqK rfl (does_call (f := 54) (args := #[.int .u64 vt11, .int .u64 vt17]) (by kernel_rfl) (bits_Mul64.calls k vt11 vt17 HS22 vt23 vt24 hc25) ?_)
  rintro _ W28 ⟨f26, rfl, L27, HS29⟩
  refine ⟨_, rfl, ?_⟩
  refine seqS5 (a' := ⟨#[iV a1, iV b2, uV, uV, .pointer (some ⟨b5, 0, none⟩), .int .u64 vt23, .int .u64 vt24, uV, .tuple #[.int .u64 vt23, .int .u64 vt24], iV a1, .int .u64 vt11, iV b2, .int .u64 vt17, .tuple #[.int .u64 vt23, .int .u64 vt24], .int .u64 vt23, .int .u64 vt24, uV, uV, uV, uV, uV, uV, uV, uV, uV, uV, uV, uV], []⟩) (by kernel_rfl) ?_
  refine wpList_nil ?_
  refine hK10 _ _ ?_
  refine wp_seq_k (fun K30 hK31 => ?_)
  refine wp_region_lit ?_
  refine seqL4 (by kernel_rfl) ?_
  refine seqK rfl (does_alloc (z := Value.agg #[.int .i64 0, .int .u64 0]) (cs := #[.int .i64 0, .int .u64 0]) rfl (by kernel_rfl) rfl HS29 ?_)
  intro b32 W33 HS34
  refine seqK rfl (does_store (n := 2) (vs := [.int .i64 (w64 (vt23)), .int .u64 vt24]) (cs' := #[.int .i64 (w64 (vt23)), .int .u64 vt24]) rfl (by kernel_rfl) (by kernel_rfl : _ = Value.pointer (some ⟨b32, 0, none⟩)) (by kernel_rfl : _ = Value.agg #[.int .i64 (w64 (vt23)), .int .u64 vt24]) rfl rfl (by intro u_ hu_; simp only [List.mem_cons, List.not_mem_nil, or_false] at hu_; rcases hu_ with rfl | rfl <;> rfl) HS34 (Nat.le_of_ble_eq_true rfl) (by kernel_rfl) ?_)
  intro W36 HS37
  refine wpList_nil ?_
  refine hK31 _ _ ?_
  refine wp_seq_k (fun K38 hK39 => ?_)
  refine wp_seq_k (fun K40 hK41 => ?_)
  refine wp_region_lit ?_
  refine seqS5 (a' := ⟨#[iV a1, iV b2, uV, uV, .pointer (some ⟨b5, 0, none⟩), .int .u64 vt23, .int .u64 vt24, .pointer (some ⟨b32, 0, none⟩), .tuple #[.int .u64 vt23, .int .u64 vt24], iV a1, .int .u64 vt11, iV b2, .int .u64 vt17, .tuple #[.int .u64 vt23, .int .u64 vt24], .int .u64 vt23, .int .u64 vt24, .int .u64 vt23, iV (w64 (vt23)), .int .u64 vt24, .agg #[iV (w64 (vt23)), .int .u64 vt24], iV a1, .bool (decide (a1 < 0)), iV b2, .bool (decide (b2 < 0)), .bool ((decide (a1 < 0)) != (decide (b2 < 0))), uV, uV, uV], []⟩) (by kernel_rfl) ?_
  refine wpList_nil ?_
  refine hK41 _ _ ?_
  have hq_ := ite_some h; clear h; rcases hq_ with ⟨c43, h⟩ | ⟨c43, h⟩
  · have c43 : ((decide (a1 < 0)) != (decide (b2 < 0))) = true := c43
    refine wpRwI 24 (x := ((decide (a1 < 0)) != (decide (b2 < 0)))) (v := true) (by kernel_rfl) c43 ?_
    refine condT (by kernel_rfl) ?_
    refine wp_seq_k (fun K44 hK45 => ?_)
    refine wp_region_lit ?_
    refine seqK rfl (does_run (run_loadN (n := 2) rfl Try.underlying95 rfl (by kernel_rfl) (by kernel_rfl : _ = Value.pointer (some ⟨b32, 0, none⟩)) (cs := [.int .i64 (w64 (vt23)), .int .u64 vt24]) rfl (HS37.cells 0 2 _ rfl)) ?_)
    have hq_ := bind_some h; clear h; obtain ⟨vt46, hc47, h⟩ := hq_
    refine seqK rfl (does_call (f := 56) (args := #[.agg #[.int .i64 (w64 (vt23)), .int .u64 vt24]]) (by kernel_rfl) (num_Wide_Neg.calls k (⟨w64 (vt23), vt24⟩ : S_Wide) HS37 vt46 hc47) ?_)
    rintro _ W50 ⟨f48, rfl, L49, HS51⟩
    refine ⟨_, rfl, ?_⟩
    have HS52 := HS51.u1
    refine seqK rfl (does_store (n := 2) (vs := [.int .i64 vt46.Hi, .int .u64 vt46.Lo]) (cs' := #[.int .i64 vt46.Hi, .int .u64 vt46.Lo]) rfl (by kernel_rfl) (by kernel_rfl : _ = Value.pointer (some ⟨b5, 0, none⟩)) (by kernel_rfl : _ = Value.agg #[.int .i64 vt46.Hi, .int .u64 vt46.Lo]) rfl rfl (by intro u_ hu_; simp only [List.mem_cons, List.not_mem_nil, or_false] at hu_; rcases hu_ with rfl | rfl <;> rfl) HS52 (Nat.le_of_ble_eq_true rfl) (by kernel_rfl) ?_)
    intro W53 HS54
    refine wpList_nil ?_
    refine hK45 _ _ ?_
    refine wp_ret ?_
    refine hret _ _ ?_
    refine ends (v := Value.agg #[.int .i64 vt46.Hi, .int .u64 vt46.Lo]) (results1 (q1 := .cell 4 95) (by kernel_rfl) (resN (n := 2) (cs := [.int .i64 vt46.Hi, .int .u64 vt46.Lo]) (by kernel_rfl : _ = Value.pointer (some ⟨b5, 0, none⟩)) Try.underlying95 rfl (by kernel_rfl) rfl (HS54.cells 0 2 _ rfl))) (by kernel_rfl) ?_
    have HS60 := HS54.drop
    have HS61 := HS60.drop
    injection h with h
    subst h
    exact ⟨f48, rfl, (L14.trans (L20.trans (L27.trans L49))), HS61⟩
  · have c43 : ¬ (((decide (a1 < 0)) != (decide (b2 < 0))) = true) := c43
    refine wpRwI 24 (x := ((decide (a1 < 0)) != (decide (b2 < 0)))) (v := false) (by kernel_rfl) (Bool.eq_false_iff.mpr c43) ?_
    refine condF (by kernel_rfl) ?_
    refine wp_skip ?_
    refine hK39 _ _ ?_
    refine wp_seq_k (fun K55 hK56 => ?_)
    refine wp_region_lit ?_
    refine seqK rfl (does_run (run_loadN (n := 2) rfl Try.underlying95 rfl (by kernel_rfl) (by kernel_rfl : _ = Value.pointer (some ⟨b32, 0, none⟩)) (cs := [.int .i64 (w64 (vt23)), .int .u64 vt24]) rfl (HS37.cells 0 2 _ rfl)) ?_)
    have HS57 := HS37.u1
    refine seqK rfl (does_store (n := 2) (vs := [.int .i64 (w64 (vt23)), .int .u64 vt24]) (cs' := #[.int .i64 (w64 (vt23)), .int .u64 vt24]) rfl (by kernel_rfl) (by kernel_rfl : _ = Value.pointer (some ⟨b5, 0, none⟩)) (by kernel_rfl : _ = Value.agg #[.int .i64 (w64 (vt23)), .int .u64 vt24]) rfl rfl (by intro u_ hu_; simp only [List.mem_cons, List.not_mem_nil, or_false] at hu_; rcases hu_ with rfl | rfl <;> rfl) HS57 (Nat.le_of_ble_eq_true rfl) (by kernel_rfl) ?_)
    intro W58 HS59
    refine wpList_nil ?_
    refine hK56 _ _ ?_
    refine wp_ret ?_
    refine hret _ _ ?_
    refine ends (v := Value.agg #[.int .i64 (w64 (vt23)), .int .u64 vt24]) (results1 (q1 := .cell 4 95) (by kernel_rfl) (resN (n := 2) (cs := [.int .i64 (w64 (vt23)), .int .u64 vt24]) (by kernel_rfl : _ = Value.pointer (some ⟨b5, 0, none⟩)) Try.underlying95 rfl (by kernel_rfl) rfl (HS59.cells 0 2 _ rfl))) (by kernel_rfl) ?_
    have HS62 := HS59.drop
    have HS63 := HS62.drop
    injection h with h
    subst h
    exact ⟨f26, rfl, (L14.trans (L20.trans L27)), HS63⟩

set_option maxRecDepth 100000 in
set_option maxHeartbeats 4000000 in
theorem bits_Len64.calls (k : Nat)  (x1 : Int) {t w : World} {f : FM} {H : List Seg} (HS : St t w f (H)) (r1 : Int) (h : bits_Len64 k x1 = some r1) :
    Calls Try.prog 68 #[.int .u64 x1] w (fun e w' => ∃ (g : FM), e = .returned (Value.int .i64 r1) ∧ FM.le f g ∧ St t w' g (H)) := by
  unfold bits_Len64 at h
  refine enter Try.func68 rfl (tm := #[.int .u64 x1, uV, uV, uV, uV, uV, uV, uV, uV, uV, uV, uV, uV, uV, uV, uV, uV, uV, uV, uV, uV, uV, uV, uV, uV]) (by kernel_rfl) ?_
  intro B hret hnor hnp
  refine wp_seq_k (fun K2 hK3 => ?_)
  refine wp_region_lit ?_
  refine seqS1 (a' := ⟨#[.int .u64 x1, uV, iV 0, uV, uV, uV, uV, uV, uV, uV, uV, uV, uV, uV, uV, uV, uV, uV, uV, uV, uV, uV, uV, uV, uV], []⟩) (by kernel_rfl) ?_
  refine wpList_nil ?_
  refine hK3 _ _ ?_
  refine wp_seq_k (fun K4 hK5 => ?_)
  refine wp_seq_k (fun K6 hK7 => ?_)
  refine wp_region_lit ?_
  refine seqS2 (a' := ⟨#[.int .u64 x1, uV, iV 0, .int .u64 x1, .bool (decide (x1 ≥ 4294967296)), uV, uV, uV, uV, uV, uV, uV, uV, uV, uV, uV, uV, uV, uV, uV, uV, uV, uV, uV, uV], []⟩) (by kernel_rfl) ?_
  refine wpList_nil ?_
  refine hK7 _ _ ?_
  have hq_ := bind_some h; clear h; obtain ⟨v8, hv19, h⟩ := hq_
  have J20 : ∀ (f12 : FM) (x17 : Int) (n18 : Int) (j16 : Nat → Value) (W14 : World) (a_ : Act), FM.le f f12 → some ((x17, n18)) = some v8 → St t W14 f12 (H) → a_ = ⟨#[.int .u64 x17, uV, iV n18, .int .u64 x1, (j16 0), (j16 1), (j16 2), uV, uV, uV, uV, uV, uV, uV, uV, uV, uV, uV, uV, uV, uV, uV, uV, uV, uV], []⟩ → K4 a_ W14 := by
    intro f12 x17 n18 j16 W14 a_ L13 hj21 HS15  hfr_; subst hfr_
    injection hj21 with hj21; subst hj21; try dsimp only at h
    refine hK5 _ _ ?_
    refine wp_seq_k (fun K22 hK23 => ?_)
    refine wp_seq_k (fun K24 hK25 => ?_)
    refine wp_region_lit ?_
    refine seqS2 (a' := ⟨#[.int .u64 x17, uV, iV n18, .int .u64 x1, (j16 0), (j16 1), (j16 2), .int .u64 x17, .bool (decide (x17 ≥ 65536)), uV, uV, uV, uV, uV, uV, uV, uV, uV, uV, uV, uV, uV, uV, uV, uV], []⟩) (by kernel_rfl) ?_
    refine wpList_nil ?_
    refine hK25 _ _ ?_
    have hq_ := bind_some h; clear h; obtain ⟨v26, hv37, h⟩ := hq_
    have J38 : ∀ (f30 : FM) (x35 : Int) (n36 : Int) (j34 : Nat → Value) (W32 : World) (a_ : Act), FM.le f12 f30 → some ((x35, n36)) = some v26 → St t W32 f30 (H) → a_ = ⟨#[.int .u64 x35, uV, iV n36, .int .u64 x1, (j16 0), (j16 1), (j16 2), .int .u64 x17, (j34 0), (j34 1), (j34 2), (j34 3), (j34 4), uV, uV, uV, uV, uV, uV, uV, uV, uV, uV, uV, uV], []⟩ → K22 a_ W32 := by
      intro f30 x35 n36 j34 W32 a_ L31 hj39 HS33  hfr_; subst hfr_
      injection hj39 with hj39; subst hj39; try dsimp only at h
      refine hK23 _ _ ?_
      refine wp_seq_k (fun K40 hK41 => ?_)
      refine wp_seq_k (fun K42 hK43 => ?_)
      refine wp_region_lit ?_
      refine seqS2 (a' := ⟨#[.int .u64 x35, uV, iV n36, .int .u64 x1, (j16 0), (j16 1), (j16 2), .int .u64 x17, (j34 0), (j34 1), (j34 2), (j34 3), (j34 4), .int .u64 x35, .bool (decide (x35 ≥ 256)), uV, uV, uV, uV, uV, uV, uV, uV, uV, uV], []⟩) (by kernel_rfl) ?_
      refine wpList_nil ?_
      refine hK43 _ _ ?_
      have hq_ := ite_some h; clear h; rcases hq_ with ⟨c45, h⟩ | ⟨c45, h⟩
      · have c45 : x35 ≥ 256 := c45
        refine wpRwI 14 (x := (decide (x35 ≥ 256))) (v := true) (by kernel_rfl) (decide_eq_true c45) ?_
        refine condT (by kernel_rfl) ?_
        refine wp_seq_k (fun K46 hK47 => ?_)
        refine wp_region_lit ?_
        refine seqS3 (a' := ⟨#[.int .u64 (shr x35 8), uV, iV n36, .int .u64 x1, (j16 0), (j16 1), (j16 2), .int .u64 x17, (j34 0), (j34 1), (j34 2), (j34 3), (j34 4), .int .u64 x35, .bool true, .int .u64 x35, .int .u64 (shr x35 8), uV, uV, uV, uV, uV, uV, uV, uV], []⟩) (by kernel_rfl) ?_
        refine wpList_nil ?_
        refine hK47 _ _ ?_
        refine wp_region_lit ?_
        refine seqS3 (a' := ⟨#[.int .u64 (shr x35 8), uV, iV (w64 (n36 + 8)), .int .u64 x1, (j16 0), (j16 1), (j16 2), .int .u64 x17, (j34 0), (j34 1), (j34 2), (j34 3), (j34 4), .int .u64 x35, .bool true, .int .u64 x35, .int .u64 (shr x35 8), iV n36, iV (w64 (n36 + 8)), uV, uV, uV, uV, uV, uV], []⟩) (by kernel_rfl) ?_
        refine wpList_nil ?_
        refine hK41 _ _ ?_
        refine wp_seq_k (fun K48 hK49 => ?_)
        refine wp_region_lit ?_
        have hq_ := guard_some h; clear h; obtain ⟨c50, h⟩ := hq_
        have c50 : 0 ≤ (u8 (shr x35 8)) := c50
        have hq_ := guard_some h; clear h; obtain ⟨c51, h⟩ := hq_
        have c51 : (u8 (shr x35 8)) < (str0.size : Int) := c51
        refine seqL3 (by kernel_rfl) ?_
        refine seqK rfl (does_run (run_byte rfl Try.underlying9 (by kernel_rfl : _ = Value.string str0) (by kernel_rfl : _ = Value.int .u8 (u8 (shr x35 8))) c50 c51 W32) ?_)
        refine seqS3 (a' := ⟨#[.int .u64 (shr x35 8), uV, iV (w64 ((w64 (n36 + 8)) + (w64 ((bt str0 (u8 (shr x35 8))))))), .int .u64 x1, (j16 0), (j16 1), (j16 2), .int .u64 x17, (j34 0), (j34 1), (j34 2), (j34 3), (j34 4), .int .u64 x35, .bool true, .int .u64 x35, .int .u64 (shr x35 8), iV n36, iV (w64 (n36 + 8)), iV (w64 (n36 + 8)), .int .u64 (shr x35 8), .int .u8 (u8 (shr x35 8)), .int .u8 (bt str0 (u8 (shr x35 8))), iV (w64 ((bt str0 (u8 (shr x35 8))))), iV (w64 ((w64 (n36 + 8)) + (w64 ((bt str0 (u8 (shr x35 8)))))))], []⟩) (by kernel_rfl) ?_
        refine wpList_nil ?_
        refine hK49 _ _ ?_
        refine wp_ret ?_
        refine hret _ _ ?_
        refine ends_still (v := Value.int .i64 (w64 ((w64 (n36 + 8)) + (w64 ((bt str0 (u8 (shr x35 8)))))))) (by kernel_rfl) (by kernel_rfl) ?_
        injection h with h
        subst h
        exact ⟨f30, rfl, (L13.trans L31), HS33⟩
      · have c45 : ¬ (x35 ≥ 256) := c45
        refine wpRwI 14 (x := (decide (x35 ≥ 256))) (v := false) (by kernel_rfl) (decide_eq_false c45) ?_
        refine condF (by kernel_rfl) ?_
        refine wp_skip ?_
        refine hK41 _ _ ?_
        refine wp_seq_k (fun K52 hK53 => ?_)
        refine wp_region_lit ?_
        have hq_ := guard_some h; clear h; obtain ⟨c54, h⟩ := hq_
        have c54 : 0 ≤ (u8 (x35)) := c54
        have hq_ := guard_some h; clear h; obtain ⟨c55, h⟩ := hq_
        have c55 : (u8 (x35)) < (str0.size : Int) := c55
        refine seqL3 (by kernel_rfl) ?_
        refine seqK rfl (does_run (run_byte rfl Try.underlying9 (by kernel_rfl : _ = Value.string str0) (by kernel_rfl : _ = Value.int .u8 (u8 (x35))) c54 c55 W32) ?_)
        refine seqS3 (a' := ⟨#[.int .u64 x35, uV, iV (w64 (n36 + (w64 ((bt str0 (u8 (x35))))))), .int .u64 x1, (j16 0), (j16 1), (j16 2), .int .u64 x17, (j34 0), (j34 1), (j34 2), (j34 3), (j34 4), .int .u64 x35, .bool false, uV, uV, uV, uV, iV n36, .int .u64 x35, .int .u8 (u8 (x35)), .int .u8 (bt str0 (u8 (x35))), iV (w64 ((bt str0 (u8 (x35))))), iV (w64 (n36 + (w64 ((bt str0 (u8 (x35)))))))], []⟩) (by kernel_rfl) ?_
        refine wpList_nil ?_
        refine hK53 _ _ ?_
        refine wp_ret ?_
        refine hret _ _ ?_
        refine ends_still (v := Value.int .i64 (w64 (n36 + (w64 ((bt str0 (u8 (x35)))))))) (by kernel_rfl) (by kernel_rfl) ?_
        injection h with h
        subst h
        exact ⟨f30, rfl, (L13.trans L31), HS33⟩
    clear h; have h := hv37; clear hv37
    have hq_ := ite_some h; clear h; rcases hq_ with ⟨c27, h⟩ | ⟨c27, h⟩
    · have c27 : x17 ≥ 65536 := c27
      refine wpRwI 8 (x := (decide (x17 ≥ 65536))) (v := true) (by kernel_rfl) (decide_eq_true c27) ?_
      refine condT (by kernel_rfl) ?_
      refine wp_seq_k (fun K28 hK29 => ?_)
      refine wp_region_lit ?_
      refine seqS3 (a' := ⟨#[.int .u64 (shr x17 16), uV, iV n18, .int .u64 x1, (j16 0), (j16 1), (j16 2), .int .u64 x17, .bool true, .int .u64 x17, .int .u64 (shr x17 16), uV, uV, uV, uV, uV, uV, uV, uV, uV, uV, uV, uV, uV, uV], []⟩) (by kernel_rfl) ?_
      refine wpList_nil ?_
      refine hK29 _ _ ?_
      refine wp_region_lit ?_
      refine seqS3 (a' := ⟨#[.int .u64 (shr x17 16), uV, iV (w64 (n18 + 16)), .int .u64 x1, (j16 0), (j16 1), (j16 2), .int .u64 x17, .bool true, .int .u64 x17, .int .u64 (shr x17 16), iV n18, iV (w64 (n18 + 16)), uV, uV, uV, uV, uV, uV, uV, uV, uV, uV, uV, uV], []⟩) (by kernel_rfl) ?_
      refine wpList_nil ?_
      exact J38 f12 (shr x17 16) (w64 (n18 + 16)) (fun i_ => [Value.bool true, Value.int .u64 x17, Value.int .u64 (shr x17 16), Value.int .i64 n18, Value.int .i64 (w64 (n18 + 16))].getD i_ undef) W14 _ (FM.le.refl _) h HS15 (by kernel_rfl)
    · have c27 : ¬ (x17 ≥ 65536) := c27
      refine wpRwI 8 (x := (decide (x17 ≥ 65536))) (v := false) (by kernel_rfl) (decide_eq_false c27) ?_
      refine condF (by kernel_rfl) ?_
      refine wp_skip ?_
      exact J38 f12 x17 n18 (fun i_ => [Value.bool false, undef, undef, undef, undef].getD i_ undef) W14 _ (FM.le.refl _) h HS15 (by kernel_rfl)
  clear h; have h := hv19; clear hv19
  have hq_ := ite_some h; clear h; rcases hq_ with ⟨c9, h⟩ | ⟨c9, h⟩
  · have c9 : x1 ≥ 4294967296 := c9
    refine wpRwI 4 (x := (decide (x1 ≥ 4294967296))) (v := true) (by kernel_rfl) (decide_eq_true c9) ?_
    refine condT (by kernel_rfl) ?_
    refine wp_seq_k (fun K10 hK11 => ?_)
    refine wp_region_lit ?_
    refine seqS3 (a' := ⟨#[.int .u64 (shr x1 32), uV, iV 0, .int .u64 x1, .bool true, .int .u64 x1, .int .u64 (shr x1 32), uV, uV, uV, uV, uV, uV, uV, uV, uV, uV, uV, uV, uV, uV, uV, uV, uV, uV], []⟩) (by kernel_rfl) ?_
    refine wpList_nil ?_
    refine hK11 _ _ ?_
    refine wp_region_lit ?_
    refine seqS1 (a' := ⟨#[.int .u64 (shr x1 32), uV, iV 32, .int .u64 x1, .bool true, .int .u64 x1, .int .u64 (shr x1 32), uV, uV, uV, uV, uV, uV, uV, uV, uV, uV, uV, uV, uV, uV, uV, uV, uV, uV], []⟩) (by kernel_rfl) ?_
    refine wpList_nil ?_
    exact J20 f (shr x1 32) 32 (fun i_ => [Value.bool true, Value.int .u64 x1, Value.int .u64 (shr x1 32)].getD i_ undef) w _ (FM.le.refl _) h HS (by kernel_rfl)
  · have c9 : ¬ (x1 ≥ 4294967296) := c9
    refine wpRwI 4 (x := (decide (x1 ≥ 4294967296))) (v := false) (by kernel_rfl) (decide_eq_false c9) ?_
    refine condF (by kernel_rfl) ?_
    refine wp_skip ?_
    exact J20 f x1 0 (fun i_ => [Value.bool false, undef, undef].getD i_ undef) w _ (FM.le.refl _) h HS (by kernel_rfl)

set_option maxRecDepth 100000 in
set_option maxHeartbeats 4000000 in
theorem bits_LeadingZeros64.calls (k : Nat)  (x1 : Int) {t w : World} {f : FM} {H : List Seg} (HS : St t w f (H)) (r1 : Int) (h : bits_LeadingZeros64 k x1 = some r1) :
    Calls Try.prog 64 #[.int .u64 x1] w (fun e w' => ∃ (g : FM), e = .returned (Value.int .i64 r1) ∧ FM.le f g ∧ St t w' g (H)) := by
  unfold bits_LeadingZeros64 at h
  refine enter Try.func64 rfl (tm := #[.int .u64 x1, uV, uV, uV, uV, uV]) (by kernel_rfl) ?_
  intro B hret hnor hnp
  refine wp_seq_k (fun K2 hK3 => ?_)
  refine wp_region_lit ?_
  refine seqS1 (a' := ⟨#[.int .u64 x1, uV, iV 0, uV, uV, uV], []⟩) (by kernel_rfl) ?_
  refine wpList_nil ?_
  refine hK3 _ _ ?_
  refine wp_seq_k (fun K4 hK5 => ?_)
  refine wp_region_lit ?_
  have hq_ := bind_some h; clear h; obtain ⟨vt6, hc7, h⟩ := hq_
  refine seqL1 (by kernel_rfl) ?_
  refine seqK rfl (does_call (f := 68) (args := #[.int .u64 x1]) (by kernel_rfl) (bits_Len64.calls k x1 HS vt6 hc7) ?_)
  rintro _ W10 ⟨f8, rfl, L9, HS11⟩
  refine ⟨_, rfl, ?_⟩
  refine seqS2 (a' := ⟨#[.int .u64 x1, uV, iV (w64 (64 - vt6)), .int .u64 x1, iV vt6, iV (w64 (64 - vt6))], []⟩) (by kernel_rfl) ?_
  refine wpList_nil ?_
  refine hK5 _ _ ?_
  refine wp_ret ?_
  refine hret _ _ ?_
  refine ends_still (v := Value.int .i64 (w64 (64 - vt6))) (by kernel_rfl) (by kernel_rfl) ?_
  injection h with h
  subst h
  exact ⟨f8, rfl, L9, HS11⟩

end Go.Sp.U7
