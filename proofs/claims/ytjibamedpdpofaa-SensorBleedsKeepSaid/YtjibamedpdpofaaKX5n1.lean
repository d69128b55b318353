import Derived.Test.YtjibamedpdpofaaProg
import Derived.Test.YtjibamedpdpofaaSpMore
import Derived.Test.YtjibamedpdpofaaFX5
import Derived.Test.YtjibamedpdpofaaKX5n0
namespace Go.Sp.X5
open Go Go.Sp Go.Proofs
set_option linter.unusedVariables false
attribute [local irreducible] wpList AnyL Code.wp Calls Does
set_option maxRecDepth 100000 in
set_option maxHeartbeats 4000000 in
theorem sensor_Check.calls (k : Nat) (A2 : Option Addr) (c3 : Nat) (A5 : Option Addr) (c6 : Nat) (A8 : Option Addr) (c9 : Nat) (s1 : S_Sensor) {t w : World} {f : FM} {H : List Seg} (HS : St t w f (H)) (HR4 : SlR (tInt .i64) f A2 c3 s1.Bias) (HR7 : SlR (tInt .i64) f A5 c6 s1.Dark) (HR10 : SlR (tInt .i64) f A8 c9 s1.Flat) (r1 : Int) (h : sensor_Check k s1 = some r1) :
    Calls Try.prog 59 #[.agg #[.int .i64 s1.W, .int .i64 s1.H, .slice A2 s1.Bias.length c3, .slice A5 s1.Dark.length c6, .slice A8 s1.Flat.length c9, .int .i64 s1.Full, .int .i64 s1.Gain, .int .i64 s1.Noise]] w (fun e w' => ∃ (g : FM), e = .returned (Value.int .i64 r1) ∧ FM.le f g ∧ St t w' g (H)) := by
  unfold sensor_Check at h
  refine enter Try.func59 rfl (tm := #[.agg #[.int .i64 s1.W, .int .i64 s1.H, .slice A2 s1.Bias.length c3, .slice A5 s1.Dark.length c6, .slice A8 s1.Flat.length c9, .int .i64 s1.Full, .int .i64 s1.Gain, .int .i64 s1.Noise], undef, undef, undef, undef, undef, undef, undef, undef, undef, undef, undef, undef, undef, undef, undef, undef, undef, undef, undef, undef, undef, undef, undef, undef, undef, undef, undef, undef, undef, undef, undef, undef, undef, undef, undef, undef, undef, undef, undef, undef, undef, undef, undef, undef, undef, undef, undef, undef, undef, undef, undef, undef, undef, undef, undef, undef, undef, undef, undef, undef, undef, undef, undef, undef, undef, undef, undef, undef, undef, undef, undef, undef, undef, undef, undef, undef, undef, undef, undef, undef, undef, undef, undef, undef, undef, undef]) (by kernel_rfl) ?_
  intro B hret hnor hnp
  refine wp_seq_k (fun K11 hK12 => ?_)
  refine wp_region_lit ?_
  refine seqK rfl (does_box (cs := #[.int .i64 s1.W, .int .i64 s1.H, .slice A2 s1.Bias.length c3, .slice A5 s1.Dark.length c6, .slice A8 s1.Flat.length c9, .int .i64 s1.Full, .int .i64 s1.Gain, .int .i64 s1.Noise]) rfl (by kernel_rfl : _ = Value.agg #[.int .i64 s1.W, .int .i64 s1.H, .slice A2 s1.Bias.length c3, .slice A5 s1.Dark.length c6, .slice A8 s1.Flat.length c9, .int .i64 s1.Full, .int .i64 s1.Gain, .int .i64 s1.Noise]) rfl HS ?_)
  intro b13 W14 HS15
  refine seqS1 (a' := ⟨#[.agg #[.int .i64 s1.W, .int .i64 s1.H, .slice A2 s1.Bias.length c3, .slice A5 s1.Dark.length c6, .slice A8 s1.Flat.length c9, .int .i64 s1.Full, .int .i64 s1.Gain, .int .i64 s1.Noise], .pointer (some ⟨b13, 0, none⟩), .int .i64 0, undef, undef, undef, undef, undef, undef, undef, undef, undef, undef, undef, undef, undef, undef, undef, undef, undef, undef, undef, undef, undef, undef, undef, undef, undef, undef, undef, undef, undef, undef, undef, undef, undef, undef, undef, undef, undef, undef, undef, undef, undef, undef, undef, undef, undef, undef, undef, undef, undef, undef, undef, undef, undef, undef, undef, undef, undef, undef, undef, undef, undef, undef, undef, undef, undef, undef, undef, undef, undef, undef, undef, undef, undef, undef, undef, undef, undef, undef, undef, undef, undef, undef, undef, undef], []⟩) (by kernel_rfl) ?_
  refine wpList_nil ?_
  refine hK12 _ _ ?_
  refine wp_seq_k (fun K17 hK18 => ?_)
  refine wp_seq_k (fun K19 hK20 => ?_)
  refine wp_region_lit ?_
  refine seqL1 (by kernel_rfl) ?_
  refine seqK rfl (does_run (run_load rfl Try.underlying3 rfl (by kernel_rfl : _ = Value.pointer (some ⟨b13, 0, none⟩)) (HS15.cell 0)) ?_)
  refine seqL1 (by kernel_rfl) ?_
  refine seqK rfl (does_run (run_load rfl Try.underlying3 rfl (by kernel_rfl : _ = Value.pointer (some ⟨b13, 1, none⟩)) (HS15.cell 1)) ?_)
  refine seqS2 (a' := ⟨#[.agg #[.int .i64 s1.W, .int .i64 s1.H, .slice A2 s1.Bias.length c3, .slice A5 s1.Dark.length c6, .slice A8 s1.Flat.length c9, .int .i64 s1.Full, .int .i64 s1.Gain, .int .i64 s1.Noise], .pointer (some ⟨b13, 0, none⟩), .int .i64 0, .int .i64 (w64 (s1.W * s1.H)), .pointer (some ⟨b13, 0, none⟩), .int .i64 s1.W, .pointer (some ⟨b13, 1, none⟩), .int .i64 s1.H, .int .i64 (w64 (s1.W * s1.H)), undef, undef, undef, undef, undef, undef, undef, undef, undef, undef, undef, undef, undef, undef, undef, undef, undef, undef, undef, undef, undef, undef, undef, undef, undef, undef, undef, undef, undef, undef, undef, undef, undef, undef, undef, undef, undef, undef, undef, undef, undef, undef, undef, undef, undef, undef, undef, undef, undef, undef, undef, undef, undef, undef, undef, undef, undef, undef, undef, undef, undef, undef, undef, undef, undef, undef, undef, undef, undef, undef, undef, undef, undef, undef, undef, undef, undef, undef], []⟩) (by kernel_rfl) ?_
  refine wpList_nil ?_
  refine hK20 _ _ ?_
  refine blockK (fun B21 hx22 hn23 hr24 ho25 hp26 => ?_)
  refine wp_seq_k (fun K28 hK29 => ?_)
  refine wp_region_lit ?_
  refine seqL1 (by kernel_rfl) ?_
  refine seqK rfl (does_run (run_load rfl Try.underlying3 rfl (by kernel_rfl : _ = Value.pointer (some ⟨b13, 0, none⟩)) (HS15.cell 0)) ?_)
  refine seqL1 (by kernel_rfl) ?_
  refine seqK rfl (does_run (run_load rfl Try.underlying3 rfl (by kernel_rfl : _ = Value.pointer (some ⟨b13, 1, none⟩)) (HS15.cell 1)) ?_)
  refine seqS3 (a' := ⟨#[.agg #[.int .i64 s1.W, .int .i64 s1.H, .slice A2 s1.Bias.length c3, .slice A5 s1.Dark.length c6, .slice A8 s1.Flat.length c9, .int .i64 s1.Full, .int .i64 s1.Gain, .int .i64 s1.Noise], .pointer (some ⟨b13, 0, none⟩), .int .i64 0, .int .i64 (w64 (s1.W * s1.H)), .pointer (some ⟨b13, 0, none⟩), .int .i64 s1.W, .pointer (some ⟨b13, 1, none⟩), .int .i64 s1.H, .int .i64 (w64 (s1.W * s1.H)), undef, .pointer (some ⟨b13, 0, none⟩), .int .i64 s1.W, .pointer (some ⟨b13, 1, none⟩), .int .i64 s1.H, .int .i64 (mn s1.W s1.H), .bool (decide ((mn s1.W s1.H) < 1)), .bool (decide ((mn s1.W s1.H) < 1)), undef, undef, undef, undef, undef, undef, undef, undef, undef, undef, undef, undef, undef, undef, undef, undef, undef, undef, undef, undef, undef, undef, undef, undef, undef, undef, undef, undef, undef, undef, undef, undef, undef, undef, undef, undef, undef, undef, undef, undef, undef, undef, undef, undef, undef, undef, undef, undef, undef, undef, undef, undef, undef, undef, undef, undef, undef, undef, undef, undef, undef, undef, undef, undef, undef, undef, undef, undef, undef, undef], []⟩) (by kernel_rfl) ?_
  have hq_ := ite_some h; clear h; rcases hq_ with ⟨c30, h⟩ | ⟨c30, h⟩
  · have c30 : (mn s1.W s1.H) < 1 := c30
    refine seqRwI 15 (x := (decide ((mn s1.W s1.H) < 1))) (v := true) (by kernel_rfl) (decide_eq_true c30) ?_
    refine seqRwI 16 (x := (decide ((mn s1.W s1.H) < 1))) (v := true) (by kernel_rfl) (decide_eq_true c30) ?_
    refine seqS8 (a' := ⟨#[.agg #[.int .i64 s1.W, .int .i64 s1.H, .slice A2 s1.Bias.length c3, .slice A5 s1.Dark.length c6, .slice A8 s1.Flat.length c9, .int .i64 s1.Full, .int .i64 s1.Gain, .int .i64 s1.Noise], .pointer (some ⟨b13, 0, none⟩), .int .i64 0, .int .i64 (w64 (s1.W * s1.H)), .pointer (some ⟨b13, 0, none⟩), .int .i64 s1.W, .pointer (some ⟨b13, 1, none⟩), .int .i64 s1.H, .int .i64 (w64 (s1.W * s1.H)), .bool true, .pointer (some ⟨b13, 0, none⟩), .int .i64 s1.W, .pointer (some ⟨b13, 1, none⟩), .int .i64 s1.H, .int .i64 (mn s1.W s1.H), .bool true, .bool true, undef, undef, undef, undef, undef, undef, .bool true, undef, undef, undef, undef, undef, undef, undef, undef, undef, undef, undef, undef, undef, undef, undef, undef, undef, undef, undef, undef, undef, undef, undef, undef, undef, undef, undef, undef, undef, undef, undef, undef, undef, undef, undef, undef, undef, undef, undef, undef, undef, undef, undef, undef, undef, undef, undef, undef, undef, undef, undef, undef, undef, undef, undef, undef, undef, undef, undef, undef, undef, undef, undef], []⟩) (by kernel_rfl) ?_
    refine wpList_nil ?_
    refine hK29 _ _ ?_
    refine condT (by kernel_rfl) ?_
    refine wp_seq_k (fun K31 hK32 => ?_)
    refine wp_region_lit ?_
    refine seqS1 (a' := ⟨#[.agg #[.int .i64 s1.W, .int .i64 s1.H, .slice A2 s1.Bias.length c3, .slice A5 s1.Dark.length c6, .slice A8 s1.Flat.length c9, .int .i64 s1.Full, .int .i64 s1.Gain, .int .i64 s1.Noise], .pointer (some ⟨b13, 0, none⟩), .int .i64 4, .int .i64 (w64 (s1.W * s1.H)), .pointer (some ⟨b13, 0, none⟩), .int .i64 s1.W, .pointer (some ⟨b13, 1, none⟩), .int .i64 s1.H, .int .i64 (w64 (s1.W * s1.H)), .bool true, .pointer (some ⟨b13, 0, none⟩), .int .i64 s1.W, .pointer (some ⟨b13, 1, none⟩), .int .i64 s1.H, .int .i64 (mn s1.W s1.H), .bool true, .bool true, undef, undef, undef, undef, undef, undef, .bool true, undef, undef, undef, undef, undef, undef, undef, undef, undef, undef, undef, undef, undef, undef, undef, undef, undef, undef, undef, undef, undef, undef, undef, undef, undef, undef, undef, undef, undef, undef, undef, undef, undef, undef, undef, undef, undef, undef, undef, undef, undef, undef, undef, undef, undef, undef, undef, undef, undef, undef, undef, undef, undef, undef, undef, undef, undef, undef, undef, undef, undef, undef, undef], []⟩) (by kernel_rfl) ?_
    refine wpList_nil ?_
    refine hK32 _ _ ?_
    refine wp_ret ?_
    refine hr24 _ _ ?_
    refine hret _ _ ?_
    refine ends_still (v := Value.int .i64 4) (by kernel_rfl) (by kernel_rfl) ?_
    have HS102 := HS15.drop
    injection h with h
    subst h
    exact ⟨f, rfl, FM.le.refl _, HS102⟩
  · have c30 : ¬ ((mn s1.W s1.H) < 1) := c30
    refine seqRwI 15 (x := (decide ((mn s1.W s1.H) < 1))) (v := false) (by kernel_rfl) (decide_eq_false c30) ?_
    refine seqRwI 16 (x := (decide ((mn s1.W s1.H) < 1))) (v := false) (by kernel_rfl) (decide_eq_false c30) ?_
    refine seqL1 (by kernel_rfl) ?_
    refine seqG (by kernel_rfl) (does_run (run_load rfl Try.underlying3 rfl (by kernel_rfl : _ = Value.pointer (some ⟨b13, 0, none⟩)) (HS15.cell 0)) ?_)
    refine seqL1 (by kernel_rfl) ?_
    refine seqG (by kernel_rfl) (does_run (run_load rfl Try.underlying3 rfl (by kernel_rfl : _ = Value.pointer (some ⟨b13, 1, none⟩)) (HS15.cell 1)) ?_)
    refine seqS4 (a' := ⟨#[.agg #[.int .i64 s1.W, .int .i64 s1.H, .slice A2 s1.Bias.length c3, .slice A5 s1.Dark.length c6, .slice A8 s1.Flat.length c9, .int .i64 s1.Full, .int .i64 s1.Gain, .int .i64 s1.Noise], .pointer (some ⟨b13, 0, none⟩), .int .i64 0, .int .i64 (w64 (s1.W * s1.H)), .pointer (some ⟨b13, 0, none⟩), .int .i64 s1.W, .pointer (some ⟨b13, 1, none⟩), .int .i64 s1.H, .int .i64 (w64 (s1.W * s1.H)), .bool (decide ((mx s1.W s1.H) > 32)), .pointer (some ⟨b13, 0, none⟩), .int .i64 s1.W, .pointer (some ⟨b13, 1, none⟩), .int .i64 s1.H, .int .i64 (mn s1.W s1.H), .bool false, .bool false, .pointer (some ⟨b13, 0, none⟩), .int .i64 s1.W, .pointer (some ⟨b13, 1, none⟩), .int .i64 s1.H, .int .i64 (mx s1.W s1.H), .bool (decide ((mx s1.W s1.H) > 32)), .bool (decide ((mx s1.W s1.H) > 32)), undef, undef, undef, undef, undef, undef, undef, undef, undef, undef, undef, undef, undef, undef, undef, undef, undef, undef, undef, undef, undef, undef, undef, undef, undef, undef, undef, undef, undef, undef, undef, undef, undef, undef, undef, undef, undef, undef, undef, undef, undef, undef, undef, undef, undef, undef, undef, undef, undef, undef, undef, undef, undef, undef, undef, undef, undef, undef, undef, undef, undef, undef, undef], []⟩) (by kernel_rfl) ?_
    refine wpList_nil ?_
    refine hK29 _ _ ?_
    have hq_ := ite_some h; clear h; rcases hq_ with ⟨c34, h⟩ | ⟨c34, h⟩
    · have c34 : (mx s1.W s1.H) > 32 := c34
      refine wpRwI 9 (x := (decide ((mx s1.W s1.H) > 32))) (v := true) (by kernel_rfl) (decide_eq_true c34) ?_
      refine wpRwI 22 (x := (decide ((mx s1.W s1.H) > 32))) (v := true) (by kernel_rfl) (decide_eq_true c34) ?_
      refine wpRwI 23 (x := (decide ((mx s1.W s1.H) > 32))) (v := true) (by kernel_rfl) (decide_eq_true c34) ?_
      refine condT (by kernel_rfl) ?_
      refine wp_seq_k (fun K35 hK36 => ?_)
      refine wp_region_lit ?_
      refine seqS1 (a' := ⟨#[.agg #[.int .i64 s1.W, .int .i64 s1.H, .slice A2 s1.Bias.length c3, .slice A5 s1.Dark.length c6, .slice A8 s1.Flat.length c9, .int .i64 s1.Full, .int .i64 s1.Gain, .int .i64 s1.Noise], .pointer (some ⟨b13, 0, none⟩), .int .i64 4, .int .i64 (w64 (s1.W * s1.H)), .pointer (some ⟨b13, 0, none⟩), .int .i64 s1.W, .pointer (some ⟨b13, 1, none⟩), .int .i64 s1.H, .int .i64 (w64 (s1.W * s1.H)), .bool true, .pointer (some ⟨b13, 0, none⟩), .int .i64 s1.W, .pointer (some ⟨b13, 1, none⟩), .int .i64 s1.H, .int .i64 (mn s1.W s1.H), .bool false, .bool false, .pointer (some ⟨b13, 0, none⟩), .int .i64 s1.W, .pointer (some ⟨b13, 1, none⟩), .int .i64 s1.H, .int .i64 (mx s1.W s1.H), .bool true, .bool true, undef, undef, undef, undef, undef, undef, undef, undef, undef, undef, undef, undef, undef, undef, undef, undef, undef, undef, undef, undef, undef, undef, undef, undef, undef, undef, undef, undef, undef, undef, undef, undef, undef, undef, undef, undef, undef, undef, undef, undef, undef, undef, undef, undef, undef, undef, undef, undef, undef, undef, undef, undef, undef, undef, undef, undef, undef, undef, undef, undef, undef, undef, undef], []⟩) (by kernel_rfl) ?_
      refine wpList_nil ?_
      refine hK36 _ _ ?_
      refine wp_ret ?_
      refine hr24 _ _ ?_
      refine hret _ _ ?_
      refine ends_still (v := Value.int .i64 4) (by kernel_rfl) (by kernel_rfl) ?_
      have HS103 := HS15.drop
      injection h with h
      subst h
      exact ⟨f, rfl, FM.le.refl _, HS103⟩
    · have c34 : ¬ ((mx s1.W s1.H) > 32) := c34
      refine wpRwI 9 (x := (decide ((mx s1.W s1.H) > 32))) (v := false) (by kernel_rfl) (decide_eq_false c34) ?_
      refine wpRwI 22 (x := (decide ((mx s1.W s1.H) > 32))) (v := false) (by kernel_rfl) (decide_eq_false c34) ?_
      refine wpRwI 23 (x := (decide ((mx s1.W s1.H) > 32))) (v := false) (by kernel_rfl) (decide_eq_false c34) ?_
      refine condF (by kernel_rfl) ?_
      refine wp_seq_k (fun K37 hK38 => ?_)
      refine wp_region_lit ?_
      refine seqL1 (by kernel_rfl) ?_
      refine seqK rfl (does_run (run_load rfl Try.underlying40 rfl (by kernel_rfl : _ = Value.pointer (some ⟨b13, 2, none⟩)) (HS15.cell 2)) ?_)
      refine seqS4 (a' := ⟨#[.agg #[.int .i64 s1.W, .int .i64 s1.H, .slice A2 s1.Bias.length c3, .slice A5 s1.Dark.length c6, .slice A8 s1.Flat.length c9, .int .i64 s1.Full, .int .i64 s1.Gain, .int .i64 s1.Noise], .pointer (some ⟨b13, 0, none⟩), .int .i64 0, .int .i64 (w64 (s1.W * s1.H)), .pointer (some ⟨b13, 0, none⟩), .int .i64 s1.W, .pointer (some ⟨b13, 1, none⟩), .int .i64 s1.H, .int .i64 (w64 (s1.W * s1.H)), .bool false, .pointer (some ⟨b13, 0, none⟩), .int .i64 s1.W, .pointer (some ⟨b13, 1, none⟩), .int .i64 s1.H, .int .i64 (mn s1.W s1.H), .bool false, .bool false, .pointer (some ⟨b13, 0, none⟩), .int .i64 s1.W, .pointer (some ⟨b13, 1, none⟩), .int .i64 s1.H, .int .i64 (mx s1.W s1.H), .bool false, .bool false, undef, .pointer (some ⟨b13, 2, none⟩), .slice A2 s1.Bias.length c3, .int .i64 (s1.Bias.length : Int), .int .i64 (w64 (s1.W * s1.H)), .bool ((s1.Bias.length : Int) != (w64 (s1.W * s1.H))), .bool ((s1.Bias.length : Int) != (w64 (s1.W * s1.H))), undef, undef, undef, undef, undef, undef, undef, undef, undef, undef, undef, undef, undef, undef, undef, undef, undef, undef, undef, undef, undef, undef, undef, undef, undef, undef, undef, undef, undef, undef, undef, undef, undef, undef, undef, undef, undef, undef, undef, undef, undef, undef, undef, undef, undef, undef, undef, undef, undef, undef, undef, undef, undef, undef, undef, undef], []⟩) (by kernel_rfl) ?_
      have hq_ := ite_some h; clear h; rcases hq_ with ⟨c39, h⟩ | ⟨c39, h⟩
      · have c39 : (s1.Bias.length : Int) ≠ (w64 (s1.W * s1.H)) := c39
        refine seqRwI 29 (x := ((s1.Bias.length : Int) != (w64 (s1.W * s1.H)))) (v := true) (by kernel_rfl) (bne_iff_ne.mpr c39) ?_
        refine seqRwI 30 (x := ((s1.Bias.length : Int) != (w64 (s1.W * s1.H)))) (v := true) (by kernel_rfl) (bne_iff_ne.mpr c39) ?_
        refine seqS14 (a' := ⟨#[.agg #[.int .i64 s1.W, .int .i64 s1.H, .slice A2 s1.Bias.length c3, .slice A5 s1.Dark.length c6, .slice A8 s1.Flat.length c9, .int .i64 s1.Full, .int .i64 s1.Gain, .int .i64 s1.Noise], .pointer (some ⟨b13, 0, none⟩), .int .i64 0, .int .i64 (w64 (s1.W * s1.H)), .pointer (some ⟨b13, 0, none⟩), .int .i64 s1.W, .pointer (some ⟨b13, 1, none⟩), .int .i64 s1.H, .int .i64 (w64 (s1.W * s1.H)), .bool false, .pointer (some ⟨b13, 0, none⟩), .int .i64 s1.W, .pointer (some ⟨b13, 1, none⟩), .int .i64 s1.H, .int .i64 (mn s1.W s1.H), .bool false, .bool false, .pointer (some ⟨b13, 0, none⟩), .int .i64 s1.W, .pointer (some ⟨b13, 1, none⟩), .int .i64 s1.H, .int .i64 (mx s1.W s1.H), .bool false, .bool false, .bool true, .pointer (some ⟨b13, 2, none⟩), .slice A2 s1.Bias.length c3, .int .i64 (s1.Bias.length : Int), .int .i64 (w64 (s1.W * s1.H)), .bool true, .bool true, undef, undef, undef, undef, undef, .bool true, .bool true, undef, undef, undef, undef, undef, .bool true, undef, undef, undef, undef, undef, undef, undef, undef, undef, undef, undef, undef, undef, undef, undef, undef, undef, undef, undef, undef, undef, undef, undef, undef, undef, undef, undef, undef, undef, undef, undef, undef, undef, undef, undef, undef, undef, undef, undef, undef, undef, undef, undef], []⟩) (by kernel_rfl) ?_
        refine wpList_nil ?_
        refine hK38 _ _ ?_
        refine condT (by kernel_rfl) ?_
        refine wp_seq_k (fun K40 hK41 => ?_)
        refine wp_region_lit ?_
        refine seqS1 (a' := ⟨#[.agg #[.int .i64 s1.W, .int .i64 s1.H, .slice A2 s1.Bias.length c3, .slice A5 s1.Dark.length c6, .slice A8 s1.Flat.length c9, .int .i64 s1.Full, .int .i64 s1.Gain, .int .i64 s1.Noise], .pointer (some ⟨b13, 0, none⟩), .int .i64 3, .int .i64 (w64 (s1.W * s1.H)), .pointer (some ⟨b13, 0, none⟩), .int .i64 s1.W, .pointer (some ⟨b13, 1, none⟩), .int .i64 s1.H, .int .i64 (w64 (s1.W * s1.H)), .bool false, .pointer (some ⟨b13, 0, none⟩), .int .i64 s1.W, .pointer (some ⟨b13, 1, none⟩), .int .i64 s1.H, .int .i64 (mn s1.W s1.H), .bool false, .bool false, .pointer (some ⟨b13, 0, none⟩), .int .i64 s1.W, .pointer (some ⟨b13, 1, none⟩), .int .i64 s1.H, .int .i64 (mx s1.W s1.H), .bool false, .bool false, .bool true, .pointer (some ⟨b13, 2, none⟩), .slice A2 s1.Bias.length c3, .int .i64 (s1.Bias.length : Int), .int .i64 (w64 (s1.W * s1.H)), .bool true, .bool true, undef, undef, undef, undef, undef, .bool true, .bool true, undef, undef, undef, undef, undef, .bool true, undef, undef, undef, undef, undef, undef, undef, undef, undef, undef, undef, undef, undef, undef, undef, undef, undef, undef, undef, undef, undef, undef, undef, undef, undef, undef, undef, undef, undef, undef, undef, undef, undef, undef, undef, undef, undef, undef, undef, undef, undef, undef, undef], []⟩) (by kernel_rfl) ?_
        refine wpList_nil ?_
        refine hK41 _ _ ?_
        refine wp_ret ?_
        refine hr24 _ _ ?_
        refine hret _ _ ?_
        refine ends_still (v := Value.int .i64 3) (by kernel_rfl) (by kernel_rfl) ?_
        have HS104 := HS15.drop
        injection h with h
        subst h
        exact ⟨f, rfl, FM.le.refl _, HS104⟩
      · have c39 : ¬ ((s1.Bias.length : Int) ≠ (w64 (s1.W * s1.H))) := c39
        refine seqRwI 29 (x := ((s1.Bias.length : Int) != (w64 (s1.W * s1.H)))) (v := false) (by kernel_rfl) (bne_eq_false_iff_eq.mpr (Decidable.of_not_not c39)) ?_
        refine seqRwI 30 (x := ((s1.Bias.length : Int) != (w64 (s1.W * s1.H)))) (v := false) (by kernel_rfl) (bne_eq_false_iff_eq.mpr (Decidable.of_not_not c39)) ?_
        refine seqL1 (by kernel_rfl) ?_
        refine seqG (by kernel_rfl) (does_run (run_load rfl Try.underlying44 rfl (by kernel_rfl : _ = Value.pointer (some ⟨b13, 3, none⟩)) (HS15.cell 3)) ?_)
        refine seqS5 (a' := ⟨#[.agg #[.int .i64 s1.W, .int .i64 s1.H, .slice A2 s1.Bias.length c3, .slice A5 s1.Dark.length c6, .slice A8 s1.Flat.length c9, .int .i64 s1.Full, .int .i64 s1.Gain, .int .i64 s1.Noise], .pointer (some ⟨b13, 0, none⟩), .int .i64 0, .int .i64 (w64 (s1.W * s1.H)), .pointer (some ⟨b13, 0, none⟩), .int .i64 s1.W, .pointer (some ⟨b13, 1, none⟩), .int .i64 s1.H, .int .i64 (w64 (s1.W * s1.H)), .bool false, .pointer (some ⟨b13, 0, none⟩), .int .i64 s1.W, .pointer (some ⟨b13, 1, none⟩), .int .i64 s1.H, .int .i64 (mn s1.W s1.H), .bool false, .bool false, .pointer (some ⟨b13, 0, none⟩), .int .i64 s1.W, .pointer (some ⟨b13, 1, none⟩), .int .i64 s1.H, .int .i64 (mx s1.W s1.H), .bool false, .bool false, undef, .pointer (some ⟨b13, 2, none⟩), .slice A2 s1.Bias.length c3, .int .i64 (s1.Bias.length : Int), .int .i64 (w64 (s1.W * s1.H)), .bool false, .bool false, .pointer (some ⟨b13, 3, none⟩), .slice A5 s1.Dark.length c6, .int .i64 (s1.Dark.length : Int), .int .i64 (w64 (s1.W * s1.H)), .bool ((s1.Dark.length : Int) != (w64 (s1.W * s1.H))), .bool ((s1.Dark.length : Int) != (w64 (s1.W * s1.H))), .bool ((s1.Dark.length : Int) != (w64 (s1.W * s1.H))), undef, undef, undef, undef, undef, undef, undef, undef, undef, undef, undef, undef, undef, undef, undef, undef, undef, undef, undef, undef, undef, undef, undef, undef, undef, undef, undef, undef, undef, undef, undef, undef, undef, undef, undef, undef, undef, undef, undef, undef, undef, undef, undef, undef, undef, undef, undef, undef, undef], []⟩) (by kernel_rfl) ?_
        have hq_ := ite_some h; clear h; rcases hq_ with ⟨c42, h⟩ | ⟨c42, h⟩
        · have c42 : (s1.Dark.length : Int) ≠ (w64 (s1.W * s1.H)) := c42
          refine seqRwI 35 (x := ((s1.Dark.length : Int) != (w64 (s1.W * s1.H)))) (v := true) (by kernel_rfl) (bne_iff_ne.mpr c42) ?_
          refine seqRwI 36 (x := ((s1.Dark.length : Int) != (w64 (s1.W * s1.H)))) (v := true) (by kernel_rfl) (bne_iff_ne.mpr c42) ?_
          refine seqRwI 37 (x := ((s1.Dark.length : Int) != (w64 (s1.W * s1.H)))) (v := true) (by kernel_rfl) (bne_iff_ne.mpr c42) ?_
          refine seqS7 (a' := ⟨#[.agg #[.int .i64 s1.W, .int .i64 s1.H, .slice A2 s1.Bias.length c3, .slice A5 s1.Dark.length c6, .slice A8 s1.Flat.length c9, .int .i64 s1.Full, .int .i64 s1.Gain, .int .i64 s1.Noise], .pointer (some ⟨b13, 0, none⟩), .int .i64 0, .int .i64 (w64 (s1.W * s1.H)), .pointer (some ⟨b13, 0, none⟩), .int .i64 s1.W, .pointer (some ⟨b13, 1, none⟩), .int .i64 s1.H, .int .i64 (w64 (s1.W * s1.H)), .bool false, .pointer (some ⟨b13, 0, none⟩), .int .i64 s1.W, .pointer (some ⟨b13, 1, none⟩), .int .i64 s1.H, .int .i64 (mn s1.W s1.H), .bool false, .bool false, .pointer (some ⟨b13, 0, none⟩), .int .i64 s1.W, .pointer (some ⟨b13, 1, none⟩), .int .i64 s1.H, .int .i64 (mx s1.W s1.H), .bool false, .bool false, .bool true, .pointer (some ⟨b13, 2, none⟩), .slice A2 s1.Bias.length c3, .int .i64 (s1.Bias.length : Int), .int .i64 (w64 (s1.W * s1.H)), .bool false, .bool false, .pointer (some ⟨b13, 3, none⟩), .slice A5 s1.Dark.length c6, .int .i64 (s1.Dark.length : Int), .int .i64 (w64 (s1.W * s1.H)), .bool true, .bool true, .bool true, undef, undef, undef, undef, undef, .bool true, undef, undef, undef, undef, undef, undef, undef, undef, undef, undef, undef, undef, undef, undef, undef, undef, undef, undef, undef, undef, undef, undef, undef, undef, undef, undef, undef, undef, undef, undef, undef, undef, undef, undef, undef, undef, undef, undef, undef, undef, undef, undef, undef], []⟩) (by kernel_rfl) ?_
          refine wpList_nil ?_
          refine hK38 _ _ ?_
          refine condT (by kernel_rfl) ?_
          refine wp_seq_k (fun K43 hK44 => ?_)
          refine wp_region_lit ?_
          refine seqS1 (a' := ⟨#[.agg #[.int .i64 s1.W, .int .i64 s1.H, .slice A2 s1.Bias.length c3, .slice A5 s1.Dark.length c6, .slice A8 s1.Flat.length c9, .int .i64 s1.Full, .int .i64 s1.Gain, .int .i64 s1.Noise], .pointer (some ⟨b13, 0, none⟩), .int .i64 3, .int .i64 (w64 (s1.W * s1.H)), .pointer (some ⟨b13, 0, none⟩), .int .i64 s1.W, .pointer (some ⟨b13, 1, none⟩), .int .i64 s1.H, .int .i64 (w64 (s1.W * s1.H)), .bool false, .pointer (some ⟨b13, 0, none⟩), .int .i64 s1.W, .pointer (some ⟨b13, 1, none⟩), .int .i64 s1.H, .int .i64 (mn s1.W s1.H), .bool false, .bool false, .pointer (some ⟨b13, 0, none⟩), .int .i64 s1.W, .pointer (some ⟨b13, 1, none⟩), .int .i64 s1.H, .int .i64 (mx s1.W s1.H), .bool false, .bool false, .bool true, .pointer (some ⟨b13, 2, none⟩), .slice A2 s1.Bias.length c3, .int .i64 (s1.Bias.length : Int), .int .i64 (w64 (s1.W * s1.H)), .bool false, .bool false, .pointer (some ⟨b13, 3, none⟩), .slice A5 s1.Dark.length c6, .int .i64 (s1.Dark.length : Int), .int .i64 (w64 (s1.W * s1.H)), .bool true, .bool true, .bool true, undef, undef, undef, undef, undef, .bool true, undef, undef, undef, undef, undef, undef, undef, undef, undef, undef, undef, undef, undef, undef, undef, undef, undef, undef, undef, undef, undef, undef, undef, undef, undef, undef, undef, undef, undef, undef, undef, undef, undef, undef, undef, undef, undef, undef, undef, undef, undef, undef, undef], []⟩) (by kernel_rfl) ?_
          refine wpList_nil ?_
          refine hK44 _ _ ?_
          refine wp_ret ?_
          refine hr24 _ _ ?_
          refine hret _ _ ?_
          refine ends_still (v := Value.int .i64 3) (by kernel_rfl) (by kernel_rfl) ?_
          have HS105 := HS15.drop
          injection h with h
          subst h
          exact ⟨f, rfl, FM.le.refl _, HS105⟩
        · have c42 : ¬ ((s1.Dark.length : Int) ≠ (w64 (s1.W * s1.H))) := c42
          refine seqRwI 35 (x := ((s1.Dark.length : Int) != (w64 (s1.W * s1.H)))) (v := false) (by kernel_rfl) (bne_eq_false_iff_eq.mpr (Decidable.of_not_not c42)) ?_
          refine seqRwI 36 (x := ((s1.Dark.length : Int) != (w64 (s1.W * s1.H)))) (v := false) (by kernel_rfl) (bne_eq_false_iff_eq.mpr (Decidable.of_not_not c42)) ?_
          refine seqRwI 37 (x := ((s1.Dark.length : Int) != (w64 (s1.W * s1.H)))) (v := false) (by kernel_rfl) (bne_eq_false_iff_eq.mpr (Decidable.of_not_not c42)) ?_
          refine seqL1 (by kernel_rfl) ?_
          refine seqG (by kernel_rfl) (does_run (run_load rfl Try.underlying40 rfl (by kernel_rfl : _ = Value.pointer (some ⟨b13, 4, none⟩)) (HS15.cell 4)) ?_)
          refine seqS5 (a' := ⟨#[.agg #[.int .i64 s1.W, .int .i64 s1.H, .slice A2 s1.Bias.length c3, .slice A5 s1.Dark.length c6, .slice A8 s1.Flat.length c9, .int .i64 s1.Full, .int .i64 s1.Gain, .int .i64 s1.Noise], .pointer (some ⟨b13, 0, none⟩), .int .i64 0, .int .i64 (w64 (s1.W * s1.H)), .pointer (some ⟨b13, 0, none⟩), .int .i64 s1.W, .pointer (some ⟨b13, 1, none⟩), .int .i64 s1.H, .int .i64 (w64 (s1.W * s1.H)), .bool false, .pointer (some ⟨b13, 0, none⟩), .int .i64 s1.W, .pointer (some ⟨b13, 1, none⟩), .int .i64 s1.H, .int .i64 (mn s1.W s1.H), .bool false, .bool false, .pointer (some ⟨b13, 0, none⟩), .int .i64 s1.W, .pointer (some ⟨b13, 1, none⟩), .int .i64 s1.H, .int .i64 (mx s1.W s1.H), .bool false, .bool false, .bool ((s1.Flat.length : Int) != (w64 (s1.W * s1.H))), .pointer (some ⟨b13, 2, none⟩), .slice A2 s1.Bias.length c3, .int .i64 (s1.Bias.length : Int), .int .i64 (w64 (s1.W * s1.H)), .bool false, .bool false, .pointer (some ⟨b13, 3, none⟩), .slice A5 s1.Dark.length c6, .int .i64 (s1.Dark.length : Int), .int .i64 (w64 (s1.W * s1.H)), .bool false, .bool false, .bool false, .pointer (some ⟨b13, 4, none⟩), .slice A8 s1.Flat.length c9, .int .i64 (s1.Flat.length : Int), .int .i64 (w64 (s1.W * s1.H)), .bool ((s1.Flat.length : Int) != (w64 (s1.W * s1.H))), .bool ((s1.Flat.length : Int) != (w64 (s1.W * s1.H))), undef, undef, undef, undef, undef, undef, undef, undef, undef, undef, undef, undef, undef, undef, undef, undef, undef, undef, undef, undef, undef, undef, undef, undef, undef, undef, undef, undef, undef, undef, undef, undef, undef, undef, undef, undef, undef, undef, undef, undef, undef, undef, undef], []⟩) (by kernel_rfl) ?_
          refine wpList_nil ?_
          refine hK38 _ _ ?_
          have hq_ := ite_some h; clear h; rcases hq_ with ⟨c46, h⟩ | ⟨c46, h⟩
          · have c46 : (s1.Flat.length : Int) ≠ (w64 (s1.W * s1.H)) := c46
            refine wpRwI 24 (x := ((s1.Flat.length : Int) != (w64 (s1.W * s1.H)))) (v := true) (by kernel_rfl) (bne_iff_ne.mpr c46) ?_
            refine wpRwI 42 (x := ((s1.Flat.length : Int) != (w64 (s1.W * s1.H)))) (v := true) (by kernel_rfl) (bne_iff_ne.mpr c46) ?_
            refine wpRwI 43 (x := ((s1.Flat.length : Int) != (w64 (s1.W * s1.H)))) (v := true) (by kernel_rfl) (bne_iff_ne.mpr c46) ?_
            refine condT (by kernel_rfl) ?_
            refine wp_seq_k (fun K47 hK48 => ?_)
            refine wp_region_lit ?_
            refine seqS1 (a' := ⟨#[.agg #[.int .i64 s1.W, .int .i64 s1.H, .slice A2 s1.Bias.length c3, .slice A5 s1.Dark.length c6, .slice A8 s1.Flat.length c9, .int .i64 s1.Full, .int .i64 s1.Gain, .int .i64 s1.Noise], .pointer (some ⟨b13, 0, none⟩), .int .i64 3, .int .i64 (w64 (s1.W * s1.H)), .pointer (some ⟨b13, 0, none⟩), .int .i64 s1.W, .pointer (some ⟨b13, 1, none⟩), .int .i64 s1.H, .int .i64 (w64 (s1.W * s1.H)), .bool false, .pointer (some ⟨b13, 0, none⟩), .int .i64 s1.W, .pointer (some ⟨b13, 1, none⟩), .int .i64 s1.H, .int .i64 (mn s1.W s1.H), .bool false, .bool false, .pointer (some ⟨b13, 0, none⟩), .int .i64 s1.W, .pointer (some ⟨b13, 1, none⟩), .int .i64 s1.H, .int .i64 (mx s1.W s1.H), .bool false, .bool false, .bool true, .pointer (some ⟨b13, 2, none⟩), .slice A2 s1.Bias.length c3, .int .i64 (s1.Bias.length : Int), .int .i64 (w64 (s1.W * s1.H)), .bool false, .bool false, .pointer (some ⟨b13, 3, none⟩), .slice A5 s1.Dark.length c6, .int .i64 (s1.Dark.length : Int), .int .i64 (w64 (s1.W * s1.H)), .bool false, .bool false, .bool false, .pointer (some ⟨b13, 4, none⟩), .slice A8 s1.Flat.length c9, .int .i64 (s1.Flat.length : Int), .int .i64 (w64 (s1.W * s1.H)), .bool true, .bool true, undef, undef, undef, undef, undef, undef, undef, undef, undef, undef, undef, undef, undef, undef, undef, undef, undef, undef, undef, undef, undef, undef, undef, undef, undef, undef, undef, undef, undef, undef, undef, undef, undef, undef, undef, undef, undef, undef, undef, undef, undef, undef, undef], []⟩) (by kernel_rfl) ?_
            refine wpList_nil ?_
            refine hK48 _ _ ?_
            refine wp_ret ?_
            refine hr24 _ _ ?_
            refine hret _ _ ?_
            refine ends_still (v := Value.int .i64 3) (by kernel_rfl) (by kernel_rfl) ?_
            have HS106 := HS15.drop
            injection h with h
            subst h
            exact ⟨f, rfl, FM.le.refl _, HS106⟩
          · have c46 : ¬ ((s1.Flat.length : Int) ≠ (w64 (s1.W * s1.H))) := c46
            refine wpRwI 24 (x := ((s1.Flat.length : Int) != (w64 (s1.W * s1.H)))) (v := false) (by kernel_rfl) (bne_eq_false_iff_eq.mpr (Decidable.of_not_not c46)) ?_
            refine wpRwI 42 (x := ((s1.Flat.length : Int) != (w64 (s1.W * s1.H)))) (v := false) (by kernel_rfl) (bne_eq_false_iff_eq.mpr (Decidable.of_not_not c46)) ?_
            refine wpRwI 43 (x := ((s1.Flat.length : Int) != (w64 (s1.W * s1.H)))) (v := false) (by kernel_rfl) (bne_eq_false_iff_eq.mpr (Decidable.of_not_not c46)) ?_
            refine condF (by kernel_rfl) ?_
            refine wp_seq_k (fun K49 hK50 => ?_)
            refine wp_region_lit ?_
            refine seqL1 (by kernel_rfl) ?_
            refine seqK rfl (does_run (run_load rfl Try.underlying40 rfl (by kernel_rfl : _ = Value.pointer (some ⟨b13, 2, none⟩)) (HS15.cell 2)) ?_)
            have hq_ := bind_some h; clear h; obtain ⟨vt51, hc52, h⟩ := hq_
            refine seqK rfl (does_call (f := 78) (args := #[.slice A2 s1.Bias.length c3, .int .i64 4096]) (by kernel_rfl) (sensor_outside_int.calls k A2 c3 s1.Bias 4096 HS15 HR4 vt51 hc52) ?_)
            rintro _ W55 ⟨f53, rfl, L54, HS56⟩
            refine ⟨_, rfl, ?_⟩
            refine seqS1 (a' := ⟨#[.agg #[.int .i64 s1.W, .int .i64 s1.H, .slice A2 s1.Bias.length c3, .slice A5 s1.Dark.length c6, .slice A8 s1.Flat.length c9, .int .i64 s1.Full, .int .i64 s1.Gain, .int .i64 s1.Noise], .pointer (some ⟨b13, 0, none⟩), .int .i64 0, .int .i64 (w64 (s1.W * s1.H)), .pointer (some ⟨b13, 0, none⟩), .int .i64 s1.W, .pointer (some ⟨b13, 1, none⟩), .int .i64 s1.H, .int .i64 (w64 (s1.W * s1.H)), .bool false, .pointer (some ⟨b13, 0, none⟩), .int .i64 s1.W, .pointer (some ⟨b13, 1, none⟩), .int .i64 s1.H, .int .i64 (mn s1.W s1.H), .bool false, .bool false, .pointer (some ⟨b13, 0, none⟩), .int .i64 s1.W, .pointer (some ⟨b13, 1, none⟩), .int .i64 s1.H, .int .i64 (mx s1.W s1.H), .bool false, .bool false, .bool false, .pointer (some ⟨b13, 2, none⟩), .slice A2 s1.Bias.length c3, .int .i64 (s1.Bias.length : Int), .int .i64 (w64 (s1.W * s1.H)), .bool false, .bool false, .pointer (some ⟨b13, 3, none⟩), .slice A5 s1.Dark.length c6, .int .i64 (s1.Dark.length : Int), .int .i64 (w64 (s1.W * s1.H)), .bool false, .bool false, .bool false, .pointer (some ⟨b13, 4, none⟩), .slice A8 s1.Flat.length c9, .int .i64 (s1.Flat.length : Int), .int .i64 (w64 (s1.W * s1.H)), .bool false, .bool false, undef, .pointer (some ⟨b13, 2, none⟩), .slice A2 s1.Bias.length c3, .bool vt51, .bool vt51, undef, undef, undef, undef, undef, undef, undef, undef, undef, undef, undef, undef, undef, undef, undef, undef, undef, undef, undef, undef, undef, undef, undef, undef, undef, undef, undef, undef, undef, undef, undef, undef, undef, undef, undef, undef, undef, undef], []⟩) (by kernel_rfl) ?_
            have hq_ := ite_some h; clear h; rcases hq_ with ⟨c57, h⟩ | ⟨c57, h⟩
            · have c57 : vt51 = true := c57
              refine seqRwI 47 (x := vt51) (v := true) (by kernel_rfl) c57 ?_
              refine seqRwI 48 (x := vt51) (v := true) (by kernel_rfl) c57 ?_
              refine seqS10 (a' := ⟨#[.agg #[.int .i64 s1.W, .int .i64 s1.H, .slice A2 s1.Bias.length c3, .slice A5 s1.Dark.length c6, .slice A8 s1.Flat.length c9, .int .i64 s1.Full, .int .i64 s1.Gain, .int .i64 s1.Noise], .pointer (some ⟨b13, 0, none⟩), .int .i64 0, .int .i64 (w64 (s1.W * s1.H)), .pointer (some ⟨b13, 0, none⟩), .int .i64 s1.W, .pointer (some ⟨b13, 1, none⟩), .int .i64 s1.H, .int .i64 (w64 (s1.W * s1.H)), .bool false, .pointer (some ⟨b13, 0, none⟩), .int .i64 s1.W, .pointer (some ⟨b13, 1, none⟩), .int .i64 s1.H, .int .i64 (mn s1.W s1.H), .bool false, .bool false, .pointer (some ⟨b13, 0, none⟩), .int .i64 s1.W, .pointer (some ⟨b13, 1, none⟩), .int .i64 s1.H, .int .i64 (mx s1.W s1.H), .bool false, .bool false, .bool false, .pointer (some ⟨b13, 2, none⟩), .slice A2 s1.Bias.length c3, .int .i64 (s1.Bias.length : Int), .int .i64 (w64 (s1.W * s1.H)), .bool false, .bool false, .pointer (some ⟨b13, 3, none⟩), .slice A5 s1.Dark.length c6, .int .i64 (s1.Dark.length : Int), .int .i64 (w64 (s1.W * s1.H)), .bool false, .bool false, .bool false, .pointer (some ⟨b13, 4, none⟩), .slice A8 s1.Flat.length c9, .int .i64 (s1.Flat.length : Int), .int .i64 (w64 (s1.W * s1.H)), .bool false, .bool false, .bool true, .pointer (some ⟨b13, 2, none⟩), .slice A2 s1.Bias.length c3, .bool true, .bool true, undef, undef, undef, .bool true, .bool true, undef, undef, undef, .bool true, undef, undef, undef, undef, undef, undef, undef, undef, undef, undef, undef, undef, undef, undef, undef, undef, undef, undef, undef, undef, undef, undef, undef, undef, undef, undef, undef, undef, undef], []⟩) (by kernel_rfl) ?_
              refine wpList_nil ?_
              refine hK50 _ _ ?_
              refine condT (by kernel_rfl) ?_
              refine wp_seq_k (fun K58 hK59 => ?_)
              refine wp_region_lit ?_
              refine seqS1 (a' := ⟨#[.agg #[.int .i64 s1.W, .int .i64 s1.H, .slice A2 s1.Bias.length c3, .slice A5 s1.Dark.length c6, .slice A8 s1.Flat.length c9, .int .i64 s1.Full, .int .i64 s1.Gain, .int .i64 s1.Noise], .pointer (some ⟨b13, 0, none⟩), .int .i64 4, .int .i64 (w64 (s1.W * s1.H)), .pointer (some ⟨b13, 0, none⟩), .int .i64 s1.W, .pointer (some ⟨b13, 1, none⟩), .int .i64 s1.H, .int .i64 (w64 (s1.W * s1.H)), .bool false, .pointer (some ⟨b13, 0, none⟩), .int .i64 s1.W, .pointer (some ⟨b13, 1, none⟩), .int .i64 s1.H, .int .i64 (mn s1.W s1.H), .bool false, .bool false, .pointer (some ⟨b13, 0, none⟩), .int .i64 s1.W, .pointer (some ⟨b13, 1, none⟩), .int .i64 s1.H, .int .i64 (mx s1.W s1.H), .bool false, .bool false, .bool false, .pointer (some ⟨b13, 2, none⟩), .slice A2 s1.Bias.length c3, .int .i64 (s1.Bias.length : Int), .int .i64 (w64 (s1.W * s1.H)), .bool false, .bool false, .pointer (some ⟨b13, 3, none⟩), .slice A5 s1.Dark.length c6, .int .i64 (s1.Dark.length : Int), .int .i64 (w64 (s1.W * s1.H)), .bool false, .bool false, .bool false, .pointer (some ⟨b13, 4, none⟩), .slice A8 s1.Flat.length c9, .int .i64 (s1.Flat.length : Int), .int .i64 (w64 (s1.W * s1.H)), .bool false, .bool false, .bool true, .pointer (some ⟨b13, 2, none⟩), .slice A2 s1.Bias.length c3, .bool true, .bool true, undef, undef, undef, .bool true, .bool true, undef, undef, undef, .bool true, undef, undef, undef, undef, undef, undef, undef, undef, undef, undef, undef, undef, undef, undef, undef, undef, undef, undef, undef, undef, undef, undef, undef, undef, undef, undef, undef, undef, undef], []⟩) (by kernel_rfl) ?_
              refine wpList_nil ?_
              refine hK59 _ _ ?_
              refine wp_ret ?_
              refine hr24 _ _ ?_
              refine hret _ _ ?_
              refine ends_still (v := Value.int .i64 4) (by kernel_rfl) (by kernel_rfl) ?_
              have HS107 := HS56.drop
              injection h with h
              subst h
              exact ⟨f53, rfl, L54, HS107⟩
            · have c57 : ¬ (vt51 = true) := c57
              refine seqRwI 47 (x := vt51) (v := false) (by kernel_rfl) (Bool.eq_false_iff.mpr c57) ?_
              refine seqRwI 48 (x := vt51) (v := false) (by kernel_rfl) (Bool.eq_false_iff.mpr c57) ?_
              refine seqL1 (by kernel_rfl) ?_
              refine seqG (by kernel_rfl) (does_run (run_load rfl Try.underlying44 rfl (by kernel_rfl : _ = Value.pointer (some ⟨b13, 3, none⟩)) (HS56.cell 3)) ?_)
              have hq_ := bind_some h; clear h; obtain ⟨vt60, hc61, h⟩ := hq_
              refine seqG (by kernel_rfl) (does_call (f := 53) (args := #[.slice A5 s1.Dark.length c6, .int .i64 17592186044416]) (by kernel_rfl) (sensor_outside_Light.calls k A5 c6 s1.Dark 17592186044416 HS56 (HR7.mono L54) vt60 hc61) ?_)
              rintro _ W64 ⟨f62, rfl, L63, HS65⟩
              refine ⟨_, rfl, ?_⟩
              refine seqS2 (a' := ⟨#[.agg #[.int .i64 s1.W, .int .i64 s1.H, .slice A2 s1.Bias.length c3, .slice A5 s1.Dark.length c6, .slice A8 s1.Flat.length c9, .int .i64 s1.Full, .int .i64 s1.Gain, .int .i64 s1.Noise], .pointer (some ⟨b13, 0, none⟩), .int .i64 0, .int .i64 (w64 (s1.W * s1.H)), .pointer (some ⟨b13, 0, none⟩), .int .i64 s1.W, .pointer (some ⟨b13, 1, none⟩), .int .i64 s1.H, .int .i64 (w64 (s1.W * s1.H)), .bool false, .pointer (some ⟨b13, 0, none⟩), .int .i64 s1.W, .pointer (some ⟨b13, 1, none⟩), .int .i64 s1.H, .int .i64 (mn s1.W s1.H), .bool false, .bool false, .pointer (some ⟨b13, 0, none⟩), .int .i64 s1.W, .pointer (some ⟨b13, 1, none⟩), .int .i64 s1.H, .int .i64 (mx s1.W s1.H), .bool false, .bool false, .bool false, .pointer (some ⟨b13, 2, none⟩), .slice A2 s1.Bias.length c3, .int .i64 (s1.Bias.length : Int), .int .i64 (w64 (s1.W * s1.H)), .bool false, .bool false, .pointer (some ⟨b13, 3, none⟩), .slice A5 s1.Dark.length c6, .int .i64 (s1.Dark.length : Int), .int .i64 (w64 (s1.W * s1.H)), .bool false, .bool false, .bool false, .pointer (some ⟨b13, 4, none⟩), .slice A8 s1.Flat.length c9, .int .i64 (s1.Flat.length : Int), .int .i64 (w64 (s1.W * s1.H)), .bool false, .bool false, undef, .pointer (some ⟨b13, 2, none⟩), .slice A2 s1.Bias.length c3, .bool false, .bool false, .pointer (some ⟨b13, 3, none⟩), .slice A5 s1.Dark.length c6, .bool vt60, .bool vt60, .bool vt60, undef, undef, undef, undef, undef, undef, undef, undef, undef, undef, undef, undef, undef, undef, undef, undef, undef, undef, undef, undef, undef, undef, undef, undef, undef, undef, undef, undef, undef, undef, undef, undef, undef], []⟩) (by kernel_rfl) ?_
              have hq_ := ite_some h; clear h; rcases hq_ with ⟨c66, h⟩ | ⟨c66, h⟩
              · have c66 : vt60 = true := c66
                refine seqRwI 51 (x := vt60) (v := true) (by kernel_rfl) c66 ?_
                refine seqRwI 52 (x := vt60) (v := true) (by kernel_rfl) c66 ?_
                refine seqRwI 53 (x := vt60) (v := true) (by kernel_rfl) c66 ?_
                refine seqS5 (a' := ⟨#[.agg #[.int .i64 s1.W, .int .i64 s1.H, .slice A2 s1.Bias.length c3, .slice A5 s1.Dark.length c6, .slice A8 s1.Flat.length c9, .int .i64 s1.Full, .int .i64 s1.Gain, .int .i64 s1.Noise], .pointer (some ⟨b13, 0, none⟩), .int .i64 0, .int .i64 (w64 (s1.W * s1.H)), .pointer (some ⟨b13, 0, none⟩), .int .i64 s1.W, .pointer (some ⟨b13, 1, none⟩), .int .i64 s1.H, .int .i64 (w64 (s1.W * s1.H)), .bool false, .pointer (some ⟨b13, 0, none⟩), .int .i64 s1.W, .pointer (some ⟨b13, 1, none⟩), .int .i64 s1.H, .int .i64 (mn s1.W s1.H), .bool false, .bool false, .pointer (some ⟨b13, 0, none⟩), .int .i64 s1.W, .pointer (some ⟨b13, 1, none⟩), .int .i64 s1.H, .int .i64 (mx s1.W s1.H), .bool false, .bool false, .bool false, .pointer (some ⟨b13, 2, none⟩), .slice A2 s1.Bias.length c3, .int .i64 (s1.Bias.length : Int), .int .i64 (w64 (s1.W * s1.H)), .bool false, .bool false, .pointer (some ⟨b13, 3, none⟩), .slice A5 s1.Dark.length c6, .int .i64 (s1.Dark.length : Int), .int .i64 (w64 (s1.W * s1.H)), .bool false, .bool false, .bool false, .pointer (some ⟨b13, 4, none⟩), .slice A8 s1.Flat.length c9, .int .i64 (s1.Flat.length : Int), .int .i64 (w64 (s1.W * s1.H)), .bool false, .bool false, .bool true, .pointer (some ⟨b13, 2, none⟩), .slice A2 s1.Bias.length c3, .bool false, .bool false, .pointer (some ⟨b13, 3, none⟩), .slice A5 s1.Dark.length c6, .bool true, .bool true, .bool true, undef, undef, undef, .bool true, undef, undef, undef, undef, undef, undef, undef, undef, undef, undef, undef, undef, undef, undef, undef, undef, undef, undef, undef, undef, undef, undef, undef, undef, undef, undef, undef, undef, undef], []⟩) (by kernel_rfl) ?_
                refine wpList_nil ?_
                refine hK50 _ _ ?_
                refine condT (by kernel_rfl) ?_
                refine wp_seq_k (fun K67 hK68 => ?_)
                refine wp_region_lit ?_
                refine seqS1 (a' := ⟨#[.agg #[.int .i64 s1.W, .int .i64 s1.H, .slice A2 s1.Bias.length c3, .slice A5 s1.Dark.length c6, .slice A8 s1.Flat.length c9, .int .i64 s1.Full, .int .i64 s1.Gain, .int .i64 s1.Noise], .pointer (some ⟨b13, 0, none⟩), .int .i64 4, .int .i64 (w64 (s1.W * s1.H)), .pointer (some ⟨b13, 0, none⟩), .int .i64 s1.W, .pointer (some ⟨b13, 1, none⟩), .int .i64 s1.H, .int .i64 (w64 (s1.W * s1.H)), .bool false, .pointer (some ⟨b13, 0, none⟩), .int .i64 s1.W, .pointer (some ⟨b13, 1, none⟩), .int .i64 s1.H, .int .i64 (mn s1.W s1.H), .bool false, .bool false, .pointer (some ⟨b13, 0, none⟩), .int .i64 s1.W, .pointer (some ⟨b13, 1, none⟩), .int .i64 s1.H, .int .i64 (mx s1.W s1.H), .bool false, .bool false, .bool false, .pointer (some ⟨b13, 2, none⟩), .slice A2 s1.Bias.length c3, .int .i64 (s1.Bias.length : Int), .int .i64 (w64 (s1.W * s1.H)), .bool false, .bool false, .pointer (some ⟨b13, 3, none⟩), .slice A5 s1.Dark.length c6, .int .i64 (s1.Dark.length : Int), .int .i64 (w64 (s1.W * s1.H)), .bool false, .bool false, .bool false, .pointer (some ⟨b13, 4, none⟩), .slice A8 s1.Flat.length c9, .int .i64 (s1.Flat.length : Int), .int .i64 (w64 (s1.W * s1.H)), .bool false, .bool false, .bool true, .pointer (some ⟨b13, 2, none⟩), .slice A2 s1.Bias.length c3, .bool false, .bool false, .pointer (some ⟨b13, 3, none⟩), .slice A5 s1.Dark.length c6, .bool true, .bool true, .bool true, undef, undef, undef, .bool true, undef, undef, undef, undef, undef, undef, undef, undef, undef, undef, undef, undef, undef, undef, undef, undef, undef, undef, undef, undef, undef, undef, undef, undef, undef, undef, undef, undef, undef], []⟩) (by kernel_rfl) ?_
                refine wpList_nil ?_
                refine hK68 _ _ ?_
                refine wp_ret ?_
                refine hr24 _ _ ?_
                refine hret _ _ ?_
                refine ends_still (v := Value.int .i64 4) (by kernel_rfl) (by kernel_rfl) ?_
                have HS108 := HS65.drop
                injection h with h
                subst h
                exact ⟨f62, rfl, (L54.trans L63), HS108⟩
              · have c66 : ¬ (vt60 = true) := c66
                refine seqRwI 51 (x := vt60) (v := false) (by kernel_rfl) (Bool.eq_false_iff.mpr c66) ?_
                refine seqRwI 52 (x := vt60) (v := false) (by kernel_rfl) (Bool.eq_false_iff.mpr c66) ?_
                refine seqRwI 53 (x := vt60) (v := false) (by kernel_rfl) (Bool.eq_false_iff.mpr c66) ?_
                refine seqL1 (by kernel_rfl) ?_
                refine seqG (by kernel_rfl) (does_run (run_load rfl Try.underlying40 rfl (by kernel_rfl : _ = Value.pointer (some ⟨b13, 4, none⟩)) (HS65.cell 4)) ?_)
                have hq_ := bind_some h; clear h; obtain ⟨vt69, hc70, h⟩ := hq_
                refine seqG (by kernel_rfl) (does_call (f := 78) (args := #[.slice A8 s1.Flat.length c9, .int .i64 4096]) (by kernel_rfl) (sensor_outside_int.calls k A8 c9 s1.Flat 4096 HS65 (HR10.mono (L54.trans L63)) vt69 hc70) ?_)
                rintro _ W73 ⟨f71, rfl, L72, HS74⟩
                refine ⟨_, rfl, ?_⟩
                refine seqS2 (a' := ⟨#[.agg #[.int .i64 s1.W, .int .i64 s1.H, .slice A2 s1.Bias.length c3, .slice A5 s1.Dark.length c6, .slice A8 s1.Flat.length c9, .int .i64 s1.Full, .int .i64 s1.Gain, .int .i64 s1.Noise], .pointer (some ⟨b13, 0, none⟩), .int .i64 0, .int .i64 (w64 (s1.W * s1.H)), .pointer (some ⟨b13, 0, none⟩), .int .i64 s1.W, .pointer (some ⟨b13, 1, none⟩), .int .i64 s1.H, .int .i64 (w64 (s1.W * s1.H)), .bool false, .pointer (some ⟨b13, 0, none⟩), .int .i64 s1.W, .pointer (some ⟨b13, 1, none⟩), .int .i64 s1.H, .int .i64 (mn s1.W s1.H), .bool false, .bool false, .pointer (some ⟨b13, 0, none⟩), .int .i64 s1.W, .pointer (some ⟨b13, 1, none⟩), .int .i64 s1.H, .int .i64 (mx s1.W s1.H), .bool false, .bool false, .bool false, .pointer (some ⟨b13, 2, none⟩), .slice A2 s1.Bias.length c3, .int .i64 (s1.Bias.length : Int), .int .i64 (w64 (s1.W * s1.H)), .bool false, .bool false, .pointer (some ⟨b13, 3, none⟩), .slice A5 s1.Dark.length c6, .int .i64 (s1.Dark.length : Int), .int .i64 (w64 (s1.W * s1.H)), .bool false, .bool false, .bool false, .pointer (some ⟨b13, 4, none⟩), .slice A8 s1.Flat.length c9, .int .i64 (s1.Flat.length : Int), .int .i64 (w64 (s1.W * s1.H)), .bool false, .bool false, .bool vt69, .pointer (some ⟨b13, 2, none⟩), .slice A2 s1.Bias.length c3, .bool false, .bool false, .pointer (some ⟨b13, 3, none⟩), .slice A5 s1.Dark.length c6, .bool false, .bool false, .bool false, .pointer (some ⟨b13, 4, none⟩), .slice A8 s1.Flat.length c9, .bool vt69, .bool vt69, undef, undef, undef, undef, undef, undef, undef, undef, undef, undef, undef, undef, undef, undef, undef, undef, undef, undef, undef, undef, undef, undef, undef, undef, undef, undef, undef, undef, undef], []⟩) (by kernel_rfl) ?_
                refine wpList_nil ?_
                refine hK50 _ _ ?_
                have hq_ := ite_some h; clear h; rcases hq_ with ⟨c76, h⟩ | ⟨c76, h⟩
                · have c76 : vt69 = true := c76
                  refine wpRwI 44 (x := vt69) (v := true) (by kernel_rfl) c76 ?_
                  refine wpRwI 56 (x := vt69) (v := true) (by kernel_rfl) c76 ?_
                  refine wpRwI 57 (x := vt69) (v := true) (by kernel_rfl) c76 ?_
                  refine condT (by kernel_rfl) ?_
                  refine wp_seq_k (fun K77 hK78 => ?_)
                  refine wp_region_lit ?_
                  refine seqS1 (a' := ⟨#[.agg #[.int .i64 s1.W, .int .i64 s1.H, .slice A2 s1.Bias.length c3, .slice A5 s1.Dark.length c6, .slice A8 s1.Flat.length c9, .int .i64 s1.Full, .int .i64 s1.Gain, .int .i64 s1.Noise], .pointer (some ⟨b13, 0, none⟩), .int .i64 4, .int .i64 (w64 (s1.W * s1.H)), .pointer (some ⟨b13, 0, none⟩), .int .i64 s1.W, .pointer (some ⟨b13, 1, none⟩), .int .i64 s1.H, .int .i64 (w64 (s1.W * s1.H)), .bool false, .pointer (some ⟨b13, 0, none⟩), .int .i64 s1.W, .pointer (some ⟨b13, 1, none⟩), .int .i64 s1.H, .int .i64 (mn s1.W s1.H), .bool false, .bool false, .pointer (some ⟨b13, 0, none⟩), .int .i64 s1.W, .pointer (some ⟨b13, 1, none⟩), .int .i64 s1.H, .int .i64 (mx s1.W s1.H), .bool false, .bool false, .bool false, .pointer (some ⟨b13, 2, none⟩), .slice A2 s1.Bias.length c3, .int .i64 (s1.Bias.length : Int), .int .i64 (w64 (s1.W * s1.H)), .bool false, .bool false, .pointer (some ⟨b13, 3, none⟩), .slice A5 s1.Dark.length c6, .int .i64 (s1.Dark.length : Int), .int .i64 (w64 (s1.W * s1.H)), .bool false, .bool false, .bool false, .pointer (some ⟨b13, 4, none⟩), .slice A8 s1.Flat.length c9, .int .i64 (s1.Flat.length : Int), .int .i64 (w64 (s1.W * s1.H)), .bool false, .bool false, .bool true, .pointer (some ⟨b13, 2, none⟩), .slice A2 s1.Bias.length c3, .bool false, .bool false, .pointer (some ⟨b13, 3, none⟩), .slice A5 s1.Dark.length c6, .bool false, .bool false, .bool false, .pointer (some ⟨b13, 4, none⟩), .slice A8 s1.Flat.length c9, .bool true, .bool true, undef, undef, undef, undef, undef, undef, undef, undef, undef, undef, undef, undef, undef, undef, undef, undef, undef, undef, undef, undef, undef, undef, undef, undef, undef, undef, undef, undef, undef], []⟩) (by kernel_rfl) ?_
                  refine wpList_nil ?_
                  refine hK78 _ _ ?_
                  refine wp_ret ?_
                  refine hr24 _ _ ?_
                  refine hret _ _ ?_
                  refine ends_still (v := Value.int .i64 4) (by kernel_rfl) (by kernel_rfl) ?_
                  have HS109 := HS74.drop
                  injection h with h
                  subst h
                  exact ⟨f71, rfl, (L54.trans (L63.trans L72)), HS109⟩
                · have c76 : ¬ (vt69 = true) := c76
                  refine wpRwI 44 (x := vt69) (v := false) (by kernel_rfl) (Bool.eq_false_iff.mpr c76) ?_
                  refine wpRwI 56 (x := vt69) (v := false) (by kernel_rfl) (Bool.eq_false_iff.mpr c76) ?_
                  refine wpRwI 57 (x := vt69) (v := false) (by kernel_rfl) (Bool.eq_false_iff.mpr c76) ?_
                  refine condF (by kernel_rfl) ?_
                  refine wp_seq_k (fun K79 hK80 => ?_)
                  refine wp_region_lit ?_
                  refine seqL1 (by kernel_rfl) ?_
                  refine seqK rfl (does_run (run_load rfl Try.underlying22 rfl (by kernel_rfl : _ = Value.pointer (some ⟨b13, 5, none⟩)) (HS74.cell 5)) ?_)
                  refine seqS2 (a' := ⟨#[.agg #[.int .i64 s1.W, .int .i64 s1.H, .slice A2 s1.Bias.length c3, .slice A5 s1.Dark.length c6, .slice A8 s1.Flat.length c9, .int .i64 s1.Full, .int .i64 s1.Gain, .int .i64 s1.Noise], .pointer (some ⟨b13, 0, none⟩), .int .i64 0, .int .i64 (w64 (s1.W * s1.H)), .pointer (some ⟨b13, 0, none⟩), .int .i64 s1.W, .pointer (some ⟨b13, 1, none⟩), .int .i64 s1.H, .int .i64 (w64 (s1.W * s1.H)), .bool false, .pointer (some ⟨b13, 0, none⟩), .int .i64 s1.W, .pointer (some ⟨b13, 1, none⟩), .int .i64 s1.H, .int .i64 (mn s1.W s1.H), .bool false, .bool false, .pointer (some ⟨b13, 0, none⟩), .int .i64 s1.W, .pointer (some ⟨b13, 1, none⟩), .int .i64 s1.H, .int .i64 (mx s1.W s1.H), .bool false, .bool false, .bool false, .pointer (some ⟨b13, 2, none⟩), .slice A2 s1.Bias.length c3, .int .i64 (s1.Bias.length : Int), .int .i64 (w64 (s1.W * s1.H)), .bool false, .bool false, .pointer (some ⟨b13, 3, none⟩), .slice A5 s1.Dark.length c6, .int .i64 (s1.Dark.length : Int), .int .i64 (w64 (s1.W * s1.H)), .bool false, .bool false, .bool false, .pointer (some ⟨b13, 4, none⟩), .slice A8 s1.Flat.length c9, .int .i64 (s1.Flat.length : Int), .int .i64 (w64 (s1.W * s1.H)), .bool false, .bool false, .bool false, .pointer (some ⟨b13, 2, none⟩), .slice A2 s1.Bias.length c3, .bool false, .bool false, .pointer (some ⟨b13, 3, none⟩), .slice A5 s1.Dark.length c6, .bool false, .bool false, .bool false, .pointer (some ⟨b13, 4, none⟩), .slice A8 s1.Flat.length c9, .bool false, .bool false, undef, .pointer (some ⟨b13, 5, none⟩), .int .i64 s1.Full, .bool (decide (s1.Full < 1)), .bool (decide (s1.Full < 1)), undef, undef, undef, undef, undef, undef, undef, undef, undef, undef, undef, undef, undef, undef, undef, undef, undef, undef, undef, undef, undef, undef, undef, undef], []⟩) (by kernel_rfl) ?_
                  have hq_ := ite_some h; clear h; rcases hq_ with ⟨c81, h⟩ | ⟨c81, h⟩
                  · have c81 : s1.Full < 1 := c81
                    refine seqRwI 61 (x := (decide (s1.Full < 1))) (v := true) (by kernel_rfl) (decide_eq_true c81) ?_
                    refine seqRwI 62 (x := (decide (s1.Full < 1))) (v := true) (by kernel_rfl) (decide_eq_true c81) ?_
                    refine seqS25 (a' := ⟨#[.agg #[.int .i64 s1.W, .int .i64 s1.H, .slice A2 s1.Bias.length c3, .slice A5 s1.Dark.length c6, .slice A8 s1.Flat.length c9, .int .i64 s1.Full, .int .i64 s1.Gain, .int .i64 s1.Noise], .pointer (some ⟨b13, 0, none⟩), .int .i64 0, .int .i64 (w64 (s1.W * s1.H)), .pointer (some ⟨b13, 0, none⟩), .int .i64 s1.W, .pointer (some ⟨b13, 1, none⟩), .int .i64 s1.H, .int .i64 (w64 (s1.W * s1.H)), .bool false, .pointer (some ⟨b13, 0, none⟩), .int .i64 s1.W, .pointer (some ⟨b13, 1, none⟩), .int .i64 s1.H, .int .i64 (mn s1.W s1.H), .bool false, .bool false, .pointer (some ⟨b13, 0, none⟩), .int .i64 s1.W, .pointer (some ⟨b13, 1, none⟩), .int .i64 s1.H, .int .i64 (mx s1.W s1.H), .bool false, .bool false, .bool false, .pointer (some ⟨b13, 2, none⟩), .slice A2 s1.Bias.length c3, .int .i64 (s1.Bias.length : Int), .int .i64 (w64 (s1.W * s1.H)), .bool false, .bool false, .pointer (some ⟨b13, 3, none⟩), .slice A5 s1.Dark.length c6, .int .i64 (s1.Dark.length : Int), .int .i64 (w64 (s1.W * s1.H)), .bool false, .bool false, .bool false, .pointer (some ⟨b13, 4, none⟩), .slice A8 s1.Flat.length c9, .int .i64 (s1.Flat.length : Int), .int .i64 (w64 (s1.W * s1.H)), .bool false, .bool false, .bool false, .pointer (some ⟨b13, 2, none⟩), .slice A2 s1.Bias.length c3, .bool false, .bool false, .pointer (some ⟨b13, 3, none⟩), .slice A5 s1.Dark.length c6, .bool false, .bool false, .bool false, .pointer (some ⟨b13, 4, none⟩), .slice A8 s1.Flat.length c9, .bool false, .bool false, .bool true, .pointer (some ⟨b13, 5, none⟩), .int .i64 s1.Full, .bool true, .bool true, undef, undef, undef, .bool true, .bool true, undef, undef, undef, .bool true, .bool true, undef, undef, undef, .bool true, .bool true, undef, undef, undef, .bool true, .bool true, undef, undef, undef, .bool true], []⟩) (by kernel_rfl) ?_
                    refine wpList_nil ?_
                    refine hK80 _ _ ?_
                    refine condT (by kernel_rfl) ?_
                    refine wp_seq_k (fun K82 hK83 => ?_)
                    refine wp_region_lit ?_
                    refine seqS1 (a' := ⟨#[.agg #[.int .i64 s1.W, .int .i64 s1.H, .slice A2 s1.Bias.length c3, .slice A5 s1.Dark.length c6, .slice A8 s1.Flat.length c9, .int .i64 s1.Full, .int .i64 s1.Gain, .int .i64 s1.Noise], .pointer (some ⟨b13, 0, none⟩), .int .i64 4, .int .i64 (w64 (s1.W * s1.H)), .pointer (some ⟨b13, 0, none⟩), .int .i64 s1.W, .pointer (some ⟨b13, 1, none⟩), .int .i64 s1.H, .int .i64 (w64 (s1.W * s1.H)), .bool false, .pointer (some ⟨b13, 0, none⟩), .int .i64 s1.W, .pointer (some ⟨b13, 1, none⟩), .int .i64 s1.H, .int .i64 (mn s1.W s1.H), .bool false, .bool false, .pointer (some ⟨b13, 0, none⟩), .int .i64 s1.W, .pointer (some ⟨b13, 1, none⟩), .int .i64 s1.H, .int .i64 (mx s1.W s1.H), .bool false, .bool false, .bool false, .pointer (some ⟨b13, 2, none⟩), .slice A2 s1.Bias.length c3, .int .i64 (s1.Bias.length : Int), .int .i64 (w64 (s1.W * s1.H)), .bool false, .bool false, .pointer (some ⟨b13, 3, none⟩), .slice A5 s1.Dark.length c6, .int .i64 (s1.Dark.length : Int), .int .i64 (w64 (s1.W * s1.H)), .bool false, .bool false, .bool false, .pointer (some ⟨b13, 4, none⟩), .slice A8 s1.Flat.length c9, .int .i64 (s1.Flat.length : Int), .int .i64 (w64 (s1.W * s1.H)), .bool false, .bool false, .bool false, .pointer (some ⟨b13, 2, none⟩), .slice A2 s1.Bias.length c3, .bool false, .bool false, .pointer (some ⟨b13, 3, none⟩), .slice A5 s1.Dark.length c6, .bool false, .bool false, .bool false, .pointer (some ⟨b13, 4, none⟩), .slice A8 s1.Flat.length c9, .bool false, .bool false, .bool true, .pointer (some ⟨b13, 5, none⟩), .int .i64 s1.Full, .bool true, .bool true, undef, undef, undef, .bool true, .bool true, undef, undef, undef, .bool true, .bool true, undef, undef, undef, .bool true, .bool true, undef, undef, undef, .bool true, .bool true, undef, undef, undef, .bool true], []⟩) (by kernel_rfl) ?_
                    refine wpList_nil ?_
                    refine hK83 _ _ ?_
                    refine wp_ret ?_
                    refine hr24 _ _ ?_
                    refine hret _ _ ?_
                    refine ends_still (v := Value.int .i64 4) (by kernel_rfl) (by kernel_rfl) ?_
                    have HS110 := HS74.drop
                    injection h with h
                    subst h
                    exact ⟨f71, rfl, (L54.trans (L63.trans L72)), HS110⟩
                  · have c81 : ¬ (s1.Full < 1) := c81
                    refine seqRwI 61 (x := (decide (s1.Full < 1))) (v := false) (by kernel_rfl) (decide_eq_false c81) ?_
                    refine seqRwI 62 (x := (decide (s1.Full < 1))) (v := false) (by kernel_rfl) (decide_eq_false c81) ?_
                    refine seqL1 (by kernel_rfl) ?_
                    refine seqG (by kernel_rfl) (does_run (run_load rfl Try.underlying22 rfl (by kernel_rfl : _ = Value.pointer (some ⟨b13, 5, none⟩)) (HS74.cell 5)) ?_)
                    refine seqS3 (a' := ⟨#[.agg #[.int .i64 s1.W, .int .i64 s1.H, .slice A2 s1.Bias.length c3, .slice A5 s1.Dark.length c6, .slice A8 s1.Flat.length c9, .int .i64 s1.Full, .int .i64 s1.Gain, .int .i64 s1.Noise], .pointer (some ⟨b13, 0, none⟩), .int .i64 0, .int .i64 (w64 (s1.W * s1.H)), .pointer (some ⟨b13, 0, none⟩), .int .i64 s1.W, .pointer (some ⟨b13, 1, none⟩), .int .i64 s1.H, .int .i64 (w64 (s1.W * s1.H)), .bool false, .pointer (some ⟨b13, 0, none⟩), .int .i64 s1.W, .pointer (some ⟨b13, 1, none⟩), .int .i64 s1.H, .int .i64 (mn s1.W s1.H), .bool false, .bool false, .pointer (some ⟨b13, 0, none⟩), .int .i64 s1.W, .pointer (some ⟨b13, 1, none⟩), .int .i64 s1.H, .int .i64 (mx s1.W s1.H), .bool false, .bool false, .bool false, .pointer (some ⟨b13, 2, none⟩), .slice A2 s1.Bias.length c3, .int .i64 (s1.Bias.length : Int), .int .i64 (w64 (s1.W * s1.H)), .bool false, .bool false, .pointer (some ⟨b13, 3, none⟩), .slice A5 s1.Dark.length c6, .int .i64 (s1.Dark.length : Int), .int .i64 (w64 (s1.W * s1.H)), .bool false, .bool false, .bool false, .pointer (some ⟨b13, 4, none⟩), .slice A8 s1.Flat.length c9, .int .i64 (s1.Flat.length : Int), .int .i64 (w64 (s1.W * s1.H)), .bool false, .bool false, .bool false, .pointer (some ⟨b13, 2, none⟩), .slice A2 s1.Bias.length c3, .bool false, .bool false, .pointer (some ⟨b13, 3, none⟩), .slice A5 s1.Dark.length c6, .bool false, .bool false, .bool false, .pointer (some ⟨b13, 4, none⟩), .slice A8 s1.Flat.length c9, .bool false, .bool false, undef, .pointer (some ⟨b13, 5, none⟩), .int .i64 s1.Full, .bool false, .bool false, .pointer (some ⟨b13, 5, none⟩), .int .i64 s1.Full, .bool (decide (s1.Full > 1048576)), .bool (decide (s1.Full > 1048576)), .bool (decide (s1.Full > 1048576)), undef, undef, undef, undef, undef, undef, undef, undef, undef, undef, undef, undef, undef, undef, undef, undef, undef, undef, undef], []⟩) (by kernel_rfl) ?_
                    have hq_ := ite_some h; clear h; rcases hq_ with ⟨c84, h⟩ | ⟨c84, h⟩
                    · have c84 : s1.Full > 1048576 := c84
                      refine seqRwI 65 (x := (decide (s1.Full > 1048576))) (v := true) (by kernel_rfl) (decide_eq_true c84) ?_
                      refine seqRwI 66 (x := (decide (s1.Full > 1048576))) (v := true) (by kernel_rfl) (decide_eq_true c84) ?_
                      refine seqRwI 67 (x := (decide (s1.Full > 1048576))) (v := true) (by kernel_rfl) (decide_eq_true c84) ?_
                      refine seqS20 (a' := ⟨#[.agg #[.int .i64 s1.W, .int .i64 s1.H, .slice A2 s1.Bias.length c3, .slice A5 s1.Dark.length c6, .slice A8 s1.Flat.length c9, .int .i64 s1.Full, .int .i64 s1.Gain, .int .i64 s1.Noise], .pointer (some ⟨b13, 0, none⟩), .int .i64 0, .int .i64 (w64 (s1.W * s1.H)), .pointer (some ⟨b13, 0, none⟩), .int .i64 s1.W, .pointer (some ⟨b13, 1, none⟩), .int .i64 s1.H, .int .i64 (w64 (s1.W * s1.H)), .bool false, .pointer (some ⟨b13, 0, none⟩), .int .i64 s1.W, .pointer (some ⟨b13, 1, none⟩), .int .i64 s1.H, .int .i64 (mn s1.W s1.H), .bool false, .bool false, .pointer (some ⟨b13, 0, none⟩), .int .i64 s1.W, .pointer (some ⟨b13, 1, none⟩), .int .i64 s1.H, .int .i64 (mx s1.W s1.H), .bool false, .bool false, .bool false, .pointer (some ⟨b13, 2, none⟩), .slice A2 s1.Bias.length c3, .int .i64 (s1.Bias.length : Int), .int .i64 (w64 (s1.W * s1.H)), .bool false, .bool false, .pointer (some ⟨b13, 3, none⟩), .slice A5 s1.Dark.length c6, .int .i64 (s1.Dark.length : Int), .int .i64 (w64 (s1.W * s1.H)), .bool false, .bool false, .bool false, .pointer (some ⟨b13, 4, none⟩), .slice A8 s1.Flat.length c9, .int .i64 (s1.Flat.length : Int), .int .i64 (w64 (s1.W * s1.H)), .bool false, .bool false, .bool false, .pointer (some ⟨b13, 2, none⟩), .slice A2 s1.Bias.length c3, .bool false, .bool false, .pointer (some ⟨b13, 3, none⟩), .slice A5 s1.Dark.length c6, .bool false, .bool false, .bool false, .pointer (some ⟨b13, 4, none⟩), .slice A8 s1.Flat.length c9, .bool false, .bool false, .bool true, .pointer (some ⟨b13, 5, none⟩), .int .i64 s1.Full, .bool false, .bool false, .pointer (some ⟨b13, 5, none⟩), .int .i64 s1.Full, .bool true, .bool true, .bool true, undef, undef, undef, .bool true, .bool true, undef, undef, undef, .bool true, .bool true, undef, undef, undef, .bool true, .bool true, undef, undef, undef, .bool true], []⟩) (by kernel_rfl) ?_
                      refine wpList_nil ?_
                      refine hK80 _ _ ?_
                      refine condT (by kernel_rfl) ?_
                      refine wp_seq_k (fun K85 hK86 => ?_)
                      refine wp_region_lit ?_
                      refine seqS1 (a' := ⟨#[.agg #[.int .i64 s1.W, .int .i64 s1.H, .slice A2 s1.Bias.length c3, .slice A5 s1.Dark.length c6, .slice A8 s1.Flat.length c9, .int .i64 s1.Full, .int .i64 s1.Gain, .int .i64 s1.Noise], .pointer (some ⟨b13, 0, none⟩), .int .i64 4, .int .i64 (w64 (s1.W * s1.H)), .pointer (some ⟨b13, 0, none⟩), .int .i64 s1.W, .pointer (some ⟨b13, 1, none⟩), .int .i64 s1.H, .int .i64 (w64 (s1.W * s1.H)), .bool false, .pointer (some ⟨b13, 0, none⟩), .int .i64 s1.W, .pointer (some ⟨b13, 1, none⟩), .int .i64 s1.H, .int .i64 (mn s1.W s1.H), .bool false, .bool false, .pointer (some ⟨b13, 0, none⟩), .int .i64 s1.W, .pointer (some ⟨b13, 1, none⟩), .int .i64 s1.H, .int .i64 (mx s1.W s1.H), .bool false, .bool false, .bool false, .pointer (some ⟨b13, 2, none⟩), .slice A2 s1.Bias.length c3, .int .i64 (s1.Bias.length : Int), .int .i64 (w64 (s1.W * s1.H)), .bool false, .bool false, .pointer (some ⟨b13, 3, none⟩), .slice A5 s1.Dark.length c6, .int .i64 (s1.Dark.length : Int), .int .i64 (w64 (s1.W * s1.H)), .bool false, .bool false, .bool false, .pointer (some ⟨b13, 4, none⟩), .slice A8 s1.Flat.length c9, .int .i64 (s1.Flat.length : Int), .int .i64 (w64 (s1.W * s1.H)), .bool false, .bool false, .bool false, .pointer (some ⟨b13, 2, none⟩), .slice A2 s1.Bias.length c3, .bool false, .bool false, .pointer (some ⟨b13, 3, none⟩), .slice A5 s1.Dark.length c6, .bool false, .bool false, .bool false, .pointer (some ⟨b13, 4, none⟩), .slice A8 s1.Flat.length c9, .bool false, .bool false, .bool true, .pointer (some ⟨b13, 5, none⟩), .int .i64 s1.Full, .bool false, .bool false, .pointer (some ⟨b13, 5, none⟩), .int .i64 s1.Full, .bool true, .bool true, .bool true, undef, undef, undef, .bool true, .bool true, undef, undef, undef, .bool true, .bool true, undef, undef, undef, .bool true, .bool true, undef, undef, undef, .bool true], []⟩) (by kernel_rfl) ?_
                      refine wpList_nil ?_
                      refine hK86 _ _ ?_
                      refine wp_ret ?_
                      refine hr24 _ _ ?_
                      refine hret _ _ ?_
                      refine ends_still (v := Value.int .i64 4) (by kernel_rfl) (by kernel_rfl) ?_
                      have HS111 := HS74.drop
                      injection h with h
                      subst h
                      exact ⟨f71, rfl, (L54.trans (L63.trans L72)), HS111⟩
                    · have c84 : ¬ (s1.Full > 1048576) := c84
                      refine seqRwI 65 (x := (decide (s1.Full > 1048576))) (v := false) (by kernel_rfl) (decide_eq_false c84) ?_
                      refine seqRwI 66 (x := (decide (s1.Full > 1048576))) (v := false) (by kernel_rfl) (decide_eq_false c84) ?_
                      refine seqRwI 67 (x := (decide (s1.Full > 1048576))) (v := false) (by kernel_rfl) (decide_eq_false c84) ?_
                      refine seqL1 (by kernel_rfl) ?_
                      refine seqG (by kernel_rfl) (does_run (run_load rfl Try.underlying22 rfl (by kernel_rfl : _ = Value.pointer (some ⟨b13, 6, none⟩)) (HS74.cell 6)) ?_)
                      refine seqS3 (a' := ⟨#[.agg #[.int .i64 s1.W, .int .i64 s1.H, .slice A2 s1.Bias.length c3, .slice A5 s1.Dark.length c6, .slice A8 s1.Flat.length c9, .int .i64 s1.Full, .int .i64 s1.Gain, .int .i64 s1.Noise], .pointer (some ⟨b13, 0, none⟩), .int .i64 0, .int .i64 (w64 (s1.W * s1.H)), .pointer (some ⟨b13, 0, none⟩), .int .i64 s1.W, .pointer (some ⟨b13, 1, none⟩), .int .i64 s1.H, .int .i64 (w64 (s1.W * s1.H)), .bool false, .pointer (some ⟨b13, 0, none⟩), .int .i64 s1.W, .pointer (some ⟨b13, 1, none⟩), .int .i64 s1.H, .int .i64 (mn s1.W s1.H), .bool false, .bool false, .pointer (some ⟨b13, 0, none⟩), .int .i64 s1.W, .pointer (some ⟨b13, 1, none⟩), .int .i64 s1.H, .int .i64 (mx s1.W s1.H), .bool false, .bool false, .bool false, .pointer (some ⟨b13, 2, none⟩), .slice A2 s1.Bias.length c3, .int .i64 (s1.Bias.length : Int), .int .i64 (w64 (s1.W * s1.H)), .bool false, .bool false, .pointer (some ⟨b13, 3, none⟩), .slice A5 s1.Dark.length c6, .int .i64 (s1.Dark.length : Int), .int .i64 (w64 (s1.W * s1.H)), .bool false, .bool false, .bool false, .pointer (some ⟨b13, 4, none⟩), .slice A8 s1.Flat.length c9, .int .i64 (s1.Flat.length : Int), .int .i64 (w64 (s1.W * s1.H)), .bool false, .bool false, .bool false, .pointer (some ⟨b13, 2, none⟩), .slice A2 s1.Bias.length c3, .bool false, .bool false, .pointer (some ⟨b13, 3, none⟩), .slice A5 s1.Dark.length c6, .bool false, .bool false, .bool false, .pointer (some ⟨b13, 4, none⟩), .slice A8 s1.Flat.length c9, .bool false, .bool false, undef, .pointer (some ⟨b13, 5, none⟩), .int .i64 s1.Full, .bool false, .bool false, .pointer (some ⟨b13, 5, none⟩), .int .i64 s1.Full, .bool false, .bool false, .bool false, .pointer (some ⟨b13, 6, none⟩), .int .i64 s1.Gain, .bool (decide (s1.Gain < 1)), .bool (decide (s1.Gain < 1)), .bool (decide (s1.Gain < 1)), undef, undef, undef, undef, undef, undef, undef, undef, undef, undef, undef, undef, undef, undef], []⟩) (by kernel_rfl) ?_
                      have hq_ := ite_some h; clear h; rcases hq_ with ⟨c87, h⟩ | ⟨c87, h⟩
                      · have c87 : s1.Gain < 1 := c87
                        refine seqRwI 70 (x := (decide (s1.Gain < 1))) (v := true) (by kernel_rfl) (decide_eq_true c87) ?_
                        refine seqRwI 71 (x := (decide (s1.Gain < 1))) (v := true) (by kernel_rfl) (decide_eq_true c87) ?_
                        refine seqRwI 72 (x := (decide (s1.Gain < 1))) (v := true) (by kernel_rfl) (decide_eq_true c87) ?_
                        refine seqS15 (a' := ⟨#[.agg #[.int .i64 s1.W, .int .i64 s1.H, .slice A2 s1.Bias.length c3, .slice A5 s1.Dark.length c6, .slice A8 s1.Flat.length c9, .int .i64 s1.Full, .int .i64 s1.Gain, .int .i64 s1.Noise], .pointer (some ⟨b13, 0, none⟩), .int .i64 0, .int .i64 (w64 (s1.W * s1.H)), .pointer (some ⟨b13, 0, none⟩), .int .i64 s1.W, .pointer (some ⟨b13, 1, none⟩), .int .i64 s1.H, .int .i64 (w64 (s1.W * s1.H)), .bool false, .pointer (some ⟨b13, 0, none⟩), .int .i64 s1.W, .pointer (some ⟨b13, 1, none⟩), .int .i64 s1.H, .int .i64 (mn s1.W s1.H), .bool false, .bool false, .pointer (some ⟨b13, 0, none⟩), .int .i64 s1.W, .pointer (some ⟨b13, 1, none⟩), .int .i64 s1.H, .int .i64 (mx s1.W s1.H), .bool false, .bool false, .bool false, .pointer (some ⟨b13, 2, none⟩), .slice A2 s1.Bias.length c3, .int .i64 (s1.Bias.length : Int), .int .i64 (w64 (s1.W * s1.H)), .bool false, .bool false, .pointer (some ⟨b13, 3, none⟩), .slice A5 s1.Dark.length c6, .int .i64 (s1.Dark.length : Int), .int .i64 (w64 (s1.W * s1.H)), .bool false, .bool false, .bool false, .pointer (some ⟨b13, 4, none⟩), .slice A8 s1.Flat.length c9, .int .i64 (s1.Flat.length : Int), .int .i64 (w64 (s1.W * s1.H)), .bool false, .bool false, .bool false, .pointer (some ⟨b13, 2, none⟩), .slice A2 s1.Bias.length c3, .bool false, .bool false, .pointer (some ⟨b13, 3, none⟩), .slice A5 s1.Dark.length c6, .bool false, .bool false, .bool false, .pointer (some ⟨b13, 4, none⟩), .slice A8 s1.Flat.length c9, .bool false, .bool false, .bool true, .pointer (some ⟨b13, 5, none⟩), .int .i64 s1.Full, .bool false, .bool false, .pointer (some ⟨b13, 5, none⟩), .int .i64 s1.Full, .bool false, .bool false, .bool false, .pointer (some ⟨b13, 6, none⟩), .int .i64 s1.Gain, .bool true, .bool true, .bool true, undef, undef, undef, .bool true, .bool true, undef, undef, undef, .bool true, .bool true, undef, undef, undef, .bool true], []⟩) (by kernel_rfl) ?_
                        refine wpList_nil ?_
                        refine hK80 _ _ ?_
                        refine condT (by kernel_rfl) ?_
                        refine wp_seq_k (fun K88 hK89 => ?_)
                        refine wp_region_lit ?_
                        refine seqS1 (a' := ⟨#[.agg #[.int .i64 s1.W, .int .i64 s1.H, .slice A2 s1.Bias.length c3, .slice A5 s1.Dark.length c6, .slice A8 s1.Flat.length c9, .int .i64 s1.Full, .int .i64 s1.Gain, .int .i64 s1.Noise], .pointer (some ⟨b13, 0, none⟩), .int .i64 4, .int .i64 (w64 (s1.W * s1.H)), .pointer (some ⟨b13, 0, none⟩), .int .i64 s1.W, .pointer (some ⟨b13, 1, none⟩), .int .i64 s1.H, .int .i64 (w64 (s1.W * s1.H)), .bool false, .pointer (some ⟨b13, 0, none⟩), .int .i64 s1.W, .pointer (some ⟨b13, 1, none⟩), .int .i64 s1.H, .int .i64 (mn s1.W s1.H), .bool false, .bool false, .pointer (some ⟨b13, 0, none⟩), .int .i64 s1.W, .pointer (some ⟨b13, 1, none⟩), .int .i64 s1.H, .int .i64 (mx s1.W s1.H), .bool false, .bool false, .bool false, .pointer (some ⟨b13, 2, none⟩), .slice A2 s1.Bias.length c3, .int .i64 (s1.Bias.length : Int), .int .i64 (w64 (s1.W * s1.H)), .bool false, .bool false, .pointer (some ⟨b13, 3, none⟩), .slice A5 s1.Dark.length c6, .int .i64 (s1.Dark.length : Int), .int .i64 (w64 (s1.W * s1.H)), .bool false, .bool false, .bool false, .pointer (some ⟨b13, 4, none⟩), .slice A8 s1.Flat.length c9, .int .i64 (s1.Flat.length : Int), .int .i64 (w64 (s1.W * s1.H)), .bool false, .bool false, .bool false, .pointer (some ⟨b13, 2, none⟩), .slice A2 s1.Bias.length c3, .bool false, .bool false, .pointer (some ⟨b13, 3, none⟩), .slice A5 s1.Dark.length c6, .bool false, .bool false, .bool false, .pointer (some ⟨b13, 4, none⟩), .slice A8 s1.Flat.length c9, .bool false, .bool false, .bool true, .pointer (some ⟨b13, 5, none⟩), .int .i64 s1.Full, .bool false, .bool false, .pointer (some ⟨b13, 5, none⟩), .int .i64 s1.Full, .bool false, .bool false, .bool false, .pointer (some ⟨b13, 6, none⟩), .int .i64 s1.Gain, .bool true, .bool true, .bool true, undef, undef, undef, .bool true, .bool true, undef, undef, undef, .bool true, .bool true, undef, undef, undef, .bool true], []⟩) (by kernel_rfl) ?_
                        refine wpList_nil ?_
                        refine hK89 _ _ ?_
                        refine wp_ret ?_
                        refine hr24 _ _ ?_
                        refine hret _ _ ?_
                        refine ends_still (v := Value.int .i64 4) (by kernel_rfl) (by kernel_rfl) ?_
                        have HS112 := HS74.drop
                        injection h with h
                        subst h
                        exact ⟨f71, rfl, (L54.trans (L63.trans L72)), HS112⟩
                      · have c87 : ¬ (s1.Gain < 1) := c87
                        refine seqRwI 70 (x := (decide (s1.Gain < 1))) (v := false) (by kernel_rfl) (decide_eq_false c87) ?_
                        refine seqRwI 71 (x := (decide (s1.Gain < 1))) (v := false) (by kernel_rfl) (decide_eq_false c87) ?_
                        refine seqRwI 72 (x := (decide (s1.Gain < 1))) (v := false) (by kernel_rfl) (decide_eq_false c87) ?_
                        refine seqL1 (by kernel_rfl) ?_
                        refine seqG (by kernel_rfl) (does_run (run_load rfl Try.underlying22 rfl (by kernel_rfl : _ = Value.pointer (some ⟨b13, 6, none⟩)) (HS74.cell 6)) ?_)
                        refine seqS3 (a' := ⟨#[.agg #[.int .i64 s1.W, .int .i64 s1.H, .slice A2 s1.Bias.length c3, .slice A5 s1.Dark.length c6, .slice A8 s1.Flat.length c9, .int .i64 s1.Full, .int .i64 s1.Gain, .int .i64 s1.Noise], .pointer (some ⟨b13, 0, none⟩), .int .i64 0, .int .i64 (w64 (s1.W * s1.H)), .pointer (some ⟨b13, 0, none⟩), .int .i64 s1.W, .pointer (some ⟨b13, 1, none⟩), .int .i64 s1.H, .int .i64 (w64 (s1.W * s1.H)), .bool false, .pointer (some ⟨b13, 0, none⟩), .int .i64 s1.W, .pointer (some ⟨b13, 1, none⟩), .int .i64 s1.H, .int .i64 (mn s1.W s1.H), .bool false, .bool false, .pointer (some ⟨b13, 0, none⟩), .int .i64 s1.W, .pointer (some ⟨b13, 1, none⟩), .int .i64 s1.H, .int .i64 (mx s1.W s1.H), .bool false, .bool false, .bool false, .pointer (some ⟨b13, 2, none⟩), .slice A2 s1.Bias.length c3, .int .i64 (s1.Bias.length : Int), .int .i64 (w64 (s1.W * s1.H)), .bool false, .bool false, .pointer (some ⟨b13, 3, none⟩), .slice A5 s1.Dark.length c6, .int .i64 (s1.Dark.length : Int), .int .i64 (w64 (s1.W * s1.H)), .bool false, .bool false, .bool false, .pointer (some ⟨b13, 4, none⟩), .slice A8 s1.Flat.length c9, .int .i64 (s1.Flat.length : Int), .int .i64 (w64 (s1.W * s1.H)), .bool false, .bool false, .bool false, .pointer (some ⟨b13, 2, none⟩), .slice A2 s1.Bias.length c3, .bool false, .bool false, .pointer (some ⟨b13, 3, none⟩), .slice A5 s1.Dark.length c6, .bool false, .bool false, .bool false, .pointer (some ⟨b13, 4, none⟩), .slice A8 s1.Flat.length c9, .bool false, .bool false, undef, .pointer (some ⟨b13, 5, none⟩), .int .i64 s1.Full, .bool false, .bool false, .pointer (some ⟨b13, 5, none⟩), .int .i64 s1.Full, .bool false, .bool false, .bool false, .pointer (some ⟨b13, 6, none⟩), .int .i64 s1.Gain, .bool false, .bool false, .bool false, .pointer (some ⟨b13, 6, none⟩), .int .i64 s1.Gain, .bool (decide (s1.Gain > 64)), .bool (decide (s1.Gain > 64)), .bool (decide (s1.Gain > 64)), undef, undef, undef, undef, undef, undef, undef, undef, undef], []⟩) (by kernel_rfl) ?_
                        have hq_ := ite_some h; clear h; rcases hq_ with ⟨c90, h⟩ | ⟨c90, h⟩
                        · have c90 : s1.Gain > 64 := c90
                          refine seqRwI 75 (x := (decide (s1.Gain > 64))) (v := true) (by kernel_rfl) (decide_eq_true c90) ?_
                          refine seqRwI 76 (x := (decide (s1.Gain > 64))) (v := true) (by kernel_rfl) (decide_eq_true c90) ?_
                          refine seqRwI 77 (x := (decide (s1.Gain > 64))) (v := true) (by kernel_rfl) (decide_eq_true c90) ?_
                          refine seqS10 (a' := ⟨#[.agg #[.int .i64 s1.W, .int .i64 s1.H, .slice A2 s1.Bias.length c3, .slice A5 s1.Dark.length c6, .slice A8 s1.Flat.length c9, .int .i64 s1.Full, .int .i64 s1.Gain, .int .i64 s1.Noise], .pointer (some ⟨b13, 0, none⟩), .int .i64 0, .int .i64 (w64 (s1.W * s1.H)), .pointer (some ⟨b13, 0, none⟩), .int .i64 s1.W, .pointer (some ⟨b13, 1, none⟩), .int .i64 s1.H, .int .i64 (w64 (s1.W * s1.H)), .bool false, .pointer (some ⟨b13, 0, none⟩), .int .i64 s1.W, .pointer (some ⟨b13, 1, none⟩), .int .i64 s1.H, .int .i64 (mn s1.W s1.H), .bool false, .bool false, .pointer (some ⟨b13, 0, none⟩), .int .i64 s1.W, .pointer (some ⟨b13, 1, none⟩), .int .i64 s1.H, .int .i64 (mx s1.W s1.H), .bool false, .bool false, .bool false, .pointer (some ⟨b13, 2, none⟩), .slice A2 s1.Bias.length c3, .int .i64 (s1.Bias.length : Int), .int .i64 (w64 (s1.W * s1.H)), .bool false, .bool false, .pointer (some ⟨b13, 3, none⟩), .slice A5 s1.Dark.length c6, .int .i64 (s1.Dark.length : Int), .int .i64 (w64 (s1.W * s1.H)), .bool false, .bool false, .bool false, .pointer (some ⟨b13, 4, none⟩), .slice A8 s1.Flat.length c9, .int .i64 (s1.Flat.length : Int), .int .i64 (w64 (s1.W * s1.H)), .bool false, .bool false, .bool false, .pointer (some ⟨b13, 2, none⟩), .slice A2 s1.Bias.length c3, .bool false, .bool false, .pointer (some ⟨b13, 3, none⟩), .slice A5 s1.Dark.length c6, .bool false, .bool false, .bool false, .pointer (some ⟨b13, 4, none⟩), .slice A8 s1.Flat.length c9, .bool false, .bool false, .bool true, .pointer (some ⟨b13, 5, none⟩), .int .i64 s1.Full, .bool false, .bool false, .pointer (some ⟨b13, 5, none⟩), .int .i64 s1.Full, .bool false, .bool false, .bool false, .pointer (some ⟨b13, 6, none⟩), .int .i64 s1.Gain, .bool false, .bool false, .bool false, .pointer (some ⟨b13, 6, none⟩), .int .i64 s1.Gain, .bool true, .bool true, .bool true, undef, undef, undef, .bool true, .bool true, undef, undef, undef, .bool true], []⟩) (by kernel_rfl) ?_
                          refine wpList_nil ?_
                          refine hK80 _ _ ?_
                          refine condT (by kernel_rfl) ?_
                          refine wp_seq_k (fun K91 hK92 => ?_)
                          refine wp_region_lit ?_
                          refine seqS1 (a' := ⟨#[.agg #[.int .i64 s1.W, .int .i64 s1.H, .slice A2 s1.Bias.length c3, .slice A5 s1.Dark.length c6, .slice A8 s1.Flat.length c9, .int .i64 s1.Full, .int .i64 s1.Gain, .int .i64 s1.Noise], .pointer (some ⟨b13, 0, none⟩), .int .i64 4, .int .i64 (w64 (s1.W * s1.H)), .pointer (some ⟨b13, 0, none⟩), .int .i64 s1.W, .pointer (some ⟨b13, 1, none⟩), .int .i64 s1.H, .int .i64 (w64 (s1.W * s1.H)), .bool false, .pointer (some ⟨b13, 0, none⟩), .int .i64 s1.W, .pointer (some ⟨b13, 1, none⟩), .int .i64 s1.H, .int .i64 (mn s1.W s1.H), .bool false, .bool false, .pointer (some ⟨b13, 0, none⟩), .int .i64 s1.W, .pointer (some ⟨b13, 1, none⟩), .int .i64 s1.H, .int .i64 (mx s1.W s1.H), .bool false, .bool false, .bool false, .pointer (some ⟨b13, 2, none⟩), .slice A2 s1.Bias.length c3, .int .i64 (s1.Bias.length : Int), .int .i64 (w64 (s1.W * s1.H)), .bool false, .bool false, .pointer (some ⟨b13, 3, none⟩), .slice A5 s1.Dark.length c6, .int .i64 (s1.Dark.length : Int), .int .i64 (w64 (s1.W * s1.H)), .bool false, .bool false, .bool false, .pointer (some ⟨b13, 4, none⟩), .slice A8 s1.Flat.length c9, .int .i64 (s1.Flat.length : Int), .int .i64 (w64 (s1.W * s1.H)), .bool false, .bool false, .bool false, .pointer (some ⟨b13, 2, none⟩), .slice A2 s1.Bias.length c3, .bool false, .bool false, .pointer (some ⟨b13, 3, none⟩), .slice A5 s1.Dark.length c6, .bool false, .bool false, .bool false, .pointer (some ⟨b13, 4, none⟩), .slice A8 s1.Flat.length c9, .bool false, .bool false, .bool true, .pointer (some ⟨b13, 5, none⟩), .int .i64 s1.Full, .bool false, .bool false, .pointer (some ⟨b13, 5, none⟩), .int .i64 s1.Full, .bool false, .bool false, .bool false, .pointer (some ⟨b13, 6, none⟩), .int .i64 s1.Gain, .bool false, .bool false, .bool false, .pointer (some ⟨b13, 6, none⟩), .int .i64 s1.Gain, .bool true, .bool true, .bool true, undef, undef, undef, .bool true, .bool true, undef, undef, undef, .bool true], []⟩) (by kernel_rfl) ?_
                          refine wpList_nil ?_
                          refine hK92 _ _ ?_
                          refine wp_ret ?_
                          refine hr24 _ _ ?_
                          refine hret _ _ ?_
                          refine ends_still (v := Value.int .i64 4) (by kernel_rfl) (by kernel_rfl) ?_
                          have HS113 := HS74.drop
                          injection h with h
                          subst h
                          exact ⟨f71, rfl, (L54.trans (L63.trans L72)), HS113⟩
                        · have c90 : ¬ (s1.Gain > 64) := c90
                          refine seqRwI 75 (x := (decide (s1.Gain > 64))) (v := false) (by kernel_rfl) (decide_eq_false c90) ?_
                          refine seqRwI 76 (x := (decide (s1.Gain > 64))) (v := false) (by kernel_rfl) (decide_eq_false c90) ?_
                          refine seqRwI 77 (x := (decide (s1.Gain > 64))) (v := false) (by kernel_rfl) (decide_eq_false c90) ?_
                          refine seqL1 (by kernel_rfl) ?_
                          refine seqG (by kernel_rfl) (does_run (run_load rfl Try.underlying3 rfl (by kernel_rfl : _ = Value.pointer (some ⟨b13, 7, none⟩)) (HS74.cell 7)) ?_)
                          refine seqS3 (a' := ⟨#[.agg #[.int .i64 s1.W, .int .i64 s1.H, .slice A2 s1.Bias.length c3, .slice A5 s1.Dark.length c6, .slice A8 s1.Flat.length c9, .int .i64 s1.Full, .int .i64 s1.Gain, .int .i64 s1.Noise], .pointer (some ⟨b13, 0, none⟩), .int .i64 0, .int .i64 (w64 (s1.W * s1.H)), .pointer (some ⟨b13, 0, none⟩), .int .i64 s1.W, .pointer (some ⟨b13, 1, none⟩), .int .i64 s1.H, .int .i64 (w64 (s1.W * s1.H)), .bool false, .pointer (some ⟨b13, 0, none⟩), .int .i64 s1.W, .pointer (some ⟨b13, 1, none⟩), .int .i64 s1.H, .int .i64 (mn s1.W s1.H), .bool false, .bool false, .pointer (some ⟨b13, 0, none⟩), .int .i64 s1.W, .pointer (some ⟨b13, 1, none⟩), .int .i64 s1.H, .int .i64 (mx s1.W s1.H), .bool false, .bool false, .bool false, .pointer (some ⟨b13, 2, none⟩), .slice A2 s1.Bias.length c3, .int .i64 (s1.Bias.length : Int), .int .i64 (w64 (s1.W * s1.H)), .bool false, .bool false, .pointer (some ⟨b13, 3, none⟩), .slice A5 s1.Dark.length c6, .int .i64 (s1.Dark.length : Int), .int .i64 (w64 (s1.W * s1.H)), .bool false, .bool false, .bool false, .pointer (some ⟨b13, 4, none⟩), .slice A8 s1.Flat.length c9, .int .i64 (s1.Flat.length : Int), .int .i64 (w64 (s1.W * s1.H)), .bool false, .bool false, .bool false, .pointer (some ⟨b13, 2, none⟩), .slice A2 s1.Bias.length c3, .bool false, .bool false, .pointer (some ⟨b13, 3, none⟩), .slice A5 s1.Dark.length c6, .bool false, .bool false, .bool false, .pointer (some ⟨b13, 4, none⟩), .slice A8 s1.Flat.length c9, .bool false, .bool false, undef, .pointer (some ⟨b13, 5, none⟩), .int .i64 s1.Full, .bool false, .bool false, .pointer (some ⟨b13, 5, none⟩), .int .i64 s1.Full, .bool false, .bool false, .bool false, .pointer (some ⟨b13, 6, none⟩), .int .i64 s1.Gain, .bool false, .bool false, .bool false, .pointer (some ⟨b13, 6, none⟩), .int .i64 s1.Gain, .bool false, .bool false, .bool false, .pointer (some ⟨b13, 7, none⟩), .int .i64 s1.Noise, .bool (decide (s1.Noise < 0)), .bool (decide (s1.Noise < 0)), .bool (decide (s1.Noise < 0)), undef, undef, undef, undef], []⟩) (by kernel_rfl) ?_
                          have hq_ := ite_some h; clear h; rcases hq_ with ⟨c93, h⟩ | ⟨c93, h⟩
                          · have c93 : s1.Noise < 0 := c93
                            refine seqRwI 80 (x := (decide (s1.Noise < 0))) (v := true) (by kernel_rfl) (decide_eq_true c93) ?_
                            refine seqRwI 81 (x := (decide (s1.Noise < 0))) (v := true) (by kernel_rfl) (decide_eq_true c93) ?_
                            refine seqRwI 82 (x := (decide (s1.Noise < 0))) (v := true) (by kernel_rfl) (decide_eq_true c93) ?_
                            refine seqS5 (a' := ⟨#[.agg #[.int .i64 s1.W, .int .i64 s1.H, .slice A2 s1.Bias.length c3, .slice A5 s1.Dark.length c6, .slice A8 s1.Flat.length c9, .int .i64 s1.Full, .int .i64 s1.Gain, .int .i64 s1.Noise], .pointer (some ⟨b13, 0, none⟩), .int .i64 0, .int .i64 (w64 (s1.W * s1.H)), .pointer (some ⟨b13, 0, none⟩), .int .i64 s1.W, .pointer (some ⟨b13, 1, none⟩), .int .i64 s1.H, .int .i64 (w64 (s1.W * s1.H)), .bool false, .pointer (some ⟨b13, 0, none⟩), .int .i64 s1.W, .pointer (some ⟨b13, 1, none⟩), .int .i64 s1.H, .int .i64 (mn s1.W s1.H), .bool false, .bool false, .pointer (some ⟨b13, 0, none⟩), .int .i64 s1.W, .pointer (some ⟨b13, 1, none⟩), .int .i64 s1.H, .int .i64 (mx s1.W s1.H), .bool false, .bool false, .bool false, .pointer (some ⟨b13, 2, none⟩), .slice A2 s1.Bias.length c3, .int .i64 (s1.Bias.length : Int), .int .i64 (w64 (s1.W * s1.H)), .bool false, .bool false, .pointer (some ⟨b13, 3, none⟩), .slice A5 s1.Dark.length c6, .int .i64 (s1.Dark.length : Int), .int .i64 (w64 (s1.W * s1.H)), .bool false, .bool false, .bool false, .pointer (some ⟨b13, 4, none⟩), .slice A8 s1.Flat.length c9, .int .i64 (s1.Flat.length : Int), .int .i64 (w64 (s1.W * s1.H)), .bool false, .bool false, .bool false, .pointer (some ⟨b13, 2, none⟩), .slice A2 s1.Bias.length c3, .bool false, .bool false, .pointer (some ⟨b13, 3, none⟩), .slice A5 s1.Dark.length c6, .bool false, .bool false, .bool false, .pointer (some ⟨b13, 4, none⟩), .slice A8 s1.Flat.length c9, .bool false, .bool false, .bool true, .pointer (some ⟨b13, 5, none⟩), .int .i64 s1.Full, .bool false, .bool false, .pointer (some ⟨b13, 5, none⟩), .int .i64 s1.Full, .bool false, .bool false, .bool false, .pointer (some ⟨b13, 6, none⟩), .int .i64 s1.Gain, .bool false, .bool false, .bool false, .pointer (some ⟨b13, 6, none⟩), .int .i64 s1.Gain, .bool false, .bool false, .bool false, .pointer (some ⟨b13, 7, none⟩), .int .i64 s1.Noise, .bool true, .bool true, .bool true, undef, undef, undef, .bool true], []⟩) (by kernel_rfl) ?_
                            refine wpList_nil ?_
                            refine hK80 _ _ ?_
                            refine condT (by kernel_rfl) ?_
                            refine wp_seq_k (fun K94 hK95 => ?_)
                            refine wp_region_lit ?_
                            refine seqS1 (a' := ⟨#[.agg #[.int .i64 s1.W, .int .i64 s1.H, .slice A2 s1.Bias.length c3, .slice A5 s1.Dark.length c6, .slice A8 s1.Flat.length c9, .int .i64 s1.Full, .int .i64 s1.Gain, .int .i64 s1.Noise], .pointer (some ⟨b13, 0, none⟩), .int .i64 4, .int .i64 (w64 (s1.W * s1.H)), .pointer (some ⟨b13, 0, none⟩), .int .i64 s1.W, .pointer (some ⟨b13, 1, none⟩), .int .i64 s1.H, .int .i64 (w64 (s1.W * s1.H)), .bool false, .pointer (some ⟨b13, 0, none⟩), .int .i64 s1.W, .pointer (some ⟨b13, 1, none⟩), .int .i64 s1.H, .int .i64 (mn s1.W s1.H), .bool false, .bool false, .pointer (some ⟨b13, 0, none⟩), .int .i64 s1.W, .pointer (some ⟨b13, 1, none⟩), .int .i64 s1.H, .int .i64 (mx s1.W s1.H), .bool false, .bool false, .bool false, .pointer (some ⟨b13, 2, none⟩), .slice A2 s1.Bias.length c3, .int .i64 (s1.Bias.length : Int), .int .i64 (w64 (s1.W * s1.H)), .bool false, .bool false, .pointer (some ⟨b13, 3, none⟩), .slice A5 s1.Dark.length c6, .int .i64 (s1.Dark.length : Int), .int .i64 (w64 (s1.W * s1.H)), .bool false, .bool false, .bool false, .pointer (some ⟨b13, 4, none⟩), .slice A8 s1.Flat.length c9, .int .i64 (s1.Flat.length : Int), .int .i64 (w64 (s1.W * s1.H)), .bool false, .bool false, .bool false, .pointer (some ⟨b13, 2, none⟩), .slice A2 s1.Bias.length c3, .bool false, .bool false, .pointer (some ⟨b13, 3, none⟩), .slice A5 s1.Dark.length c6, .bool false, .bool false, .bool false, .pointer (some ⟨b13, 4, none⟩), .slice A8 s1.Flat.length c9, .bool false, .bool false, .bool true, .pointer (some ⟨b13, 5, none⟩), .int .i64 s1.Full, .bool false, .bool false, .pointer (some ⟨b13, 5, none⟩), .int .i64 s1.Full, .bool false, .bool false, .bool false, .pointer (some ⟨b13, 6, none⟩), .int .i64 s1.Gain, .bool false, .bool false, .bool false, .pointer (some ⟨b13, 6, none⟩), .int .i64 s1.Gain, .bool false, .bool false, .bool false, .pointer (some ⟨b13, 7, none⟩), .int .i64 s1.Noise, .bool true, .bool true, .bool true, undef, undef, undef, .bool true], []⟩) (by kernel_rfl) ?_
                            refine wpList_nil ?_
                            refine hK95 _ _ ?_
                            refine wp_ret ?_
                            refine hr24 _ _ ?_
                            refine hret _ _ ?_
                            refine ends_still (v := Value.int .i64 4) (by kernel_rfl) (by kernel_rfl) ?_
                            have HS114 := HS74.drop
                            injection h with h
                            subst h
                            exact ⟨f71, rfl, (L54.trans (L63.trans L72)), HS114⟩
                          · have c93 : ¬ (s1.Noise < 0) := c93
                            refine seqRwI 80 (x := (decide (s1.Noise < 0))) (v := false) (by kernel_rfl) (decide_eq_false c93) ?_
                            refine seqRwI 81 (x := (decide (s1.Noise < 0))) (v := false) (by kernel_rfl) (decide_eq_false c93) ?_
                            refine seqRwI 82 (x := (decide (s1.Noise < 0))) (v := false) (by kernel_rfl) (decide_eq_false c93) ?_
                            refine seqL1 (by kernel_rfl) ?_
                            refine seqG (by kernel_rfl) (does_run (run_load rfl Try.underlying3 rfl (by kernel_rfl : _ = Value.pointer (some ⟨b13, 7, none⟩)) (HS74.cell 7)) ?_)
                            refine seqS3 (a' := ⟨#[.agg #[.int .i64 s1.W, .int .i64 s1.H, .slice A2 s1.Bias.length c3, .slice A5 s1.Dark.length c6, .slice A8 s1.Flat.length c9, .int .i64 s1.Full, .int .i64 s1.Gain, .int .i64 s1.Noise], .pointer (some ⟨b13, 0, none⟩), .int .i64 0, .int .i64 (w64 (s1.W * s1.H)), .pointer (some ⟨b13, 0, none⟩), .int .i64 s1.W, .pointer (some ⟨b13, 1, none⟩), .int .i64 s1.H, .int .i64 (w64 (s1.W * s1.H)), .bool false, .pointer (some ⟨b13, 0, none⟩), .int .i64 s1.W, .pointer (some ⟨b13, 1, none⟩), .int .i64 s1.H, .int .i64 (mn s1.W s1.H), .bool false, .bool false, .pointer (some ⟨b13, 0, none⟩), .int .i64 s1.W, .pointer (some ⟨b13, 1, none⟩), .int .i64 s1.H, .int .i64 (mx s1.W s1.H), .bool false, .bool false, .bool false, .pointer (some ⟨b13, 2, none⟩), .slice A2 s1.Bias.length c3, .int .i64 (s1.Bias.length : Int), .int .i64 (w64 (s1.W * s1.H)), .bool false, .bool false, .pointer (some ⟨b13, 3, none⟩), .slice A5 s1.Dark.length c6, .int .i64 (s1.Dark.length : Int), .int .i64 (w64 (s1.W * s1.H)), .bool false, .bool false, .bool false, .pointer (some ⟨b13, 4, none⟩), .slice A8 s1.Flat.length c9, .int .i64 (s1.Flat.length : Int), .int .i64 (w64 (s1.W * s1.H)), .bool false, .bool false, .bool false, .pointer (some ⟨b13, 2, none⟩), .slice A2 s1.Bias.length c3, .bool false, .bool false, .pointer (some ⟨b13, 3, none⟩), .slice A5 s1.Dark.length c6, .bool false, .bool false, .bool false, .pointer (some ⟨b13, 4, none⟩), .slice A8 s1.Flat.length c9, .bool false, .bool false, .bool (decide (s1.Noise > 64)), .pointer (some ⟨b13, 5, none⟩), .int .i64 s1.Full, .bool false, .bool false, .pointer (some ⟨b13, 5, none⟩), .int .i64 s1.Full, .bool false, .bool false, .bool false, .pointer (some ⟨b13, 6, none⟩), .int .i64 s1.Gain, .bool false, .bool false, .bool false, .pointer (some ⟨b13, 6, none⟩), .int .i64 s1.Gain, .bool false, .bool false, .bool false, .pointer (some ⟨b13, 7, none⟩), .int .i64 s1.Noise, .bool false, .bool false, .bool false, .pointer (some ⟨b13, 7, none⟩), .int .i64 s1.Noise, .bool (decide (s1.Noise > 64)), .bool (decide (s1.Noise > 64))], []⟩) (by kernel_rfl) ?_
                            refine wpList_nil ?_
                            refine hK80 _ _ ?_
                            have hq_ := ite_some h; clear h; rcases hq_ with ⟨c97, h⟩ | ⟨c97, h⟩
                            · have c97 : s1.Noise > 64 := c97
                              refine wpRwI 58 (x := (decide (s1.Noise > 64))) (v := true) (by kernel_rfl) (decide_eq_true c97) ?_
                              refine wpRwI 85 (x := (decide (s1.Noise > 64))) (v := true) (by kernel_rfl) (decide_eq_true c97) ?_
                              refine wpRwI 86 (x := (decide (s1.Noise > 64))) (v := true) (by kernel_rfl) (decide_eq_true c97) ?_
                              refine condT (by kernel_rfl) ?_
                              refine wp_seq_k (fun K98 hK99 => ?_)
                              refine wp_region_lit ?_
                              refine seqS1 (a' := ⟨#[.agg #[.int .i64 s1.W, .int .i64 s1.H, .slice A2 s1.Bias.length c3, .slice A5 s1.Dark.length c6, .slice A8 s1.Flat.length c9, .int .i64 s1.Full, .int .i64 s1.Gain, .int .i64 s1.Noise], .pointer (some ⟨b13, 0, none⟩), .int .i64 4, .int .i64 (w64 (s1.W * s1.H)), .pointer (some ⟨b13, 0, none⟩), .int .i64 s1.W, .pointer (some ⟨b13, 1, none⟩), .int .i64 s1.H, .int .i64 (w64 (s1.W * s1.H)), .bool false, .pointer (some ⟨b13, 0, none⟩), .int .i64 s1.W, .pointer (some ⟨b13, 1, none⟩), .int .i64 s1.H, .int .i64 (mn s1.W s1.H), .bool false, .bool false, .pointer (some ⟨b13, 0, none⟩), .int .i64 s1.W, .pointer (some ⟨b13, 1, none⟩), .int .i64 s1.H, .int .i64 (mx s1.W s1.H), .bool false, .bool false, .bool false, .pointer (some ⟨b13, 2, none⟩), .slice A2 s1.Bias.length c3, .int .i64 (s1.Bias.length : Int), .int .i64 (w64 (s1.W * s1.H)), .bool false, .bool false, .pointer (some ⟨b13, 3, none⟩), .slice A5 s1.Dark.length c6, .int .i64 (s1.Dark.length : Int), .int .i64 (w64 (s1.W * s1.H)), .bool false, .bool false, .bool false, .pointer (some ⟨b13, 4, none⟩), .slice A8 s1.Flat.length c9, .int .i64 (s1.Flat.length : Int), .int .i64 (w64 (s1.W * s1.H)), .bool false, .bool false, .bool false, .pointer (some ⟨b13, 2, none⟩), .slice A2 s1.Bias.length c3, .bool false, .bool false, .pointer (some ⟨b13, 3, none⟩), .slice A5 s1.Dark.length c6, .bool false, .bool false, .bool false, .pointer (some ⟨b13, 4, none⟩), .slice A8 s1.Flat.length c9, .bool false, .bool false, .bool true, .pointer (some ⟨b13, 5, none⟩), .int .i64 s1.Full, .bool false, .bool false, .pointer (some ⟨b13, 5, none⟩), .int .i64 s1.Full, .bool false, .bool false, .bool false, .pointer (some ⟨b13, 6, none⟩), .int .i64 s1.Gain, .bool false, .bool false, .bool false, .pointer (some ⟨b13, 6, none⟩), .int .i64 s1.Gain, .bool false, .bool false, .bool false, .pointer (some ⟨b13, 7, none⟩), .int .i64 s1.Noise, .bool false, .bool false, .bool false, .pointer (some ⟨b13, 7, none⟩), .int .i64 s1.Noise, .bool true, .bool true], []⟩) (by kernel_rfl) ?_
                              refine wpList_nil ?_
                              refine hK99 _ _ ?_
                              refine wp_ret ?_
                              refine hr24 _ _ ?_
                              refine hret _ _ ?_
                              refine ends_still (v := Value.int .i64 4) (by kernel_rfl) (by kernel_rfl) ?_
                              have HS115 := HS74.drop
                              injection h with h
                              subst h
                              exact ⟨f71, rfl, (L54.trans (L63.trans L72)), HS115⟩
                            · have c97 : ¬ (s1.Noise > 64) := c97
                              refine wpRwI 58 (x := (decide (s1.Noise > 64))) (v := false) (by kernel_rfl) (decide_eq_false c97) ?_
                              refine wpRwI 85 (x := (decide (s1.Noise > 64))) (v := false) (by kernel_rfl) (decide_eq_false c97) ?_
                              refine wpRwI 86 (x := (decide (s1.Noise > 64))) (v := false) (by kernel_rfl) (decide_eq_false c97) ?_
                              refine condF (by kernel_rfl) ?_
                              refine wp_skip ?_
                              refine hn23 _ _ ?_
                              refine hK18 _ _ ?_
                              refine wp_seq_k (fun K100 hK101 => ?_)
                              refine wp_region_lit ?_
                              refine seqS1 (a' := ⟨#[.agg #[.int .i64 s1.W, .int .i64 s1.H, .slice A2 s1.Bias.length c3, .slice A5 s1.Dark.length c6, .slice A8 s1.Flat.length c9, .int .i64 s1.Full, .int .i64 s1.Gain, .int .i64 s1.Noise], .pointer (some ⟨b13, 0, none⟩), .int .i64 0, .int .i64 (w64 (s1.W * s1.H)), .pointer (some ⟨b13, 0, none⟩), .int .i64 s1.W, .pointer (some ⟨b13, 1, none⟩), .int .i64 s1.H, .int .i64 (w64 (s1.W * s1.H)), .bool false, .pointer (some ⟨b13, 0, none⟩), .int .i64 s1.W, .pointer (some ⟨b13, 1, none⟩), .int .i64 s1.H, .int .i64 (mn s1.W s1.H), .bool false, .bool false, .pointer (some ⟨b13, 0, none⟩), .int .i64 s1.W, .pointer (some ⟨b13, 1, none⟩), .int .i64 s1.H, .int .i64 (mx s1.W s1.H), .bool false, .bool false, .bool false, .pointer (some ⟨b13, 2, none⟩), .slice A2 s1.Bias.length c3, .int .i64 (s1.Bias.length : Int), .int .i64 (w64 (s1.W * s1.H)), .bool false, .bool false, .pointer (some ⟨b13, 3, none⟩), .slice A5 s1.Dark.length c6, .int .i64 (s1.Dark.length : Int), .int .i64 (w64 (s1.W * s1.H)), .bool false, .bool false, .bool false, .pointer (some ⟨b13, 4, none⟩), .slice A8 s1.Flat.length c9, .int .i64 (s1.Flat.length : Int), .int .i64 (w64 (s1.W * s1.H)), .bool false, .bool false, .bool false, .pointer (some ⟨b13, 2, none⟩), .slice A2 s1.Bias.length c3, .bool false, .bool false, .pointer (some ⟨b13, 3, none⟩), .slice A5 s1.Dark.length c6, .bool false, .bool false, .bool false, .pointer (some ⟨b13, 4, none⟩), .slice A8 s1.Flat.length c9, .bool false, .bool false, .bool false, .pointer (some ⟨b13, 5, none⟩), .int .i64 s1.Full, .bool false, .bool false, .pointer (some ⟨b13, 5, none⟩), .int .i64 s1.Full, .bool false, .bool false, .bool false, .pointer (some ⟨b13, 6, none⟩), .int .i64 s1.Gain, .bool false, .bool false, .bool false, .pointer (some ⟨b13, 6, none⟩), .int .i64 s1.Gain, .bool false, .bool false, .bool false, .pointer (some ⟨b13, 7, none⟩), .int .i64 s1.Noise, .bool false, .bool false, .bool false, .pointer (some ⟨b13, 7, none⟩), .int .i64 s1.Noise, .bool false, .bool false], []⟩) (by kernel_rfl) ?_
                              refine wpList_nil ?_
                              refine hK101 _ _ ?_
                              refine wp_ret ?_
                              refine hret _ _ ?_
                              refine ends_still (v := Value.int .i64 0) (by kernel_rfl) (by kernel_rfl) ?_
                              have HS116 := HS74.drop
                              injection h with h
                              subst h
                              exact ⟨f71, rfl, (L54.trans (L63.trans L72)), HS116⟩

set_option maxRecDepth 100000 in
set_option maxHeartbeats 4000000 in
theorem sensor_sized.calls (k : Nat) (A2 : Option Addr) (c3 : Nat) (A5 : Option Addr) (c6 : Nat) (A8 : Option Addr) (c9 : Nat) (s1 : S_Sensor) (n11 : Int) {t w : World} {f : FM} {H : List Seg} (HS : St t w f (H)) (HR4 : SlR (tInt .i64) f A2 c3 s1.Bias) (HR7 : SlR (tInt .i64) f A5 c6 s1.Dark) (HR10 : SlR (tInt .i64) f A8 c9 s1.Flat) (r1 : Int) (h : sensor_sized k s1 n11 = some r1) :
    Calls Try.prog 44 #[.agg #[.int .i64 s1.W, .int .i64 s1.H, .slice A2 s1.Bias.length c3, .slice A5 s1.Dark.length c6, .slice A8 s1.Flat.length c9, .int .i64 s1.Full, .int .i64 s1.Gain, .int .i64 s1.Noise], .int .i64 n11] w (fun e w' => ∃ (g : FM), e = .returned (Value.int .i64 r1) ∧ FM.le f g ∧ St t w' g (H)) := by
  unfold sensor_sized at h
  refine enter Try.func44 rfl (tm := #[.agg #[.int .i64 s1.W, .int .i64 s1.H, .slice A2 s1.Bias.length c3, .slice A5 s1.Dark.length c6, .slice A8 s1.Flat.length c9, .int .i64 s1.Full, .int .i64 s1.Gain, .int .i64 s1.Noise], .int .i64 n11, undef, undef, undef, undef, undef, undef, undef, undef, undef, undef, undef, undef, undef, undef, undef, undef]) (by kernel_rfl) ?_
  intro B hret hnor hnp
  refine wp_seq_k (fun K12 hK13 => ?_)
  refine wp_region_lit ?_
  refine seqK rfl (does_box (cs := #[.int .i64 s1.W, .int .i64 s1.H, .slice A2 s1.Bias.length c3, .slice A5 s1.Dark.length c6, .slice A8 s1.Flat.length c9, .int .i64 s1.Full, .int .i64 s1.Gain, .int .i64 s1.Noise]) rfl (by kernel_rfl : _ = Value.agg #[.int .i64 s1.W, .int .i64 s1.H, .slice A2 s1.Bias.length c3, .slice A5 s1.Dark.length c6, .slice A8 s1.Flat.length c9, .int .i64 s1.Full, .int .i64 s1.Gain, .int .i64 s1.Noise]) rfl HS ?_)
  intro b14 W15 HS16
  refine seqS1 (a' := ⟨#[.agg #[.int .i64 s1.W, .int .i64 s1.H, .slice A2 s1.Bias.length c3, .slice A5 s1.Dark.length c6, .slice A8 s1.Flat.length c9, .int .i64 s1.Full, .int .i64 s1.Gain, .int .i64 s1.Noise], .int .i64 n11, .pointer (some ⟨b14, 0, none⟩), undef, .int .i64 0, undef, undef, undef, undef, undef, undef, undef, undef, undef, undef, undef, undef, undef], []⟩) (by kernel_rfl) ?_
  refine wpList_nil ?_
  refine hK13 _ _ ?_
  refine wp_seq_k (fun K18 hK19 => ?_)
  refine wp_seq_k (fun K20 hK21 => ?_)
  refine wp_region_lit ?_
  refine seqK rfl (does_run (run_loadN (n := 8) rfl Try.underlying46 rfl (by kernel_rfl) (by kernel_rfl : _ = Value.pointer (some ⟨b14, 0, none⟩)) (cs := [.int .i64 s1.W, .int .i64 s1.H, .slice A2 s1.Bias.length c3, .slice A5 s1.Dark.length c6, .slice A8 s1.Flat.length c9, .int .i64 s1.Full, .int .i64 s1.Gain, .int .i64 s1.Noise]) rfl (HS16.cells 0 8 _ rfl)) ?_)
  have hq_ := bind_some h; clear h; obtain ⟨vt22, hc23, h⟩ := hq_
  refine seqK rfl (does_call (f := 59) (args := #[.agg #[.int .i64 s1.W, .int .i64 s1.H, .slice A2 s1.Bias.length c3, .slice A5 s1.Dark.length c6, .slice A8 s1.Flat.length c9, .int .i64 s1.Full, .int .i64 s1.Gain, .int .i64 s1.Noise]]) (by kernel_rfl) (sensor_Check.calls k A2 c3 A5 c6 A8 c9 s1 HS16 HR4 HR7 HR10 vt22 hc23) ?_)
  rintro _ W26 ⟨f24, rfl, L25, HS27⟩
  refine ⟨_, rfl, ?_⟩
  refine seqS1 (a' := ⟨#[.agg #[.int .i64 s1.W, .int .i64 s1.H, .slice A2 s1.Bias.length c3, .slice A5 s1.Dark.length c6, .slice A8 s1.Flat.length c9, .int .i64 s1.Full, .int .i64 s1.Gain, .int .i64 s1.Noise], .int .i64 n11, .pointer (some ⟨b14, 0, none⟩), undef, .int .i64 0, .int .i64 vt22, .agg #[.int .i64 s1.W, .int .i64 s1.H, .slice A2 s1.Bias.length c3, .slice A5 s1.Dark.length c6, .slice A8 s1.Flat.length c9, .int .i64 s1.Full, .int .i64 s1.Gain, .int .i64 s1.Noise], .int .i64 vt22, undef, undef, undef, undef, undef, undef, undef, undef, undef, undef], []⟩) (by kernel_rfl) ?_
  refine wpList_nil ?_
  refine hK21 _ _ ?_
  refine wp_seq_k (fun K28 hK29 => ?_)
  refine wp_region_lit ?_
  refine seqS2 (a' := ⟨#[.agg #[.int .i64 s1.W, .int .i64 s1.H, .slice A2 s1.Bias.length c3, .slice A5 s1.Dark.length c6, .slice A8 s1.Flat.length c9, .int .i64 s1.Full, .int .i64 s1.Gain, .int .i64 s1.Noise], .int .i64 n11, .pointer (some ⟨b14, 0, none⟩), undef, .int .i64 0, .int .i64 vt22, .agg #[.int .i64 s1.W, .int .i64 s1.H, .slice A2 s1.Bias.length c3, .slice A5 s1.Dark.length c6, .slice A8 s1.Flat.length c9, .int .i64 s1.Full, .int .i64 s1.Gain, .int .i64 s1.Noise], .int .i64 vt22, .int .i64 vt22, .bool (vt22 != 0), undef, undef, undef, undef, undef, undef, undef, undef], []⟩) (by kernel_rfl) ?_
  refine wpList_nil ?_
  refine hK29 _ _ ?_
  have hq_ := ite_some h; clear h; rcases hq_ with ⟨c31, h⟩ | ⟨c31, h⟩
  · have c31 : vt22 ≠ 0 := c31
    refine wpRwI 9 (x := (vt22 != 0)) (v := true) (by kernel_rfl) (bne_iff_ne.mpr c31) ?_
    refine condT (by kernel_rfl) ?_
    refine wp_seq_k (fun K32 hK33 => ?_)
    refine wp_region_lit ?_
    refine seqS2 (a' := ⟨#[.agg #[.int .i64 s1.W, .int .i64 s1.H, .slice A2 s1.Bias.length c3, .slice A5 s1.Dark.length c6, .slice A8 s1.Flat.length c9, .int .i64 s1.Full, .int .i64 s1.Gain, .int .i64 s1.Noise], .int .i64 n11, .pointer (some ⟨b14, 0, none⟩), undef, .int .i64 vt22, .int .i64 vt22, .agg #[.int .i64 s1.W, .int .i64 s1.H, .slice A2 s1.Bias.length c3, .slice A5 s1.Dark.length c6, .slice A8 s1.Flat.length c9, .int .i64 s1.Full, .int .i64 s1.Gain, .int .i64 s1.Noise], .int .i64 vt22, .int .i64 vt22, .bool true, .int .i64 vt22, undef, undef, undef, undef, undef, undef, undef], []⟩) (by kernel_rfl) ?_
    refine wpList_nil ?_
    refine hK33 _ _ ?_
    refine wp_ret ?_
    refine hret _ _ ?_
    refine ends_still (v := Value.int .i64 vt22) (by kernel_rfl) (by kernel_rfl) ?_
    have HS44 := HS27.drop
    injection h with h
    subst h
    exact ⟨f24, rfl, L25, HS44⟩
  · have c31 : ¬ (vt22 ≠ 0) := c31
    refine wpRwI 9 (x := (vt22 != 0)) (v := false) (by kernel_rfl) (bne_eq_false_iff_eq.mpr (Decidable.of_not_not c31)) ?_
    refine condF (by kernel_rfl) ?_
    refine wp_skip ?_
    refine hK19 _ _ ?_
    refine wp_seq_k (fun K34 hK35 => ?_)
    refine wp_seq_k (fun K36 hK37 => ?_)
    refine wp_region_lit ?_
    refine seqL2 (by kernel_rfl) ?_
    refine seqK rfl (does_run (run_load rfl Try.underlying3 rfl (by kernel_rfl : _ = Value.pointer (some ⟨b14, 0, none⟩)) (HS27.cell 0)) ?_)
    refine seqL1 (by kernel_rfl) ?_
    refine seqK rfl (does_run (run_load rfl Try.underlying3 rfl (by kernel_rfl : _ = Value.pointer (some ⟨b14, 1, none⟩)) (HS27.cell 1)) ?_)
    refine seqS2 (a' := ⟨#[.agg #[.int .i64 s1.W, .int .i64 s1.H, .slice A2 s1.Bias.length c3, .slice A5 s1.Dark.length c6, .slice A8 s1.Flat.length c9, .int .i64 s1.Full, .int .i64 s1.Gain, .int .i64 s1.Noise], .int .i64 n11, .pointer (some ⟨b14, 0, none⟩), undef, .int .i64 0, .int .i64 vt22, .agg #[.int .i64 s1.W, .int .i64 s1.H, .slice A2 s1.Bias.length c3, .slice A5 s1.Dark.length c6, .slice A8 s1.Flat.length c9, .int .i64 s1.Full, .int .i64 s1.Gain, .int .i64 s1.Noise], .int .i64 vt22, .int .i64 vt22, .bool false, undef, .int .i64 n11, .pointer (some ⟨b14, 0, none⟩), .int .i64 s1.W, .pointer (some ⟨b14, 1, none⟩), .int .i64 s1.H, .int .i64 (w64 (s1.W * s1.H)), .bool (n11 != (w64 (s1.W * s1.H)))], []⟩) (by kernel_rfl) ?_
    refine wpList_nil ?_
    refine hK37 _ _ ?_
    have hq_ := ite_some h; clear h; rcases hq_ with ⟨c39, h⟩ | ⟨c39, h⟩
    · have c39 : n11 ≠ (w64 (s1.W * s1.H)) := c39
      refine wpRwI 17 (x := (n11 != (w64 (s1.W * s1.H)))) (v := true) (by kernel_rfl) (bne_iff_ne.mpr c39) ?_
      refine condT (by kernel_rfl) ?_
      refine wp_seq_k (fun K40 hK41 => ?_)
      refine wp_region_lit ?_
      refine seqS1 (a' := ⟨#[.agg #[.int .i64 s1.W, .int .i64 s1.H, .slice A2 s1.Bias.length c3, .slice A5 s1.Dark.length c6, .slice A8 s1.Flat.length c9, .int .i64 s1.Full, .int .i64 s1.Gain, .int .i64 s1.Noise], .int .i64 n11, .pointer (some ⟨b14, 0, none⟩), undef, .int .i64 3, .int .i64 vt22, .agg #[.int .i64 s1.W, .int .i64 s1.H, .slice A2 s1.Bias.length c3, .slice A5 s1.Dark.length c6, .slice A8 s1.Flat.length c9, .int .i64 s1.Full, .int .i64 s1.Gain, .int .i64 s1.Noise], .int .i64 vt22, .int .i64 vt22, .bool false, undef, .int .i64 n11, .pointer (some ⟨b14, 0, none⟩), .int .i64 s1.W, .pointer (some ⟨b14, 1, none⟩), .int .i64 s1.H, .int .i64 (w64 (s1.W * s1.H)), .bool true], []⟩) (by kernel_rfl) ?_
      refine wpList_nil ?_
      refine hK41 _ _ ?_
      refine wp_ret ?_
      refine hret _ _ ?_
      refine ends_still (v := Value.int .i64 3) (by kernel_rfl) (by kernel_rfl) ?_
      have HS45 := HS27.drop
      injection h with h
      subst h
      exact ⟨f24, rfl, L25, HS45⟩
    · have c39 : ¬ (n11 ≠ (w64 (s1.W * s1.H))) := c39
      refine wpRwI 17 (x := (n11 != (w64 (s1.W * s1.H)))) (v := false) (by kernel_rfl) (bne_eq_false_iff_eq.mpr (Decidable.of_not_not c39)) ?_
      refine condF (by kernel_rfl) ?_
      refine wp_skip ?_
      refine hK35 _ _ ?_
      refine wp_seq_k (fun K42 hK43 => ?_)
      refine wp_region_lit ?_
      refine seqS1 (a' := ⟨#[.agg #[.int .i64 s1.W, .int .i64 s1.H, .slice A2 s1.Bias.length c3, .slice A5 s1.Dark.length c6, .slice A8 s1.Flat.length c9, .int .i64 s1.Full, .int .i64 s1.Gain, .int .i64 s1.Noise], .int .i64 n11, .pointer (some ⟨b14, 0, none⟩), undef, .int .i64 0, .int .i64 vt22, .agg #[.int .i64 s1.W, .int .i64 s1.H, .slice A2 s1.Bias.length c3, .slice A5 s1.Dark.length c6, .slice A8 s1.Flat.length c9, .int .i64 s1.Full, .int .i64 s1.Gain, .int .i64 s1.Noise], .int .i64 vt22, .int .i64 vt22, .bool false, undef, .int .i64 n11, .pointer (some ⟨b14, 0, none⟩), .int .i64 s1.W, .pointer (some ⟨b14, 1, none⟩), .int .i64 s1.H, .int .i64 (w64 (s1.W * s1.H)), .bool false], []⟩) (by kernel_rfl) ?_
      refine wpList_nil ?_
      refine hK43 _ _ ?_
      refine wp_ret ?_
      refine hret _ _ ?_
      refine ends_still (v := Value.int .i64 0) (by kernel_rfl) (by kernel_rfl) ?_
      have HS46 := HS27.drop
      injection h with h
      subst h
      exact ⟨f24, rfl, L25, HS46⟩

set_option maxRecDepth 100000 in
set_option maxHeartbeats 4000000 in
theorem sensor_outside_Quanta_1.calls (k : Nat) (b1 : Nat) (v3 : Int) (x4 : Int) {t w : World} {f : FM} {H : List Seg} (HS : St t w f ([(b1, .cells #[.int .i64 v3] 22 (0, 0))] :: H)) (r1 : Bool) (h : sensor_outside_Quanta_1 k v3 x4 = some r1) :
    Calls Try.prog 61 #[.int .i64 x4, .pointer (some ⟨b1, 0, none⟩)] w (fun e w' => ∃ (g : FM), e = .returned (Value.bool r1) ∧ FM.le f g ∧ St t w' g ([(b1, .cells #[.int .i64 v3] 22 (0, 0))] :: H)) := by
  unfold sensor_outside_Quanta_1 at h
  refine enter Try.func61 rfl (tm := #[.int .i64 x4, .pointer (some ⟨b1, 0, none⟩), undef, undef, undef, undef, undef, undef, undef, undef, undef]) (by kernel_rfl) ?_
  intro B hret hnor hnp
  refine wp_seq_k (fun K5 hK6 => ?_)
  refine wp_region_lit ?_
  refine seqS1 (a' := ⟨#[.int .i64 x4, .pointer (some ⟨b1, 0, none⟩), undef, .bool false, undef, undef, undef, undef, undef, undef, undef], []⟩) (by kernel_rfl) ?_
  refine wpList_nil ?_
  refine hK6 _ _ ?_
  refine wp_seq_k (fun K7 hK8 => ?_)
  refine wp_region_lit ?_
  refine seqS3 (a' := ⟨#[.int .i64 x4, .pointer (some ⟨b1, 0, none⟩), undef, .bool false, .int .i64 x4, .bool (decide (x4 < 0)), .bool (decide (x4 < 0)), undef, undef, undef, undef], []⟩) (by kernel_rfl) ?_
  have hq_ := ite_some h; clear h; rcases hq_ with ⟨c9, h⟩ | ⟨c9, h⟩
  · have c9 : x4 < 0 := c9
    refine seqRwI 5 (x := (decide (x4 < 0))) (v := true) (by kernel_rfl) (decide_eq_true c9) ?_
    refine seqRwI 6 (x := (decide (x4 < 0))) (v := true) (by kernel_rfl) (decide_eq_true c9) ?_
    refine seqS5 (a' := ⟨#[.int .i64 x4, .pointer (some ⟨b1, 0, none⟩), undef, .bool true, .int .i64 x4, .bool true, .bool true, undef, undef, undef, .bool true], []⟩) (by kernel_rfl) ?_
    refine wpList_nil ?_
    refine hK8 _ _ ?_
    refine wp_ret ?_
    refine hret _ _ ?_
    refine ends_still (v := Value.bool true) (by kernel_rfl) (by kernel_rfl) ?_
    injection h with h
    subst h
    exact ⟨f, rfl, FM.le.refl _, HS⟩
  · have c9 : ¬ (x4 < 0) := c9
    refine seqRwI 5 (x := (decide (x4 < 0))) (v := false) (by kernel_rfl) (decide_eq_false c9) ?_
    refine seqRwI 6 (x := (decide (x4 < 0))) (v := false) (by kernel_rfl) (decide_eq_false c9) ?_
    refine seqL1 (by kernel_rfl) ?_
    refine seqG (by kernel_rfl) (does_run (run_load rfl Try.underlying22 rfl (by kernel_rfl : _ = Value.pointer (some ⟨b1, 0, none⟩)) (HS.cell 0)) ?_)
    refine seqS3 (a' := ⟨#[.int .i64 x4, .pointer (some ⟨b1, 0, none⟩), undef, .bool (decide (x4 > v3)), .int .i64 x4, .bool false, .bool false, .int .i64 x4, .int .i64 v3, .bool (decide (x4 > v3)), .bool (decide (x4 > v3))], []⟩) (by kernel_rfl) ?_
    refine wpList_nil ?_
    refine hK8 _ _ ?_
    refine wp_ret ?_
    refine hret _ _ ?_
    refine ends_still (v := Value.bool (decide (x4 > v3))) (by kernel_rfl) (by kernel_rfl) ?_
    injection h with h
    subst h
    exact ⟨f, rfl, FM.le.refl _, HS⟩

set_option maxRecDepth 100000 in
set_option maxHeartbeats 4000000 in
theorem slices_IndexFunc_Quanta__sensor_outside_Quanta_1.calls (k : Nat) (b1 : Nat) (A5 : Option Addr) (c6 : Nat) (v3 : Int) (s4 : List Int) {t w : World} {f : FM} {H : List Seg} (HS : St t w f ([(b1, .cells #[.int .i64 v3] 22 (0, 0))] :: H)) (HR7 : SlR (tInt .i64) f A5 c6 s4) (r1 : Int) (h : slices_IndexFunc_Quanta__sensor_outside_Quanta_1 k v3 s4 = some r1) :
    Calls Try.prog 79 #[.slice A5 s4.length c6, .func (.func 61) #[] #[.pointer (some ⟨b1, 0, none⟩)]] w (fun e w' => ∃ (g : FM), e = .returned (Value.int .i64 r1) ∧ FM.le f g ∧ St t w' g ([(b1, .cells #[.int .i64 v3] 22 (0, 0))] :: H)) := by
  unfold slices_IndexFunc_Quanta__sensor_outside_Quanta_1 at h
  refine enter Try.func79 rfl (tm := #[.slice A5 s4.length c6, .func (.func 61) #[] #[.pointer (some ⟨b1, 0, none⟩)], undef, undef, undef, undef, undef, undef, undef, undef, undef, undef, undef, undef, undef, undef, undef, undef, undef]) (by kernel_rfl) ?_
  intro B hret hnor hnp
  refine wp_seq_k (fun K8 hK9 => ?_)
  refine wp_region_lit ?_
  refine seqS1 (a' := ⟨#[.slice A5 s4.length c6, .func (.func 61) #[] #[.pointer (some ⟨b1, 0, none⟩)], undef, undef, .int .i64 0, undef, undef, undef, undef, undef, undef, undef, undef, undef, undef, undef, undef, undef, undef], []⟩) (by kernel_rfl) ?_
  refine wpList_nil ?_
  refine hK9 _ _ ?_
  refine wp_seq_k (fun K10 hK11 => ?_)
  refine wp_seq_k (fun K12 hK13 => ?_)
  refine wp_region_lit ?_
  refine seqS3 (a' := ⟨#[.slice A5 s4.length c6, .func (.func 61) #[] #[.pointer (some ⟨b1, 0, none⟩)], undef, undef, .int .i64 0, undef, .slice A5 s4.length c6, .int .i64 (s4.length : Int), .int .i64 0, undef, undef, undef, undef, undef, undef, undef, undef, undef, undef], []⟩) (by kernel_rfl) ?_
  refine wpList_nil ?_
  refine hK13 _ _ ?_
  refine blockK (fun B14 hx15 hn16 hr17 ho18 hp19 => ?_)
  have hq_ := bind_some h; clear h; obtain ⟨o20, hv70, h⟩ := hq_
  have JR72 : ∀ z_, some (Sum.inl z_) = some o20 → some z_ = some r1 := by
    intro z_ e_; injection e_ with e_; subst e_; exact h
  have J71 : ∀ (f65 : FM) (j69 : Nat → Value) (W67 : World) (a_ : Act), FM.le f f65 → some (Sum.inr ()) = some o20 → St t W67 f65 ([(b1, .cells #[.int .i64 v3] 22 (0, 0))] :: H) → a_ = ⟨#[.slice A5 s4.length c6, .func (.func 61) #[] #[.pointer (some ⟨b1, 0, none⟩)], undef, undef, (j69 0), (j69 1), .slice A5 s4.length c6, .int .i64 (s4.length : Int), (j69 2), (j69 3), (j69 4), (j69 5), (j69 6), (j69 7), (j69 8), (j69 9), (j69 10), (j69 11), (j69 12)], []⟩ → K10 a_ W67 := by
    intro f65 j69 W67 a_ L66 hj73 HS68  hfr_; subst hfr_
    injection hj73 with hj73; subst hj73; try dsimp only at h
    simp only [Sum.elim_inr] at h
    refine hK11 _ _ ?_
    refine wp_seq_k (fun K74 hK75 => ?_)
    refine wp_region_lit ?_
    refine seqS1 (a' := ⟨#[.slice A5 s4.length c6, .func (.func 61) #[] #[.pointer (some ⟨b1, 0, none⟩)], undef, undef, .int .i64 (-1), (j69 1), .slice A5 s4.length c6, .int .i64 (s4.length : Int), (j69 2), (j69 3), (j69 4), (j69 5), (j69 6), (j69 7), (j69 8), (j69 9), (j69 10), (j69 11), (j69 12)], []⟩) (by kernel_rfl) ?_
    refine wpList_nil ?_
    refine hK75 _ _ ?_
    refine wp_ret ?_
    refine hret _ _ ?_
    refine ends_still (v := Value.int .i64 (-1)) (by kernel_rfl) (by kernel_rfl) ?_
    injection h with h
    subst h
    exact ⟨f65, rfl, L66, HS68⟩
  clear h; have h := hv70; clear hv70
  refine loopK (fun n_ a_ w_ => ∃ (f24 : FM) (x29 : Int) (j28 : Nat → Value), FM.le f f24 ∧ St t w_ f24 ([(b1, .cells #[.int .i64 v3] 22 (0, 0))] :: H) ∧ slices_IndexFunc_Quanta__sensor_outside_Quanta_1.l0 k s4 v3 n_ x29 = some o20 ∧ a_ = ⟨#[.slice A5 s4.length c6, .func (.func 61) #[] #[.pointer (some ⟨b1, 0, none⟩)], undef, undef, (j28 0), (j28 1), .slice A5 s4.length c6, .int .i64 (s4.length : Int), .int .i64 x29, (j28 2), (j28 3), (j28 4), (j28 5), (j28 6), (j28 7), (j28 8), (j28 9), (j28 10), (j28 11)], []⟩) k ⟨f, 0, (fun i_ => [Value.int .i64 0, undef, undef, undef, undef, undef, undef, undef, undef, undef, undef, undef].getD i_ undef), (FM.le.refl _), HS, h, (by kernel_rfl)⟩ ?_
  clear h
  rintro n23 _ W26 ⟨f24, x29, j28, L25, HS27, h, rfl⟩ K21 hK22
  obtain _ | n23 := n23
  · exact nomatch h
  simp only [slices_IndexFunc_Quanta__sensor_outside_Quanta_1.l0] at h
  refine wp_seq_k (fun K30 hK31 => ?_)
  refine wp_region_lit ?_
  refine seqS1 (a' := ⟨#[.slice A5 s4.length c6, .func (.func 61) #[] #[.pointer (some ⟨b1, 0, none⟩)], undef, undef, (j28 0), (j28 1), .slice A5 s4.length c6, .int .i64 (s4.length : Int), .int .i64 x29, .bool (decide (x29 < (s4.length : Int))), (j28 3), (j28 4), (j28 5), (j28 6), (j28 7), (j28 8), (j28 9), (j28 10), (j28 11)], []⟩) (by kernel_rfl) ?_
  refine wpList_nil ?_
  refine hK31 _ _ ?_
  refine wp_seq_k (fun K32 hK33 => ?_)
  have hq_ := ite_some h; clear h; rcases hq_ with ⟨c35, h⟩ | ⟨c35, h⟩
  · have c35 : x29 < (s4.length : Int) := c35
    refine wpRwI 9 (x := (decide (x29 < (s4.length : Int)))) (v := true) (by kernel_rfl) (decide_eq_true c35) ?_
    refine condT (by kernel_rfl) ?_
    refine wp_skip ?_
    refine hK33 _ _ ?_
    refine wp_seq_k (fun K36 hK37 => ?_)
    refine blockK (fun B38 hx39 hn40 hr41 ho42 hp43 => ?_)
    refine wp_seq_k (fun K45 hK46 => ?_)
    refine wp_region_lit ?_
    refine seqS2 (a' := ⟨#[.slice A5 s4.length c6, .func (.func 61) #[] #[.pointer (some ⟨b1, 0, none⟩)], undef, undef, (j28 0), .int .i64 x29, .slice A5 s4.length c6, .int .i64 (s4.length : Int), .int .i64 x29, .bool true, .int .i64 x29, (j28 4), (j28 5), (j28 6), (j28 7), (j28 8), (j28 9), (j28 10), (j28 11)], []⟩) (by kernel_rfl) ?_
    refine wpList_nil ?_
    refine hK46 _ _ ?_
    refine wp_seq_k (fun K47 hK48 => ?_)
    refine wp_region_lit ?_
    have hq_ := guard_some h; clear h; obtain ⟨c49, h⟩ := hq_
    have c49 : 0 ≤ x29 := c49
    obtain ⟨b53, of54, cs50, rfl, hr51, hc52⟩ := (HR7.mono L25).at (i := x29) c49 c35
    obtain rfl := hr51
    refine seqL3 (by kernel_rfl) ?_
    refine seqK rfl (does_run (run_index (sz := 1) rfl Try.underlying48 (by kernel_rfl) (by kernel_rfl : _ = Value.slice (some ⟨b53, of54, none⟩) s4.length c6) (by kernel_rfl : _ = Value.int .i64 x29) c49 c35 W26) ?_)
    refine seqK rfl (does_run (run_load rfl Try.underlying22 rfl (by kernel_rfl : _ = Value.pointer (some ⟨b53, of54 + (x29 : Int).toNat * 1, none⟩)) ((hc52 (FM.le.refl _) HS27) 0 (by decide))) ?_)
    have hq_ := bind_some h; clear h; obtain ⟨vt55, hc56, h⟩ := hq_
    refine seqK rfl (does_call (f := 61) (args := #[.int .i64 (rd s4 x29), .pointer (some ⟨b1, 0, none⟩)]) (by kernel_rfl) (sensor_outside_Quanta_1.calls k b1 v3 (rd s4 x29) HS27 vt55 hc56) ?_)
    rintro _ W59 ⟨f57, rfl, L58, HS60⟩
    refine ⟨_, rfl, ?_⟩
    refine wpList_nil ?_
    refine hK48 _ _ ?_
    have hq_ := ite_some h; clear h; rcases hq_ with ⟨c62, h⟩ | ⟨c62, h⟩
    · have c62 : vt55 = true := c62
      refine wpRwI 16 (x := vt55) (v := true) (by kernel_rfl) c62 ?_
      refine condT (by kernel_rfl) ?_
      refine wp_seq_k (fun K63 hK64 => ?_)
      refine wp_region_lit ?_
      refine seqS2 (a' := ⟨#[.slice (some ⟨b53, of54, none⟩) s4.length c6, .func (.func 61) #[] #[.pointer (some ⟨b1, 0, none⟩)], undef, undef, .int .i64 x29, .int .i64 x29, .slice (some ⟨b53, of54, none⟩) s4.length c6, .int .i64 (s4.length : Int), .int .i64 x29, .bool true, .int .i64 x29, .func (.func 61) #[] #[.pointer (some ⟨b1, 0, none⟩)], .slice (some ⟨b53, of54, none⟩) s4.length c6, .int .i64 x29, .pointer (some ⟨b53, of54 + (x29 : Int).toNat * 1, none⟩), .int .i64 (rd s4 x29), .bool true, .int .i64 x29, (j28 11)], []⟩) (by kernel_rfl) ?_
      refine wpList_nil ?_
      refine hK64 _ _ ?_
      refine wp_ret ?_
      refine hr41 _ _ ?_
      refine hr17 _ _ ?_
      refine hret _ _ ?_
      refine ends_still (v := Value.int .i64 x29) (by kernel_rfl) (by kernel_rfl) ?_
      replace h := JR72 _ h
      injection h with h
      subst h
      exact ⟨f57, rfl, (L25.trans L58), HS60⟩
    · have c62 : ¬ (vt55 = true) := c62
      refine wpRwI 16 (x := vt55) (v := false) (by kernel_rfl) (Bool.eq_false_iff.mpr c62) ?_
      refine condF (by kernel_rfl) ?_
      refine wp_skip ?_
      refine hn40 _ _ ?_
      refine hK37 _ _ ?_
      refine wp_region_lit ?_
      refine seqS2 (a' := ⟨#[.slice (some ⟨b53, of54, none⟩) s4.length c6, .func (.func 61) #[] #[.pointer (some ⟨b1, 0, none⟩)], undef, undef, (j28 0), .int .i64 x29, .slice (some ⟨b53, of54, none⟩) s4.length c6, .int .i64 (s4.length : Int), .int .i64 (w64 (x29 + 1)), .bool true, .int .i64 x29, .func (.func 61) #[] #[.pointer (some ⟨b1, 0, none⟩)], .slice (some ⟨b53, of54, none⟩) s4.length c6, .int .i64 x29, .pointer (some ⟨b53, of54 + (x29 : Int).toNat * 1, none⟩), .int .i64 (rd s4 x29), .bool false, (j28 10), .int .i64 (w64 (x29 + 1))], []⟩) (by kernel_rfl) ?_
      refine wpList_nil ?_
      refine hK22 n23 _ _ (Nat.lt_succ_self _) ?_
      exact ⟨f57, (w64 (x29 + 1)), (fun i_ => [(j28 0), Value.int .i64 x29, Value.bool true, Value.int .i64 x29, Value.func (.func 61) #[] #[.pointer (some ⟨b1, 0, none⟩)], Value.slice (some ⟨b53, of54, none⟩) s4.length c6, Value.int .i64 x29, Value.pointer (some ⟨b53, of54 + (x29 : Int).toNat * 1, none⟩), Value.int .i64 (rd s4 x29), Value.bool false, (j28 10), Value.int .i64 (w64 (x29 + 1))].getD i_ undef), (L25.trans L58), HS60, h, (by kernel_rfl)⟩
  · have c35 : ¬ (x29 < (s4.length : Int)) := c35
    refine wpRwI 9 (x := (decide (x29 < (s4.length : Int)))) (v := false) (by kernel_rfl) (decide_eq_false c35) ?_
    refine condF (by kernel_rfl) ?_
    refine wp_exit ?_
    refine hx15 _ _ ?_
    exact J71 f24 (fun i_ => [(j28 0), (j28 1), Value.int .i64 x29, Value.bool false, (j28 3), (j28 4), (j28 5), (j28 6), (j28 7), (j28 8), (j28 9), (j28 10), (j28 11)].getD i_ undef) W26 _ L25 h HS27 (by kernel_rfl)

set_option maxRecDepth 100000 in
set_option maxHeartbeats 4000000 in
theorem slices_ContainsFunc_Quanta__sensor_outside_Quanta_1.calls (k : Nat) (b1 : Nat) (A5 : Option Addr) (c6 : Nat) (v3 : Int) (s4 : List Int) {t w : World} {f : FM} {H : List Seg} (HS : St t w f ([(b1, .cells #[.int .i64 v3] 22 (0, 0))] :: H)) (HR7 : SlR (tInt .i64) f A5 c6 s4) (r1 : Bool) (h : slices_ContainsFunc_Quanta__sensor_outside_Quanta_1 k v3 s4 = some r1) :
    Calls Try.prog 60 #[.slice A5 s4.length c6, .func (.func 61) #[] #[.pointer (some ⟨b1, 0, none⟩)]] w (fun e w' => ∃ (g : FM), e = .returned (Value.bool r1) ∧ FM.le f g ∧ St t w' g ([(b1, .cells #[.int .i64 v3] 22 (0, 0))] :: H)) := by
  unfold slices_ContainsFunc_Quanta__sensor_outside_Quanta_1 at h
  refine enter Try.func60 rfl (tm := #[.slice A5 s4.length c6, .func (.func 61) #[] #[.pointer (some ⟨b1, 0, none⟩)], undef, undef, undef, undef, undef, undef, undef]) (by kernel_rfl) ?_
  intro B hret hnor hnp
  refine wp_seq_k (fun K8 hK9 => ?_)
  refine wp_region_lit ?_
  refine seqS1 (a' := ⟨#[.slice A5 s4.length c6, .func (.func 61) #[] #[.pointer (some ⟨b1, 0, none⟩)], undef, undef, .bool false, undef, undef, undef, undef], []⟩) (by kernel_rfl) ?_
  refine wpList_nil ?_
  refine hK9 _ _ ?_
  refine wp_seq_k (fun K10 hK11 => ?_)
  refine wp_region_lit ?_
  have hq_ := bind_some h; clear h; obtain ⟨vt12, hc13, h⟩ := hq_
  refine seqL2 (by kernel_rfl) ?_
  refine seqK rfl (does_call (f := 79) (args := #[.slice A5 s4.length c6, .func (.func 61) #[] #[.pointer (some ⟨b1, 0, none⟩)]]) (by kernel_rfl) (slices_IndexFunc_Quanta__sensor_outside_Quanta_1.calls k b1 A5 c6 v3 s4 HS HR7 vt12 hc13) ?_)
  rintro _ W16 ⟨f14, rfl, L15, HS17⟩
  refine ⟨_, rfl, ?_⟩
  refine seqS2 (a' := ⟨#[.slice A5 s4.length c6, .func (.func 61) #[] #[.pointer (some ⟨b1, 0, none⟩)], undef, undef, .bool (decide (vt12 ≥ 0)), .slice A5 s4.length c6, .func (.func 61) #[] #[.pointer (some ⟨b1, 0, none⟩)], .int .i64 vt12, .bool (decide (vt12 ≥ 0))], []⟩) (by kernel_rfl) ?_
  refine wpList_nil ?_
  refine hK11 _ _ ?_
  refine wp_ret ?_
  refine hret _ _ ?_
  refine ends_still (v := Value.bool (decide (vt12 ≥ 0))) (by kernel_rfl) (by kernel_rfl) ?_
  injection h with h
  subst h
  exact ⟨f14, rfl, L15, HS17⟩

set_option maxRecDepth 100000 in
set_option maxHeartbeats 4000000 in
theorem sensor_outside_Quanta.calls (k : Nat) (A2 : Option Addr) (c3 : Nat) (l1 : List Int) (most5 : Int) {t w : World} {f : FM} {H : List Seg} (HS : St t w f (H)) (HR4 : SlR (tInt .i64) f A2 c3 l1) (r1 : Bool) (h : sensor_outside_Quanta k l1 most5 = some r1) :
    Calls Try.prog 45 #[.slice A2 l1.length c3, .int .i64 most5] w (fun e w' => ∃ (g : FM), e = .returned (Value.bool r1) ∧ FM.le f g ∧ St t w' g (H)) := by
  unfold sensor_outside_Quanta at h
  refine enter Try.func45 rfl (tm := #[.slice A2 l1.length c3, .int .i64 most5, undef, undef, undef, undef, undef, undef]) (by kernel_rfl) ?_
  intro B hret hnor hnp
  refine wp_seq_k (fun K6 hK7 => ?_)
  refine wp_region_lit ?_
  refine seqK rfl (does_box (cs := #[.int .i64 most5]) rfl (by kernel_rfl : _ = Value.int .i64 most5) rfl HS ?_)
  intro b8 W9 HS10
  refine seqS1 (a' := ⟨#[.slice A2 l1.length c3, .int .i64 most5, undef, .pointer (some ⟨b8, 0, none⟩), .bool false, undef, undef, undef], []⟩) (by kernel_rfl) ?_
  refine wpList_nil ?_
  refine hK7 _ _ ?_
  refine wp_seq_k (fun K12 hK13 => ?_)
  refine wp_region_lit ?_
  have hq_ := bind_some h; clear h; obtain ⟨vt14, hc15, h⟩ := hq_
  refine seqL2 (by kernel_rfl) ?_
  refine seqK rfl (does_call (f := 60) (args := #[.slice A2 l1.length c3, .func (.func 61) #[] #[.pointer (some ⟨b8, 0, none⟩)]]) (by kernel_rfl) (slices_ContainsFunc_Quanta__sensor_outside_Quanta_1.calls k b8 A2 c3 most5 l1 HS10 HR4 vt14 hc15) ?_)
  rintro _ W18 ⟨f16, rfl, L17, HS19⟩
  refine ⟨_, rfl, ?_⟩
  refine seqS1 (a' := ⟨#[.slice A2 l1.length c3, .int .i64 most5, undef, .pointer (some ⟨b8, 0, none⟩), .bool vt14, .slice A2 l1.length c3, .func (.func 61) #[] #[.pointer (some ⟨b8, 0, none⟩)], .bool vt14], []⟩) (by kernel_rfl) ?_
  refine wpList_nil ?_
  refine hK13 _ _ ?_
  refine wp_ret ?_
  refine hret _ _ ?_
  refine ends_still (v := Value.bool vt14) (by kernel_rfl) (by kernel_rfl) ?_
  have HS20 := HS19.drop
  injection h with h
  subst h
  exact ⟨f16, rfl, L17, HS20⟩

set_option maxRecDepth 100000 in
set_option maxHeartbeats 4000000 in
theorem sensor_Bleed_1.calls (k : Nat) (b1 : Nat) (A6 : Option Addr) (c7 : Nat) (b3 : Nat) (A10 : Option Addr) (c11 : Nat) (A13 : Option Addr) (c14 : Nat) (A16 : Option Addr) (c17 : Nat) (v5 : List Int) (v9 : S_Sensor) (i19 : Int) {t w : World} {f : FM} {H : List Seg} (HS : St t w f ([(b1, .cells #[.slice A6 v5.length c7] 48 (0, 0))] :: [(b3, .cells #[.int .i64 v9.W, .int .i64 v9.H, .slice A10 v9.Bias.length c11, .slice A13 v9.Dark.length c14, .slice A16 v9.Flat.length c17, .int .i64 v9.Full, .int .i64 v9.Gain, .int .i64 v9.Noise] 46 (0, 0))] :: H)) (HR8 : SlR (tInt .i64) f A6 c7 v5) (HR12 : SlR (tInt .i64) f A10 c11 v9.Bias) (HR15 : SlR (tInt .i64) f A13 c14 v9.Dark) (HR18 : SlR (tInt .i64) f A16 c17 v9.Flat) (r1 : Int) (h : sensor_Bleed_1 k v5 v9 i19 = some r1) :
    Calls Try.prog 46 #[.int .i64 i19, .pointer (some ⟨b1, 0, none⟩), .pointer (some ⟨b3, 0, none⟩)] w (fun e w' => ∃ (g : FM), e = .returned (Value.int .i64 r1) ∧ FM.le f g ∧ St t w' g ([(b1, .cells #[.slice A6 v5.length c7] 48 (0, 0))] :: [(b3, .cells #[.int .i64 v9.W, .int .i64 v9.H, .slice A10 v9.Bias.length c11, .slice A13 v9.Dark.length c14, .slice A16 v9.Flat.length c17, .int .i64 v9.Full, .int .i64 v9.Gain, .int .i64 v9.Noise] 46 (0, 0))] :: H)) := by
  unfold sensor_Bleed_1 at h
  refine enter Try.func46 rfl (tm := #[.int .i64 i19, .pointer (some ⟨b1, 0, none⟩), .pointer (some ⟨b3, 0, none⟩), undef, undef, undef, undef, undef, undef, undef, undef, undef, undef]) (by kernel_rfl) ?_
  intro B hret hnor hnp
  refine wp_seq_k (fun K20 hK21 => ?_)
  refine wp_region_lit ?_
  refine seqS1 (a' := ⟨#[.int .i64 i19, .pointer (some ⟨b1, 0, none⟩), .pointer (some ⟨b3, 0, none⟩), undef, .int .i64 0, undef, undef, undef, undef, undef, undef, undef, undef], []⟩) (by kernel_rfl) ?_
  refine wpList_nil ?_
  refine hK21 _ _ ?_
  refine wp_seq_k (fun K22 hK23 => ?_)
  refine heldG (S := Sg t f ([(b1, .cells #[.slice A6 v5.length c7] 48 (0, 0))] :: [(b3, .cells #[.int .i64 v9.W, .int .i64 v9.H, .slice A10 v9.Bias.length c11, .slice A13 v9.Dark.length c14, .slice A16 v9.Flat.length c17, .int .i64 v9.Full, .int .i64 v9.Gain, .int .i64 v9.Noise] 46 (0, 0))] :: H) []) (n := 9) (by kernel_rfl) rfl HS ?_
  intro W24 HS25
  refine takeGQ 0 [] rfl (by kernel_rfl) (by kernel_rfl) (by kernel_rfl) (by kernel_rfl) (by kernel_rfl) (by kernel_rfl) hnp (Sg.g0 (Sx.of [] (FM.le.refl _) HS25)) (fun w_ hw_ => by obtain ⟨g_, hl_, hS_⟩ := hw_.st; exact run_load rfl Try.underlying48 rfl (by kernel_rfl : _ = Value.pointer (some ⟨b1, 0, none⟩)) (hS_.cell 0)) ?_
  have hq_ := guard_some h; clear h; obtain ⟨c26, h⟩ := hq_
  have c26 : 0 ≤ i19 := c26
  have hq_ := guard_some h; clear h; obtain ⟨c27, h⟩ := hq_
  have c27 : i19 < (v5.length : Int) := c27
  obtain ⟨b31, of32, cs28, rfl, hr29, hc30⟩ := HR8.at (i := i19) c26 c27
  obtain rfl := hr29
  refine takeG [1] (n := 8) (fuel := 7) (l' := #[true, true, false, false, false, false, false, false, false]) (a' := ⟨#[.int .i64 i19, .pointer (some ⟨b1, 0, none⟩), .pointer (some ⟨b3, 0, none⟩), undef, .int .i64 0, .slice (some ⟨b31, of32, none⟩) v5.length c7, .int .i64 i19, undef, undef, undef, undef, undef, undef], []⟩) rfl (by kernel_rfl) (by kernel_rfl) (by kernel_rfl) hnp (Sg.g0 (Sx.of [] (FM.le.refl _) HS25)) ?_
  refine takeGQ 2 [] rfl (by kernel_rfl) (by kernel_rfl) (by kernel_rfl) (by kernel_rfl) (by kernel_rfl) (by kernel_rfl) hnp (Sg.g0 (Sx.of [] (FM.le.refl _) HS25)) (fun w_ hw_ => by obtain ⟨g_, hl_, hS_⟩ := hw_.st; exact run_index (sz := 1) rfl Try.underlying48 (by kernel_rfl) (by kernel_rfl : _ = Value.slice (some ⟨b31, of32, none⟩) v5.length c7) (by kernel_rfl : _ = Value.int .i64 i19) c26 c27 w_) ?_
  refine takeGQ 3 [] rfl (by kernel_rfl) (by kernel_rfl) (by kernel_rfl) (by kernel_rfl) (by kernel_rfl) (by kernel_rfl) hnp (Sg.g0 (Sx.of [] (FM.le.refl _) HS25)) (fun w_ hw_ => by obtain ⟨g_, hl_, hS_⟩ := hw_.st; exact run_load rfl Try.underlying22 rfl (by kernel_rfl : _ = Value.pointer (some ⟨b31, of32 + (i19 : Int).toNat * 1, none⟩)) ((hc30 hl_ hS_) 0 (by decide))) ?_
  refine takeG [4] (n := 5) (fuel := 4) (l' := #[true, true, true, true, true, false, false, false, false]) (a' := ⟨#[.int .i64 i19, .pointer (some ⟨b1, 0, none⟩), .pointer (some ⟨b3, 0, none⟩), undef, .int .i64 0, .slice (some ⟨b31, of32, none⟩) v5.length c7, .int .i64 i19, .pointer (some ⟨b31, of32 + (i19 : Int).toNat * 1, none⟩), .int .i64 (rd v5 i19), .pointer (some ⟨b3, 5, none⟩), undef, undef, undef], []⟩) rfl (by kernel_rfl) (by kernel_rfl) (by kernel_rfl) hnp (Sg.g0 (Sx.of [] (FM.le.refl _) HS25)) ?_
  refine takeGQ 5 [] rfl (by kernel_rfl) (by kernel_rfl) (by kernel_rfl) (by kernel_rfl) (by kernel_rfl) (by kernel_rfl) hnp (Sg.g0 (Sx.of [] (FM.le.refl _) HS25)) (fun w_ hw_ => by obtain ⟨g_, hl_, hS_⟩ := hw_.st; exact run_load rfl Try.underlying22 rfl (by kernel_rfl : _ = Value.pointer (some ⟨b3, 5, none⟩)) (hS_.u1.cell 5)) ?_
  refine takeG [6, 7, 8] (n := 3) (fuel := 0) (l' := #[true, true, true, true, true, true, true, true, true]) (a' := ⟨#[.int .i64 i19, .pointer (some ⟨b1, 0, none⟩), .pointer (some ⟨b3, 0, none⟩), undef, .int .i64 (mx 0 (w64 ((rd v5 i19) - v9.Full))), .slice (some ⟨b31, of32, none⟩) v5.length c7, .int .i64 i19, .pointer (some ⟨b31, of32 + (i19 : Int).toNat * 1, none⟩), .int .i64 (rd v5 i19), .pointer (some ⟨b3, 5, none⟩), .int .i64 v9.Full, .int .i64 (w64 ((rd v5 i19) - v9.Full)), .int .i64 (mx 0 (w64 ((rd v5 i19) - v9.Full)))], []⟩) rfl (by kernel_rfl) (by kernel_rfl) (by kernel_rfl) hnp (Sg.g0 (Sx.of [] (FM.le.refl _) HS25)) ?_
  refine doneG (by kernel_rfl) ?_ _
  refine hK23 _ _ ?_
  refine wp_ret ?_
  refine hret _ _ ?_
  refine ends_still (v := Value.int .i64 (mx 0 (w64 ((rd v5 i19) - v9.Full)))) (by kernel_rfl) (by kernel_rfl) ?_
  injection h with h
  subst h
  exact ⟨f, rfl, FM.le.refl _, HS25⟩

set_option maxRecDepth 100000 in
set_option maxHeartbeats 4000000 in
theorem sensor_Bleed_2.calls (k : Nat) (b1 : Nat) (b3 : Nat) (A8 : Option Addr) (c9 : Nat) (b5 : Nat) (A12 : Option Addr) (c13 : Nat) (A15 : Option Addr) (c16 : Nat) (A18 : Option Addr) (c19 : Nat) (v7 : List Int) (v11 : S_Sensor) (i21 : Int) {t w : World} {f : FM} {H : List Seg} (HS : St t w f ([(b1, .cells #[.func (.func 46) #[] #[.pointer (some ⟨b3, 0, none⟩), .pointer (some ⟨b5, 0, none⟩)]] 76 (0, 0))] :: [(b3, .cells #[.slice A8 v7.length c9] 48 (0, 0))] :: [(b5, .cells #[.int .i64 v11.W, .int .i64 v11.H, .slice A12 v11.Bias.length c13, .slice A15 v11.Dark.length c16, .slice A18 v11.Flat.length c19, .int .i64 v11.Full, .int .i64 v11.Gain, .int .i64 v11.Noise] 46 (0, 0))] :: H)) (HR10 : SlR (tInt .i64) f A8 c9 v7) (HR14 : SlR (tInt .i64) f A12 c13 v11.Bias) (HR17 : SlR (tInt .i64) f A15 c16 v11.Dark) (HR20 : SlR (tInt .i64) f A18 c19 v11.Flat) (r1 : Int) (h : sensor_Bleed_2 k v7 v11 i21 = some r1) :
    Calls Try.prog 48 #[.int .i64 i21, .pointer (some ⟨b1, 0, none⟩)] w (fun e w' => ∃ (g : FM), e = .returned (Value.int .i64 r1) ∧ FM.le f g ∧ St t w' g ([(b1, .cells #[.func (.func 46) #[] #[.pointer (some ⟨b3, 0, none⟩), .pointer (some ⟨b5, 0, none⟩)]] 76 (0, 0))] :: [(b3, .cells #[.slice A8 v7.length c9] 48 (0, 0))] :: [(b5, .cells #[.int .i64 v11.W, .int .i64 v11.H, .slice A12 v11.Bias.length c13, .slice A15 v11.Dark.length c16, .slice A18 v11.Flat.length c19, .int .i64 v11.Full, .int .i64 v11.Gain, .int .i64 v11.Noise] 46 (0, 0))] :: H)) := by
  unfold sensor_Bleed_2 at h
  refine enter Try.func48 rfl (tm := #[.int .i64 i21, .pointer (some ⟨b1, 0, none⟩), undef, undef, undef, undef, undef, undef, undef]) (by kernel_rfl) ?_
  intro B hret hnor hnp
  refine wp_seq_k (fun K22 hK23 => ?_)
  refine wp_region_lit ?_
  refine seqS1 (a' := ⟨#[.int .i64 i21, .pointer (some ⟨b1, 0, none⟩), undef, .int .i64 0, undef, undef, undef, undef, undef], []⟩) (by kernel_rfl) ?_
  refine wpList_nil ?_
  refine hK23 _ _ ?_
  refine wp_seq_k (fun K24 hK25 => ?_)
  refine wp_region_lit ?_
  refine seqK rfl (does_run (run_load rfl Try.underlying76 rfl (by kernel_rfl : _ = Value.pointer (some ⟨b1, 0, none⟩)) (HS.cell 0)) ?_)
  have HS26 := HS.u2
  have HS27 := HS26.u2
  have hq_ := bind_some h; clear h; obtain ⟨vt28, hc29, h⟩ := hq_
  refine seqL1 (by kernel_rfl) ?_
  refine seqK rfl (does_call (f := 46) (args := #[.int .i64 i21, .pointer (some ⟨b3, 0, none⟩), .pointer (some ⟨b5, 0, none⟩)]) (by kernel_rfl) (sensor_Bleed_1.calls k b3 A8 c9 b5 A12 c13 A15 c16 A18 c19 v7 v11 i21 HS27 HR10 HR14 HR17 HR20 vt28 hc29) ?_)
  rintro _ W32 ⟨f30, rfl, L31, HS33⟩
  refine ⟨_, rfl, ?_⟩
  refine seqS3 (a' := ⟨#[.int .i64 i21, .pointer (some ⟨b1, 0, none⟩), undef, .int .i64 (w64 (Int.tdiv (w64 (vt28 + 1)) 2)), .func (.func 46) #[] #[.pointer (some ⟨b3, 0, none⟩), .pointer (some ⟨b5, 0, none⟩)], .int .i64 i21, .int .i64 vt28, .int .i64 (w64 (vt28 + 1)), .int .i64 (w64 (Int.tdiv (w64 (vt28 + 1)) 2))], []⟩) (by kernel_rfl) ?_
  refine wpList_nil ?_
  refine hK25 _ _ ?_
  refine wp_ret ?_
  refine hret _ _ ?_
  refine ends_still (v := Value.int .i64 (w64 (Int.tdiv (w64 (vt28 + 1)) 2))) (by kernel_rfl) (by kernel_rfl) ?_
  have HS34 := HS33.u1
  have HS35 := HS34.u1
  have HS36 := HS35.u2
  injection h with h
  subst h
  exact ⟨f30, rfl, L31, HS36⟩

set_option maxRecDepth 100000 in
set_option maxHeartbeats 4000000 in
theorem sensor_pour__sensor_Bleed_2.calls (k : Nat) (b1 : Nat) (b3 : Nat) (A8 : Option Addr) (c9 : Nat) (b5 : Nat) (A12 : Option Addr) (c13 : Nat) (A15 : Option Addr) (c16 : Nat) (A18 : Option Addr) (c19 : Nat) (A22 : Option Addr) (c23 : Nat) (A25 : Option Addr) (c26 : Nat) (A28 : Option Addr) (c29 : Nat) (A31 : Option Addr) (c32 : Nat) (s33 : Seg) (A38 : Option Addr) (c39 : Nat) (v7 : List Int) (v11 : S_Sensor) (s21 : S_Sensor) (held35 : List Int) (order37 : List Int) {t w : World} {f : FM} {H : List Seg} (HS : St t w f ([(b1, .cells #[.func (.func 46) #[] #[.pointer (some ⟨b3, 0, none⟩), .pointer (some ⟨b5, 0, none⟩)]] 76 (0, 0))] :: [(b3, .cells #[.slice A8 v7.length c9] 48 (0, 0))] :: [(b5, .cells #[.int .i64 v11.W, .int .i64 v11.H, .slice A12 v11.Bias.length c13, .slice A15 v11.Dark.length c16, .slice A18 v11.Flat.length c19, .int .i64 v11.Full, .int .i64 v11.Gain, .int .i64 v11.Noise] 46 (0, 0))] :: s33 :: H)) (HR10 : SlR (tInt .i64) f A8 c9 v7) (HR14 : SlR (tInt .i64) f A12 c13 v11.Bias) (HR17 : SlR (tInt .i64) f A15 c16 v11.Dark) (HR20 : SlR (tInt .i64) f A18 c19 v11.Flat) (HR24 : SlR (tInt .i64) f A22 c23 s21.Bias) (HR27 : SlR (tInt .i64) f A25 c26 s21.Dark) (HR30 : SlR (tInt .i64) f A28 c29 s21.Flat) (HO34 : Own (tInt .i64) 22 f A31 c32 s33 held35) (HR40 : SlR (tInt .i64) f A38 c39 order37) (r1 : Int) (r2 : List Int) (h : sensor_pour__sensor_Bleed_2 k v7 v11 s21 held35 order37 = some (r1, r2)) :
    Calls Try.prog 47 #[.agg #[.int .i64 s21.W, .int .i64 s21.H, .slice A22 s21.Bias.length c23, .slice A25 s21.Dark.length c26, .slice A28 s21.Flat.length c29, .int .i64 s21.Full, .int .i64 s21.Gain, .int .i64 s21.Noise], .slice A31 held35.length c32, .slice A38 order37.length c39, .func (.func 48) #[] #[.pointer (some ⟨b1, 0, none⟩)]] w (fun e w' => ∃ (g : FM) (s206 : Seg), e = .returned (Value.int .i64 r1) ∧ FM.le f g ∧ St t w' g ([(b1, .cells #[.func (.func 46) #[] #[.pointer (some ⟨b3, 0, none⟩), .pointer (some ⟨b5, 0, none⟩)]] 76 (0, 0))] :: [(b3, .cells #[.slice A8 v7.length c9] 48 (0, 0))] :: [(b5, .cells #[.int .i64 v11.W, .int .i64 v11.H, .slice A12 v11.Bias.length c13, .slice A15 v11.Dark.length c16, .slice A18 v11.Flat.length c19, .int .i64 v11.Full, .int .i64 v11.Gain, .int .i64 v11.Noise] 46 (0, 0))] :: s206 :: H) ∧ Own (tInt .i64) 22 g A31 c32 s206 r2 ∧ r2.length = held35.length) := by
  unfold sensor_pour__sensor_Bleed_2 at h
  refine enter Try.func47 rfl (tm := #[.agg #[.int .i64 s21.W, .int .i64 s21.H, .slice A22 s21.Bias.length c23, .slice A25 s21.Dark.length c26, .slice A28 s21.Flat.length c29, .int .i64 s21.Full, .int .i64 s21.Gain, .int .i64 s21.Noise], .slice A31 held35.length c32, .slice A38 order37.length c39, .func (.func 48) #[] #[.pointer (some ⟨b1, 0, none⟩)], undef, undef, undef, undef, undef, undef, undef, undef, undef, undef, undef, undef, undef, undef, undef, undef, undef, undef, undef, undef, undef, undef, undef, undef, undef, undef, undef, undef, undef, undef, undef, undef, undef, undef, undef, undef, undef, undef, undef, undef]) (by kernel_rfl) ?_
  intro B hret hnor hnp
  refine wp_seq_k (fun K41 hK42 => ?_)
  refine wp_region_lit ?_
  refine seqK rfl (does_box (cs := #[.int .i64 s21.W, .int .i64 s21.H, .slice A22 s21.Bias.length c23, .slice A25 s21.Dark.length c26, .slice A28 s21.Flat.length c29, .int .i64 s21.Full, .int .i64 s21.Gain, .int .i64 s21.Noise]) rfl (by kernel_rfl : _ = Value.agg #[.int .i64 s21.W, .int .i64 s21.H, .slice A22 s21.Bias.length c23, .slice A25 s21.Dark.length c26, .slice A28 s21.Flat.length c29, .int .i64 s21.Full, .int .i64 s21.Gain, .int .i64 s21.Noise]) rfl HS ?_)
  intro b43 W44 HS45
  refine seqS1 (a' := ⟨#[.agg #[.int .i64 s21.W, .int .i64 s21.H, .slice A22 s21.Bias.length c23, .slice A25 s21.Dark.length c26, .slice A28 s21.Flat.length c29, .int .i64 s21.Full, .int .i64 s21.Gain, .int .i64 s21.Noise], .slice A31 held35.length c32, .slice A38 order37.length c39, .func (.func 48) #[] #[.pointer (some ⟨b1, 0, none⟩)], .pointer (some ⟨b43, 0, none⟩), undef, undef, undef, .int .i64 0, undef, undef, undef, undef, undef, undef, undef, undef, undef, undef, undef, undef, undef, undef, undef, undef, undef, undef, undef, undef, undef, undef, undef, undef, undef, undef, undef, undef, undef, undef, undef, undef, undef, undef, undef], []⟩) (by kernel_rfl) ?_
  refine wpList_nil ?_
  refine hK42 _ _ ?_
  refine wp_seq_k (fun K47 hK48 => ?_)
  refine wp_region_lit ?_
  refine seqS1 (a' := ⟨#[.agg #[.int .i64 s21.W, .int .i64 s21.H, .slice A22 s21.Bias.length c23, .slice A25 s21.Dark.length c26, .slice A28 s21.Flat.length c29, .int .i64 s21.Full, .int .i64 s21.Gain, .int .i64 s21.Noise], .slice A31 held35.length c32, .slice A38 order37.length c39, .func (.func 48) #[] #[.pointer (some ⟨b1, 0, none⟩)], .pointer (some ⟨b43, 0, none⟩), undef, undef, undef, .int .i64 0, .int .i64 0, undef, undef, undef, undef, undef, undef, undef, undef, undef, undef, undef, undef, undef, undef, undef, undef, undef, undef, undef, undef, undef, undef, undef, undef, undef, undef, undef, undef, undef, undef, undef, undef, undef, undef], []⟩) (by kernel_rfl) ?_
  refine wpList_nil ?_
  refine hK48 _ _ ?_
  refine wp_seq_k (fun K49 hK50 => ?_)
  refine wp_seq_k (fun K51 hK52 => ?_)
  refine wp_region_lit ?_
  refine seqS3 (a' := ⟨#[.agg #[.int .i64 s21.W, .int .i64 s21.H, .slice A22 s21.Bias.length c23, .slice A25 s21.Dark.length c26, .slice A28 s21.Flat.length c29, .int .i64 s21.Full, .int .i64 s21.Gain, .int .i64 s21.Noise], .slice A31 held35.length c32, .slice A38 order37.length c39, .func (.func 48) #[] #[.pointer (some ⟨b1, 0, none⟩)], .pointer (some ⟨b43, 0, none⟩), undef, undef, undef, .int .i64 0, .int .i64 0, undef, undef, undef, .slice A38 order37.length c39, .int .i64 (order37.length : Int), .int .i64 0, undef, undef, undef, undef, undef, undef, undef, undef, undef, undef, undef, undef, undef, undef, undef, undef, undef, undef, undef, undef, undef, undef, undef, undef, undef, undef, undef, undef], []⟩) (by kernel_rfl) ?_
  refine wpList_nil ?_
  refine hK52 _ _ ?_
  refine blockK (fun B53 hx54 hn55 hr56 ho57 hp58 => ?_)
  have hq_ := bind_some h; clear h; obtain ⟨o120, hv195, h⟩ := hq_
  have J196 : ∀ (f185 : FM) (s191 : Seg) (held190 : List Int) (flow194 : Int) (j189 : Nat → Value) (W187 : World) (a_ : Act), FM.le f f185 → some ((held190, flow194)) = some o120 → St t W187 f185 ([(b43, .cells #[.int .i64 s21.W, .int .i64 s21.H, .slice A22 s21.Bias.length c23, .slice A25 s21.Dark.length c26, .slice A28 s21.Flat.length c29, .int .i64 s21.Full, .int .i64 s21.Gain, .int .i64 s21.Noise] 46 (0, 0))] :: [(b1, .cells #[.func (.func 46) #[] #[.pointer (some ⟨b3, 0, none⟩), .pointer (some ⟨b5, 0, none⟩)]] 76 (0, 0))] :: [(b3, .cells #[.slice A8 v7.length c9] 48 (0, 0))] :: [(b5, .cells #[.int .i64 v11.W, .int .i64 v11.H, .slice A12 v11.Bias.length c13, .slice A15 v11.Dark.length c16, .slice A18 v11.Flat.length c19, .int .i64 v11.Full, .int .i64 v11.Gain, .int .i64 v11.Noise] 46 (0, 0))] :: s191 :: H) → Own (tInt .i64) 22 f185 A31 c32 s191 held190 → held190.length = held35.length → a_ = ⟨#[.agg #[.int .i64 s21.W, .int .i64 s21.H, .slice A22 s21.Bias.length c23, .slice A25 s21.Dark.length c26, .slice A28 s21.Flat.length c29, .int .i64 s21.Full, .int .i64 s21.Gain, .int .i64 s21.Noise], .slice A31 held190.length c32, .slice A38 order37.length c39, .func (.func 48) #[] #[.pointer (some ⟨b1, 0, none⟩)], .pointer (some ⟨b43, 0, none⟩), undef, undef, undef, .int .i64 0, .int .i64 flow194, undef, (j189 0), (j189 1), .slice A38 order37.length c39, .int .i64 (order37.length : Int), (j189 2), (j189 3), (j189 4), (j189 5), (j189 6), (j189 7), (j189 8), (j189 9), (j189 10), (j189 11), (j189 12), (j189 13), (j189 14), (j189 15), (j189 16), (j189 17), (j189 18), (j189 19), (j189 20), (j189 21), (j189 22), (j189 23), (j189 24), (j189 25), (j189 26), (j189 27), (j189 28), (j189 29), undef], []⟩ → K49 a_ W187 := by
    intro f185 s191 held190 flow194 j189 W187 a_ L186 hj197 HS188 HO192 HL193 hfr_; subst hfr_
    injection hj197 with hj197; subst hj197; try dsimp only at h
    refine hK50 _ _ ?_
    refine wp_seq_k (fun K203 hK204 => ?_)
    refine wp_region_lit ?_
    refine seqS2 (a' := ⟨#[.agg #[.int .i64 s21.W, .int .i64 s21.H, .slice A22 s21.Bias.length c23, .slice A25 s21.Dark.length c26, .slice A28 s21.Flat.length c29, .int .i64 s21.Full, .int .i64 s21.Gain, .int .i64 s21.Noise], .slice A31 held190.length c32, .slice A38 order37.length c39, .func (.func 48) #[] #[.pointer (some ⟨b1, 0, none⟩)], .pointer (some ⟨b43, 0, none⟩), undef, undef, undef, .int .i64 flow194, .int .i64 flow194, undef, (j189 0), (j189 1), .slice A38 order37.length c39, .int .i64 (order37.length : Int), (j189 2), (j189 3), (j189 4), (j189 5), (j189 6), (j189 7), (j189 8), (j189 9), (j189 10), (j189 11), (j189 12), (j189 13), (j189 14), (j189 15), (j189 16), (j189 17), (j189 18), (j189 19), (j189 20), (j189 21), (j189 22), (j189 23), (j189 24), (j189 25), (j189 26), (j189 27), (j189 28), (j189 29), .int .i64 flow194], []⟩) (by kernel_rfl) ?_
    refine wpList_nil ?_
    refine hK204 _ _ ?_
    refine wp_ret ?_
    refine hret _ _ ?_
    refine ends_still (v := Value.int .i64 flow194) (by kernel_rfl) (by kernel_rfl) ?_
    have HS205 := HS188.drop
    injection h with h
    injection h with h0_ h
    subst h0_ h
    exact ⟨f185, s191, rfl, L186, HS205, HO192, HL193⟩
  clear h; have h := hv195; clear hv195
  refine loopK (fun n_ a_ w_ => ∃ (f124 : FM) (s130 : Seg) (held129 : List Int) (flow133 : Int) (x134 : Int) (j128 : Nat → Value), FM.le f f124 ∧ St t w_ f124 ([(b43, .cells #[.int .i64 s21.W, .int .i64 s21.H, .slice A22 s21.Bias.length c23, .slice A25 s21.Dark.length c26, .slice A28 s21.Flat.length c29, .int .i64 s21.Full, .int .i64 s21.Gain, .int .i64 s21.Noise] 46 (0, 0))] :: [(b1, .cells #[.func (.func 46) #[] #[.pointer (some ⟨b3, 0, none⟩), .pointer (some ⟨b5, 0, none⟩)]] 76 (0, 0))] :: [(b3, .cells #[.slice A8 v7.length c9] 48 (0, 0))] :: [(b5, .cells #[.int .i64 v11.W, .int .i64 v11.H, .slice A12 v11.Bias.length c13, .slice A15 v11.Dark.length c16, .slice A18 v11.Flat.length c19, .int .i64 v11.Full, .int .i64 v11.Gain, .int .i64 v11.Noise] 46 (0, 0))] :: s130 :: H) ∧ Own (tInt .i64) 22 f124 A31 c32 s130 held129 ∧ held129.length = held35.length ∧ sensor_pour__sensor_Bleed_2.l0 k order37 v7 v11 s21 n_ held129 flow133 x134 = some o120 ∧ a_ = ⟨#[.agg #[.int .i64 s21.W, .int .i64 s21.H, .slice A22 s21.Bias.length c23, .slice A25 s21.Dark.length c26, .slice A28 s21.Flat.length c29, .int .i64 s21.Full, .int .i64 s21.Gain, .int .i64 s21.Noise], .slice A31 held129.length c32, .slice A38 order37.length c39, .func (.func 48) #[] #[.pointer (some ⟨b1, 0, none⟩)], .pointer (some ⟨b43, 0, none⟩), undef, undef, undef, .int .i64 0, .int .i64 flow133, undef, (j128 0), (j128 1), .slice A38 order37.length c39, .int .i64 (order37.length : Int), .int .i64 x134, (j128 2), (j128 3), (j128 4), (j128 5), (j128 6), (j128 7), (j128 8), (j128 9), (j128 10), (j128 11), (j128 12), (j128 13), (j128 14), (j128 15), (j128 16), (j128 17), (j128 18), (j128 19), (j128 20), (j128 21), (j128 22), (j128 23), (j128 24), (j128 25), (j128 26), (j128 27), (j128 28), undef], []⟩) k ⟨f, s33, held35, 0, 0, (fun i_ => [undef, undef, undef, undef, undef, undef, undef, undef, undef, undef, undef, undef, undef, undef, undef, undef, undef, undef, undef, undef, undef, undef, undef, undef, undef, undef, undef, undef, undef].getD i_ undef), (FM.le.refl _), HS45, HO34, rfl, h, (by kernel_rfl)⟩ ?_
  clear h
  rintro n123 _ W126 ⟨f124, s130, held129, flow133, x134, j128, L125, HS127, HO131, HL132, h, rfl⟩ K121 hK122
  obtain _ | n123 := n123
  · exact nomatch h
  simp only [sensor_pour__sensor_Bleed_2.l0] at h
  refine wp_seq_k (fun K135 hK136 => ?_)
  refine wp_region_lit ?_
  refine seqS1 (a' := ⟨#[.agg #[.int .i64 s21.W, .int .i64 s21.H, .slice A22 s21.Bias.length c23, .slice A25 s21.Dark.length c26, .slice A28 s21.Flat.length c29, .int .i64 s21.Full, .int .i64 s21.Gain, .int .i64 s21.Noise], .slice A31 held129.length c32, .slice A38 order37.length c39, .func (.func 48) #[] #[.pointer (some ⟨b1, 0, none⟩)], .pointer (some ⟨b43, 0, none⟩), undef, undef, undef, .int .i64 0, .int .i64 flow133, undef, (j128 0), (j128 1), .slice A38 order37.length c39, .int .i64 (order37.length : Int), .int .i64 x134, .bool (decide (x134 < (order37.length : Int))), (j128 3), (j128 4), (j128 5), (j128 6), (j128 7), (j128 8), (j128 9), (j128 10), (j128 11), (j128 12), (j128 13), (j128 14), (j128 15), (j128 16), (j128 17), (j128 18), (j128 19), (j128 20), (j128 21), (j128 22), (j128 23), (j128 24), (j128 25), (j128 26), (j128 27), (j128 28), undef], []⟩) (by kernel_rfl) ?_
  refine wpList_nil ?_
  refine hK136 _ _ ?_
  refine wp_seq_k (fun K137 hK138 => ?_)
  have hq_ := ite_some h; clear h; rcases hq_ with ⟨c140, h⟩ | ⟨c140, h⟩
  · have c140 : x134 < (order37.length : Int) := c140
    refine wpRwI 16 (x := (decide (x134 < (order37.length : Int)))) (v := true) (by kernel_rfl) (decide_eq_true c140) ?_
    refine condT (by kernel_rfl) ?_
    refine wp_skip ?_
    refine hK138 _ _ ?_
    refine wp_seq_k (fun K141 hK142 => ?_)
    refine blockK (fun B143 hx144 hn145 hr146 ho147 hp148 => ?_)
    refine wp_seq_k (fun K150 hK151 => ?_)
    refine wp_region_lit ?_
    have hq_ := guard_some h; clear h; obtain ⟨c152, h⟩ := hq_
    have c152 : 0 ≤ x134 := c152
    obtain ⟨b156, of157, cs153, rfl, hr154, hc155⟩ := (HR40.mono L125).at (i := x134) c152 c140
    obtain rfl := hr154
    refine seqK rfl (does_run (run_index (sz := 1) rfl Try.underlying40 (by kernel_rfl) (by kernel_rfl : _ = Value.slice (some ⟨b156, of157, none⟩) order37.length c39) (by kernel_rfl : _ = Value.int .i64 x134) c152 c140 W126) ?_)
    refine seqK rfl (does_run (run_load rfl Try.underlying3 rfl (by kernel_rfl : _ = Value.pointer (some ⟨b156, of157 + (x134 : Int).toNat * 1, none⟩)) ((hc155 (FM.le.refl _) HS127) 0 (by decide))) ?_)
    refine seqS1 (a' := ⟨#[.agg #[.int .i64 s21.W, .int .i64 s21.H, .slice A22 s21.Bias.length c23, .slice A25 s21.Dark.length c26, .slice A28 s21.Flat.length c29, .int .i64 s21.Full, .int .i64 s21.Gain, .int .i64 s21.Noise], .slice A31 held129.length c32, .slice (some ⟨b156, of157, none⟩) order37.length c39, .func (.func 48) #[] #[.pointer (some ⟨b1, 0, none⟩)], .pointer (some ⟨b43, 0, none⟩), undef, undef, undef, .int .i64 0, .int .i64 flow133, undef, .int .i64 (rd order37 x134), (j128 1), .slice (some ⟨b156, of157, none⟩) order37.length c39, .int .i64 (order37.length : Int), .int .i64 x134, .bool true, .pointer (some ⟨b156, of157 + (x134 : Int).toNat * 1, none⟩), .int .i64 (rd order37 x134), (j128 5), (j128 6), (j128 7), (j128 8), (j128 9), (j128 10), (j128 11), (j128 12), (j128 13), (j128 14), (j128 15), (j128 16), (j128 17), (j128 18), (j128 19), (j128 20), (j128 21), (j128 22), (j128 23), (j128 24), (j128 25), (j128 26), (j128 27), (j128 28), undef], []⟩) (by kernel_rfl) ?_
    refine wpList_nil ?_
    refine hK151 _ _ ?_
    refine wp_seq_k (fun K158 hK159 => ?_)
    refine heldG (S := Sg t f124 ([(b43, .cells #[.int .i64 s21.W, .int .i64 s21.H, .slice A22 s21.Bias.length c23, .slice A25 s21.Dark.length c26, .slice A28 s21.Flat.length c29, .int .i64 s21.Full, .int .i64 s21.Gain, .int .i64 s21.Noise] 46 (0, 0))] :: [(b1, .cells #[.func (.func 46) #[] #[.pointer (some ⟨b3, 0, none⟩), .pointer (some ⟨b5, 0, none⟩)]] 76 (0, 0))] :: [(b3, .cells #[.slice A8 v7.length c9] 48 (0, 0))] :: [(b5, .cells #[.int .i64 v11.W, .int .i64 v11.H, .slice A12 v11.Bias.length c13, .slice A15 v11.Dark.length c16, .slice A18 v11.Flat.length c19, .int .i64 v11.Full, .int .i64 v11.Gain, .int .i64 v11.Noise] 46 (0, 0))] :: s130 :: H) []) (n := 10) (by kernel_rfl) rfl HS127 ?_
    intro W160 HS161
    refine takeG [0, 1] (n := 10) (fuel := 8) (l' := #[true, true, false, false, false, false, false, false, false, false]) (a' := ⟨#[.agg #[.int .i64 s21.W, .int .i64 s21.H, .slice A22 s21.Bias.length c23, .slice A25 s21.Dark.length c26, .slice A28 s21.Flat.length c29, .int .i64 s21.Full, .int .i64 s21.Gain, .int .i64 s21.Noise], .slice A31 held129.length c32, .slice (some ⟨b156, of157, none⟩) order37.length c39, .func (.func 48) #[] #[.pointer (some ⟨b1, 0, none⟩)], .pointer (some ⟨b43, 0, none⟩), undef, undef, undef, .int .i64 0, .int .i64 flow133, undef, .int .i64 (rd order37 x134), (j128 1), .slice (some ⟨b156, of157, none⟩) order37.length c39, .int .i64 (order37.length : Int), .int .i64 x134, .bool true, .pointer (some ⟨b156, of157 + (x134 : Int).toNat * 1, none⟩), .int .i64 (rd order37 x134), .int .i64 flow133, .pointer (some ⟨b43, 5, none⟩), (j128 7), (j128 8), (j128 9), (j128 10), (j128 11), (j128 12), (j128 13), (j128 14), (j128 15), (j128 16), (j128 17), (j128 18), (j128 19), (j128 20), (j128 21), (j128 22), (j128 23), (j128 24), (j128 25), (j128 26), (j128 27), (j128 28), undef], []⟩) rfl (by kernel_rfl) (by kernel_rfl) (by kernel_rfl) (fun ch_ a_ w_ q_ => (fun ch_ a_ w_ q_ => hnp ch_ a_ w_ (hp58 ch_ a_ w_ q_)) ch_ a_ w_ (hp148 ch_ a_ w_ q_)) (Sg.g0 (Sx.of [] (FM.le.refl _) HS161)) ?_
    refine takeGQ 2 [] rfl (by kernel_rfl) (by kernel_rfl) (by kernel_rfl) (by kernel_rfl) (by kernel_rfl) (by kernel_rfl) (fun ch_ a_ w_ q_ => (fun ch_ a_ w_ q_ => hnp ch_ a_ w_ (hp58 ch_ a_ w_ q_)) ch_ a_ w_ (hp148 ch_ a_ w_ q_)) (Sg.g0 (Sx.of [] (FM.le.refl _) HS161)) (fun w_ hw_ => by obtain ⟨g_, hl_, hS_⟩ := hw_.st; exact run_load rfl Try.underlying22 rfl (by kernel_rfl : _ = Value.pointer (some ⟨b43, 5, none⟩)) (hS_.cell 5)) ?_
    have hq_ := guard_some h; clear h; obtain ⟨c162, h⟩ := hq_
    have c162 : 0 ≤ (rd order37 x134) := c162
    have hq_ := guard_some h; clear h; obtain ⟨c163, h⟩ := hq_
    have c163 : (rd order37 x134) < (held129.length : Int) := c163
    obtain ⟨b167, of168, cs164, rfl, hr165, hc166⟩ := HO131.at (i := (rd order37 x134)) c162 c163
    obtain rfl := hr165
    refine takeG [3, 4] (n := 7) (fuel := 5) (l' := #[true, true, true, true, true, false, false, false, false, false]) (a' := ⟨#[.agg #[.int .i64 s21.W, .int .i64 s21.H, .slice A22 s21.Bias.length c23, .slice A25 s21.Dark.length c26, .slice A28 s21.Flat.length c29, .int .i64 s21.Full, .int .i64 s21.Gain, .int .i64 s21.Noise], .slice (some ⟨b167, of168, none⟩) held129.length c32, .slice (some ⟨b156, of157, none⟩) order37.length c39, .func (.func 48) #[] #[.pointer (some ⟨b1, 0, none⟩)], .pointer (some ⟨b43, 0, none⟩), undef, undef, undef, .int .i64 0, .int .i64 flow133, undef, .int .i64 (rd order37 x134), (j128 1), .slice (some ⟨b156, of157, none⟩) order37.length c39, .int .i64 (order37.length : Int), .int .i64 x134, .bool true, .pointer (some ⟨b156, of157 + (x134 : Int).toNat * 1, none⟩), .int .i64 (rd order37 x134), .int .i64 flow133, .pointer (some ⟨b43, 5, none⟩), .int .i64 s21.Full, .slice (some ⟨b167, of168, none⟩) held129.length c32, .int .i64 (rd order37 x134), (j128 10), (j128 11), (j128 12), (j128 13), (j128 14), (j128 15), (j128 16), (j128 17), (j128 18), (j128 19), (j128 20), (j128 21), (j128 22), (j128 23), (j128 24), (j128 25), (j128 26), (j128 27), (j128 28), undef], []⟩) rfl (by kernel_rfl) (by kernel_rfl) (by kernel_rfl) (fun ch_ a_ w_ q_ => (fun ch_ a_ w_ q_ => hnp ch_ a_ w_ (hp58 ch_ a_ w_ q_)) ch_ a_ w_ (hp148 ch_ a_ w_ q_)) (Sg.g0 (Sx.of [] (FM.le.refl _) HS161)) ?_
    refine takeGQ 5 [] rfl (by kernel_rfl) (by kernel_rfl) (by kernel_rfl) (by kernel_rfl) (by kernel_rfl) (by kernel_rfl) (fun ch_ a_ w_ q_ => (fun ch_ a_ w_ q_ => hnp ch_ a_ w_ (hp58 ch_ a_ w_ q_)) ch_ a_ w_ (hp148 ch_ a_ w_ q_)) (Sg.g0 (Sx.of [] (FM.le.refl _) HS161)) (fun w_ hw_ => by obtain ⟨g_, hl_, hS_⟩ := hw_.st; exact run_index (sz := 1) rfl Try.underlying48 (by kernel_rfl) (by kernel_rfl : _ = Value.slice (some ⟨b167, of168, none⟩) held129.length c32) (by kernel_rfl : _ = Value.int .i64 (rd order37 x134)) c162 c163 w_) ?_
    refine takeGQ 6 [] rfl (by kernel_rfl) (by kernel_rfl) (by kernel_rfl) (by kernel_rfl) (by kernel_rfl) (by kernel_rfl) (fun ch_ a_ w_ q_ => (fun ch_ a_ w_ q_ => hnp ch_ a_ w_ (hp58 ch_ a_ w_ q_)) ch_ a_ w_ (hp148 ch_ a_ w_ q_)) (Sg.g0 (Sx.of [] (FM.le.refl _) HS161)) (fun w_ hw_ => by obtain ⟨g_, hl_, hS_⟩ := hw_.st; exact run_load rfl Try.underlying22 rfl (by kernel_rfl : _ = Value.pointer (some ⟨b167, of168 + ((rd order37 x134) : Int).toNat * 1, none⟩)) ((hc166 hS_.u4) 0 (by decide))) ?_
    refine takeG [7, 8, 9] (n := 3) (fuel := 0) (l' := #[true, true, true, true, true, true, true, true, true, true]) (a' := ⟨#[.agg #[.int .i64 s21.W, .int .i64 s21.H, .slice A22 s21.Bias.length c23, .slice A25 s21.Dark.length c26, .slice A28 s21.Flat.length c29, .int .i64 s21.Full, .int .i64 s21.Gain, .int .i64 s21.Noise], .slice (some ⟨b167, of168, none⟩) held129.length c32, .slice (some ⟨b156, of157, none⟩) order37.length c39, .func (.func 48) #[] #[.pointer (some ⟨b1, 0, none⟩)], .pointer (some ⟨b43, 0, none⟩), undef, undef, undef, .int .i64 0, .int .i64 flow133, undef, .int .i64 (rd order37 x134), .int .i64 (mn flow133 (w64 (s21.Full - (rd held129 (rd order37 x134))))), .slice (some ⟨b156, of157, none⟩) order37.length c39, .int .i64 (order37.length : Int), .int .i64 x134, .bool true, .pointer (some ⟨b156, of157 + (x134 : Int).toNat * 1, none⟩), .int .i64 (rd order37 x134), .int .i64 flow133, .pointer (some ⟨b43, 5, none⟩), .int .i64 s21.Full, .slice (some ⟨b167, of168, none⟩) held129.length c32, .int .i64 (rd order37 x134), .pointer (some ⟨b167, of168 + ((rd order37 x134) : Int).toNat * 1, none⟩), .int .i64 (rd held129 (rd order37 x134)), .int .i64 (w64 (s21.Full - (rd held129 (rd order37 x134)))), .int .i64 (mn flow133 (w64 (s21.Full - (rd held129 (rd order37 x134))))), (j128 14), (j128 15), (j128 16), (j128 17), (j128 18), (j128 19), (j128 20), (j128 21), (j128 22), (j128 23), (j128 24), (j128 25), (j128 26), (j128 27), (j128 28), undef], []⟩) rfl (by kernel_rfl) (by kernel_rfl) (by kernel_rfl) (fun ch_ a_ w_ q_ => (fun ch_ a_ w_ q_ => hnp ch_ a_ w_ (hp58 ch_ a_ w_ q_)) ch_ a_ w_ (hp148 ch_ a_ w_ q_)) (Sg.g0 (Sx.of [] (FM.le.refl _) HS161)) ?_
    refine doneG (by kernel_rfl) ?_ _
    refine hK159 _ _ ?_
    refine wp_seq_k (fun K169 hK170 => ?_)
    refine wp_region_lit ?_
    refine seqL2 (by kernel_rfl) ?_
    refine seqK rfl (does_run (run_index (sz := 1) rfl Try.underlying48 (by kernel_rfl) (by kernel_rfl : _ = Value.slice (some ⟨b167, of168, none⟩) held129.length c32) (by kernel_rfl : _ = Value.int .i64 (rd order37 x134)) c162 c163 W160) ?_)
    refine seqK rfl (does_run (run_load rfl Try.underlying22 rfl (by kernel_rfl : _ = Value.pointer (some ⟨b167, of168 + ((rd order37 x134) : Int).toNat * 1, none⟩)) ((hc166 HS161.u4) 0 (by decide))) ?_)
    refine seqL2 (by kernel_rfl) ?_
    refine seqK rfl (does_run (run_index (sz := 1) rfl Try.underlying48 (by kernel_rfl) (by kernel_rfl : _ = Value.slice (some ⟨b167, of168, none⟩) held129.length c32) (by kernel_rfl : _ = Value.int .i64 (rd order37 x134)) c162 c163 W160) ?_)
    have HS171 := HS161.u4
    refine seqK rfl (does_put (e := (tInt .i64)) (E := 22) (vs := [.int .i64 (w64 ((rd held129 (rd order37 x134)) + (mn flow133 (w64 (s21.Full - (rd held129 (rd order37 x134)))))))]) (u := w64 ((rd held129 (rd order37 x134)) + (mn flow133 (w64 (s21.Full - (rd held129 (rd order37 x134))))))) (i := (rd order37 x134)) rfl (by kernel_rfl) HO131 HS171 rfl (by kernel_rfl : _ = Value.pointer (some ⟨b167, of168 + ((rd order37 x134) : Int).toNat * 1, none⟩)) (by kernel_rfl : _ = Value.int .i64 (w64 ((rd held129 (rd order37 x134)) + (mn flow133 (w64 (s21.Full - (rd held129 (rd order37 x134)))))))) rfl rfl c162 c163 ?_)
    intro W172 s173 HS174 HO175
    refine seqRwS 1 (A := (some ⟨b167, of168, none⟩)) (m := held129.length) (n := (held129.set ((rd order37 x134)).toNat (w64 ((rd held129 (rd order37 x134)) + (mn flow133 (w64 (s21.Full - (rd held129 (rd order37 x134)))))))).length) (c := c32) (by kernel_rfl) (List.length_set).symm ?_
    refine seqRwS 22 (A := (some ⟨b167, of168, none⟩)) (m := held129.length) (n := (held129.set ((rd order37 x134)).toNat (w64 ((rd held129 (rd order37 x134)) + (mn flow133 (w64 (s21.Full - (rd held129 (rd order37 x134)))))))).length) (c := c32) (by kernel_rfl) (List.length_set).symm ?_
    refine seqRwS 28 (A := (some ⟨b167, of168, none⟩)) (m := held129.length) (n := (held129.set ((rd order37 x134)).toNat (w64 ((rd held129 (rd order37 x134)) + (mn flow133 (w64 (s21.Full - (rd held129 (rd order37 x134)))))))).length) (c := c32) (by kernel_rfl) (List.length_set).symm ?_
    refine wpList_nil ?_
    refine hK170 _ _ ?_
    refine wp_region_lit ?_
    have HS176 := HS174.u4
    have HS177 := HS176.u4
    have HS178 := HS177.u4
    have hq_ := bind_some h; clear h; obtain ⟨vt179, hc180, h⟩ := hq_
    refine seqL3 (by kernel_rfl) ?_
    refine seqK rfl (does_call (f := 48) (args := #[.int .i64 (rd order37 x134), .pointer (some ⟨b1, 0, none⟩)]) (by kernel_rfl) (sensor_Bleed_2.calls k b1 b3 A8 c9 b5 A12 c13 A15 c16 A18 c19 v7 v11 (rd order37 x134) HS178 (HR10.mono L125) (HR14.mono L125) (HR17.mono L125) (HR20.mono L125) vt179 hc180) ?_)
    rintro _ W183 ⟨f181, rfl, L182, HS184⟩
    refine ⟨_, rfl, ?_⟩
    refine seqS4 (a' := ⟨#[.agg #[.int .i64 s21.W, .int .i64 s21.H, .slice A22 s21.Bias.length c23, .slice A25 s21.Dark.length c26, .slice A28 s21.Flat.length c29, .int .i64 s21.Full, .int .i64 s21.Gain, .int .i64 s21.Noise], .slice (some ⟨b167, of168, none⟩) (held129.set ((rd order37 x134)).toNat (w64 ((rd held129 (rd order37 x134)) + (mn flow133 (w64 (s21.Full - (rd held129 (rd order37 x134)))))))).length c32, .slice (some ⟨b156, of157, none⟩) order37.length c39, .func (.func 48) #[] #[.pointer (some ⟨b1, 0, none⟩)], .pointer (some ⟨b43, 0, none⟩), undef, undef, undef, .int .i64 0, .int .i64 (w64 (flow133 + (w64 (vt179 - (mn flow133 (w64 (s21.Full - (rd held129 (rd order37 x134))))))))), undef, .int .i64 (rd order37 x134), .int .i64 (mn flow133 (w64 (s21.Full - (rd held129 (rd order37 x134))))), .slice (some ⟨b156, of157, none⟩) order37.length c39, .int .i64 (order37.length : Int), .int .i64 x134, .bool true, .pointer (some ⟨b156, of157 + (x134 : Int).toNat * 1, none⟩), .int .i64 (rd order37 x134), .int .i64 flow133, .pointer (some ⟨b43, 5, none⟩), .int .i64 s21.Full, .slice (some ⟨b167, of168, none⟩) (held129.set ((rd order37 x134)).toNat (w64 ((rd held129 (rd order37 x134)) + (mn flow133 (w64 (s21.Full - (rd held129 (rd order37 x134)))))))).length c32, .int .i64 (rd order37 x134), .pointer (some ⟨b167, of168 + ((rd order37 x134) : Int).toNat * 1, none⟩), .int .i64 (rd held129 (rd order37 x134)), .int .i64 (w64 (s21.Full - (rd held129 (rd order37 x134)))), .int .i64 (mn flow133 (w64 (s21.Full - (rd held129 (rd order37 x134))))), .slice (some ⟨b167, of168, none⟩) (held129.set ((rd order37 x134)).toNat (w64 ((rd held129 (rd order37 x134)) + (mn flow133 (w64 (s21.Full - (rd held129 (rd order37 x134)))))))).length c32, .int .i64 (rd order37 x134), .pointer (some ⟨b167, of168 + ((rd order37 x134) : Int).toNat * 1, none⟩), .int .i64 (rd held129 (rd order37 x134)), .int .i64 (mn flow133 (w64 (s21.Full - (rd held129 (rd order37 x134))))), .int .i64 (w64 ((rd held129 (rd order37 x134)) + (mn flow133 (w64 (s21.Full - (rd held129 (rd order37 x134))))))), .pointer (some ⟨b167, of168 + ((rd order37 x134) : Int).toNat * 1, none⟩), .int .i64 flow133, .func (.func 48) #[] #[.pointer (some ⟨b1, 0, none⟩)], .int .i64 (rd order37 x134), .int .i64 vt179, .int .i64 (mn flow133 (w64 (s21.Full - (rd held129 (rd order37 x134))))), .int .i64 (w64 (vt179 - (mn flow133 (w64 (s21.Full - (rd held129 (rd order37 x134))))))), .int .i64 (w64 (flow133 + (w64 (vt179 - (mn flow133 (w64 (s21.Full - (rd held129 (rd order37 x134))))))))), (j128 28), undef], []⟩) (by kernel_rfl) ?_
    refine wpList_nil ?_
    refine hn145 _ _ ?_
    refine hK142 _ _ ?_
    refine wp_region_lit ?_
    refine seqS2 (a' := ⟨#[.agg #[.int .i64 s21.W, .int .i64 s21.H, .slice A22 s21.Bias.length c23, .slice A25 s21.Dark.length c26, .slice A28 s21.Flat.length c29, .int .i64 s21.Full, .int .i64 s21.Gain, .int .i64 s21.Noise], .slice (some ⟨b167, of168, none⟩) (held129.set ((rd order37 x134)).toNat (w64 ((rd held129 (rd order37 x134)) + (mn flow133 (w64 (s21.Full - (rd held129 (rd order37 x134)))))))).length c32, .slice (some ⟨b156, of157, none⟩) order37.length c39, .func (.func 48) #[] #[.pointer (some ⟨b1, 0, none⟩)], .pointer (some ⟨b43, 0, none⟩), undef, undef, undef, .int .i64 0, .int .i64 (w64 (flow133 + (w64 (vt179 - (mn flow133 (w64 (s21.Full - (rd held129 (rd order37 x134))))))))), undef, .int .i64 (rd order37 x134), .int .i64 (mn flow133 (w64 (s21.Full - (rd held129 (rd order37 x134))))), .slice (some ⟨b156, of157, none⟩) order37.length c39, .int .i64 (order37.length : Int), .int .i64 (w64 (x134 + 1)), .bool true, .pointer (some ⟨b156, of157 + (x134 : Int).toNat * 1, none⟩), .int .i64 (rd order37 x134), .int .i64 flow133, .pointer (some ⟨b43, 5, none⟩), .int .i64 s21.Full, .slice (some ⟨b167, of168, none⟩) (held129.set ((rd order37 x134)).toNat (w64 ((rd held129 (rd order37 x134)) + (mn flow133 (w64 (s21.Full - (rd held129 (rd order37 x134)))))))).length c32, .int .i64 (rd order37 x134), .pointer (some ⟨b167, of168 + ((rd order37 x134) : Int).toNat * 1, none⟩), .int .i64 (rd held129 (rd order37 x134)), .int .i64 (w64 (s21.Full - (rd held129 (rd order37 x134)))), .int .i64 (mn flow133 (w64 (s21.Full - (rd held129 (rd order37 x134))))), .slice (some ⟨b167, of168, none⟩) (held129.set ((rd order37 x134)).toNat (w64 ((rd held129 (rd order37 x134)) + (mn flow133 (w64 (s21.Full - (rd held129 (rd order37 x134)))))))).length c32, .int .i64 (rd order37 x134), .pointer (some ⟨b167, of168 + ((rd order37 x134) : Int).toNat * 1, none⟩), .int .i64 (rd held129 (rd order37 x134)), .int .i64 (mn flow133 (w64 (s21.Full - (rd held129 (rd order37 x134))))), .int .i64 (w64 ((rd held129 (rd order37 x134)) + (mn flow133 (w64 (s21.Full - (rd held129 (rd order37 x134))))))), .pointer (some ⟨b167, of168 + ((rd order37 x134) : Int).toNat * 1, none⟩), .int .i64 flow133, .func (.func 48) #[] #[.pointer (some ⟨b1, 0, none⟩)], .int .i64 (rd order37 x134), .int .i64 vt179, .int .i64 (mn flow133 (w64 (s21.Full - (rd held129 (rd order37 x134))))), .int .i64 (w64 (vt179 - (mn flow133 (w64 (s21.Full - (rd held129 (rd order37 x134))))))), .int .i64 (w64 (flow133 + (w64 (vt179 - (mn flow133 (w64 (s21.Full - (rd held129 (rd order37 x134))))))))), .int .i64 (w64 (x134 + 1)), undef], []⟩) (by kernel_rfl) ?_
    refine wpList_nil ?_
    refine hK122 n123 _ _ (Nat.lt_succ_self _) ?_
    have HS198 := HS184.u3
    have HS199 := HS198.u3
    have HS200 := HS199.u3
    have HS201 := HS200.u3
    have HS202 := HS201.u4
    exact ⟨f181, s173, (held129.set ((rd order37 x134)).toNat (w64 ((rd held129 (rd order37 x134)) + (mn flow133 (w64 (s21.Full - (rd held129 (rd order37 x134)))))))), (w64 (flow133 + (w64 (vt179 - (mn flow133 (w64 (s21.Full - (rd held129 (rd order37 x134))))))))), (w64 (x134 + 1)), (fun i_ => [Value.int .i64 (rd order37 x134), Value.int .i64 (mn flow133 (w64 (s21.Full - (rd held129 (rd order37 x134))))), Value.bool true, Value.pointer (some ⟨b156, of157 + (x134 : Int).toNat * 1, none⟩), Value.int .i64 (rd order37 x134), Value.int .i64 flow133, Value.pointer (some ⟨b43, 5, none⟩), Value.int .i64 s21.Full, Value.slice (some ⟨b167, of168, none⟩) (held129.set ((rd order37 x134)).toNat (w64 ((rd held129 (rd order37 x134)) + (mn flow133 (w64 (s21.Full - (rd held129 (rd order37 x134)))))))).length c32, Value.int .i64 (rd order37 x134), Value.pointer (some ⟨b167, of168 + ((rd order37 x134) : Int).toNat * 1, none⟩), Value.int .i64 (rd held129 (rd order37 x134)), Value.int .i64 (w64 (s21.Full - (rd held129 (rd order37 x134)))), Value.int .i64 (mn flow133 (w64 (s21.Full - (rd held129 (rd order37 x134))))), Value.slice (some ⟨b167, of168, none⟩) (held129.set ((rd order37 x134)).toNat (w64 ((rd held129 (rd order37 x134)) + (mn flow133 (w64 (s21.Full - (rd held129 (rd order37 x134)))))))).length c32, Value.int .i64 (rd order37 x134), Value.pointer (some ⟨b167, of168 + ((rd order37 x134) : Int).toNat * 1, none⟩), Value.int .i64 (rd held129 (rd order37 x134)), Value.int .i64 (mn flow133 (w64 (s21.Full - (rd held129 (rd order37 x134))))), Value.int .i64 (w64 ((rd held129 (rd order37 x134)) + (mn flow133 (w64 (s21.Full - (rd held129 (rd order37 x134))))))), Value.pointer (some ⟨b167, of168 + ((rd order37 x134) : Int).toNat * 1, none⟩), Value.int .i64 flow133, Value.func (.func 48) #[] #[.pointer (some ⟨b1, 0, none⟩)], Value.int .i64 (rd order37 x134), Value.int .i64 vt179, Value.int .i64 (mn flow133 (w64 (s21.Full - (rd held129 (rd order37 x134))))), Value.int .i64 (w64 (vt179 - (mn flow133 (w64 (s21.Full - (rd held129 (rd order37 x134))))))), Value.int .i64 (w64 (flow133 + (w64 (vt179 - (mn flow133 (w64 (s21.Full - (rd held129 (rd order37 x134))))))))), Value.int .i64 (w64 (x134 + 1))].getD i_ undef), (L125.trans L182), HS202, (HO175.mono L182), (List.length_set.trans HL132), h, (by kernel_rfl)⟩
  · have c140 : ¬ (x134 < (order37.length : Int)) := c140
    refine wpRwI 16 (x := (decide (x134 < (order37.length : Int)))) (v := false) (by kernel_rfl) (decide_eq_false c140) ?_
    refine condF (by kernel_rfl) ?_
    refine wp_exit ?_
    refine hx54 _ _ ?_
    exact J196 f124 s130 held129 flow133 (fun i_ => [(j128 0), (j128 1), Value.int .i64 x134, Value.bool false, (j128 3), (j128 4), (j128 5), (j128 6), (j128 7), (j128 8), (j128 9), (j128 10), (j128 11), (j128 12), (j128 13), (j128 14), (j128 15), (j128 16), (j128 17), (j128 18), (j128 19), (j128 20), (j128 21), (j128 22), (j128 23), (j128 24), (j128 25), (j128 26), (j128 27), (j128 28)].getD i_ undef) W126 _ L125 h HS127 HO131 HL132 (by kernel_rfl)

set_option maxRecDepth 100000 in
set_option maxHeartbeats 4000000 in
theorem slices_Reverse_int.calls (k : Nat) (A1 : Option Addr) (c2 : Nat) (s3 : Seg) (s5 : List Int) {t w : World} {f : FM} {H : List Seg} (HS : St t w f (s3 :: H)) (HO4 : Own (tInt .i64) 3 f A1 c2 s3 s5) (r1 : List Int) (h : slices_Reverse_int k s5 = some r1) :
    Calls Try.prog 49 #[.slice A1 s5.length c2] w (fun e w' => ∃ (g : FM) (s135 : Seg), e = .returned (Value.tuple #[]) ∧ FM.le f g ∧ St t w' g (s135 :: H) ∧ Own (tInt .i64) 3 g A1 c2 s135 r1 ∧ r1.length = s5.length) := by
  unfold slices_Reverse_int at h
  refine enter Try.func49 rfl (tm := #[.slice A1 s5.length c2, undef, undef, undef, undef, undef, undef, undef, undef, undef, undef, undef, undef, undef, undef, undef, undef, undef, undef, undef, undef, undef, undef, undef, undef, undef, undef, undef]) (by kernel_rfl) ?_
  intro B hret hnor hnp
  refine wp_seq_k (fun K7 hK8 => ?_)
  refine wp_region_lit ?_
  refine seqS5 (a' := ⟨#[.slice A1 s5.length c2, undef, .int .i64 0, .int .i64 (w64 ((s5.length : Int) - 1)), .slice A1 s5.length c2, .int .i64 (s5.length : Int), .int .i64 (w64 ((s5.length : Int) - 1)), undef, undef, undef, undef, undef, undef, undef, undef, undef, undef, undef, undef, undef, undef, undef, undef, undef, undef, undef, undef, undef], []⟩) (by kernel_rfl) ?_
  refine wpList_nil ?_
  refine hK8 _ _ ?_
  refine blockK (fun B9 hx10 hn11 hr12 ho13 hp14 => ?_)
  have hq_ := bind_some h; clear h; obtain ⟨o67, hv132, h⟩ := hq_
  have J133 : ∀ (f123 : FM) (s129 : Seg) (s128 : List Int) (j127 : Nat → Value) (W125 : World) (a_ : Act), FM.le f f123 → some (s128) = some o67 → St t W125 f123 (s129 :: H) → Own (tInt .i64) 3 f123 A1 c2 s129 s128 → s128.length = s5.length → a_ = ⟨#[.slice A1 s128.length c2, undef, (j127 0), (j127 1), .slice A1 s5.length c2, .int .i64 (s5.length : Int), .int .i64 (w64 ((s5.length : Int) - 1)), (j127 2), (j127 3), (j127 4), (j127 5), (j127 6), (j127 7), (j127 8), (j127 9), (j127 10), (j127 11), (j127 12), (j127 13), (j127 14), (j127 15), (j127 16), (j127 17), (j127 18), (j127 19), (j127 20), (j127 21), (j127 22)], []⟩ → B Exit.normal a_ W125 := by
    intro f123 s129 s128 j127 W125 a_ L124 hj134 HS126 HO130 HL131 hfr_; subst hfr_
    injection hj134 with hj134; subst hj134; try dsimp only at h
    refine hnor _ _ ?_
    refine ends_still (v := Value.tuple #[]) (by kernel_rfl) (by kernel_rfl) ?_
    injection h with h
    subst h
    exact ⟨f123, s129, rfl, L124, HS126, HO130, HL131⟩
  clear h; have h := hv132; clear hv132
  refine loopK (fun n_ a_ w_ => ∃ (f71 : FM) (s77 : Seg) (s76 : List Int) (i80 : Int) (j81 : Int) (j75 : Nat → Value), FM.le f f71 ∧ St t w_ f71 (s77 :: H) ∧ Own (tInt .i64) 3 f71 A1 c2 s77 s76 ∧ s76.length = s5.length ∧ slices_Reverse_int.l0 k n_ s76 i80 j81 = some o67 ∧ a_ = ⟨#[.slice A1 s76.length c2, undef, .int .i64 i80, .int .i64 j81, .slice A1 s5.length c2, .int .i64 (s5.length : Int), .int .i64 (w64 ((s5.length : Int) - 1)), (j75 0), (j75 1), (j75 2), (j75 3), (j75 4), (j75 5), (j75 6), (j75 7), (j75 8), (j75 9), (j75 10), (j75 11), (j75 12), (j75 13), (j75 14), (j75 15), (j75 16), (j75 17), (j75 18), (j75 19), (j75 20)], []⟩) k ⟨f, s3, s5, 0, (w64 ((s5.length : Int) - 1)), (fun i_ => [undef, undef, undef, undef, undef, undef, undef, undef, undef, undef, undef, undef, undef, undef, undef, undef, undef, undef, undef, undef, undef].getD i_ undef), (FM.le.refl _), HS, HO4, rfl, h, (by kernel_rfl)⟩ ?_
  clear h
  rintro n70 _ W73 ⟨f71, s77, s76, i80, j81, j75, L72, HS74, HO78, HL79, h, rfl⟩ K68 hK69
  obtain _ | n70 := n70
  · exact nomatch h
  simp only [slices_Reverse_int.l0] at h
  refine wp_seq_k (fun K82 hK83 => ?_)
  refine wp_seq_k (fun K84 hK85 => ?_)
  refine wp_region_lit ?_
  refine seqS3 (a' := ⟨#[.slice A1 s76.length c2, undef, .int .i64 i80, .int .i64 j81, .slice A1 s5.length c2, .int .i64 (s5.length : Int), .int .i64 (w64 ((s5.length : Int) - 1)), .int .i64 i80, .int .i64 j81, .bool (decide (i80 < j81)), (j75 3), (j75 4), (j75 5), (j75 6), (j75 7), (j75 8), (j75 9), (j75 10), (j75 11), (j75 12), (j75 13), (j75 14), (j75 15), (j75 16), (j75 17), (j75 18), (j75 19), (j75 20)], []⟩) (by kernel_rfl) ?_
  refine wpList_nil ?_
  refine hK85 _ _ ?_
  have hq_ := ite_some h; clear h; rcases hq_ with ⟨c87, h⟩ | ⟨c87, h⟩
  · have c87 : i80 < j81 := c87
    refine wpRwI 9 (x := (decide (i80 < j81))) (v := true) (by kernel_rfl) (decide_eq_true c87) ?_
    refine condT (by kernel_rfl) ?_
    refine wp_skip ?_
    refine hK83 _ _ ?_
    refine wp_seq_k (fun K88 hK89 => ?_)
    refine blockK (fun B90 hx91 hn92 hr93 ho94 hp95 => ?_)
    refine heldG (S := Sg t f71 (H) [(13, s77)]) (n := 16) (by kernel_rfl) rfl HS74 ?_
    intro W97 HS98
    have hq_ := guard_some h; clear h; obtain ⟨c99, h⟩ := hq_
    have c99 : 0 ≤ j81 := c99
    have hq_ := guard_some h; clear h; obtain ⟨c100, h⟩ := hq_
    have c100 : j81 < (s76.length : Int) := c100
    obtain ⟨b104, of105, cs101, rfl, hr102, hc103⟩ := HO78.at (i := j81) c99 c100
    obtain rfl := hr102
    refine takeG [0, 1, 2, 3, 4, 5] (n := 16) (fuel := 10) (l' := #[true, true, true, true, true, true, false, false, false, false, false, false, false, false, false, false]) (a' := ⟨#[.slice (some ⟨b104, of105, none⟩) s76.length c2, undef, .int .i64 i80, .int .i64 j81, .slice (some ⟨b104, of105, none⟩) s5.length c2, .int .i64 (s5.length : Int), .int .i64 (w64 ((s5.length : Int) - 1)), .int .i64 i80, .int .i64 j81, .bool true, (j75 3), (j75 4), (j75 5), (j75 6), .slice (some ⟨b104, of105, none⟩) s76.length c2, .int .i64 i80, .slice (some ⟨b104, of105, none⟩) s76.length c2, .int .i64 j81, .slice (some ⟨b104, of105, none⟩) s76.length c2, .int .i64 j81, (j75 13), (j75 14), (j75 15), (j75 16), (j75 17), (j75 18), (j75 19), (j75 20)], []⟩) rfl (by kernel_rfl) (by kernel_rfl) (by kernel_rfl) (fun ch_ a_ w_ q_ => (fun ch_ a_ w_ q_ => hnp ch_ a_ w_ (hp14 ch_ a_ w_ q_)) ch_ a_ w_ (hp95 ch_ a_ w_ q_)) (Sg.g1 (Sx.of [s77] (FM.le.refl _) HS98) (fun _ => St.only [] HS98 (FM.le.refl _))) ?_
    refine takeGQ 6 [] rfl (by kernel_rfl) (by kernel_rfl) (by kernel_rfl) (by kernel_rfl) (by kernel_rfl) (by kernel_rfl) (fun ch_ a_ w_ q_ => (fun ch_ a_ w_ q_ => hnp ch_ a_ w_ (hp14 ch_ a_ w_ q_)) ch_ a_ w_ (hp95 ch_ a_ w_ q_)) (Sg.g1 (Sx.of [s77] (FM.le.refl _) HS98) (fun _ => St.only [] HS98 (FM.le.refl _))) (fun w_ hw_ => by obtain ⟨g_, hl_, hS_⟩ := hw_.st; exact run_index (sz := 1) rfl Try.underlying40 (by kernel_rfl) (by kernel_rfl : _ = Value.slice (some ⟨b104, of105, none⟩) s76.length c2) (by kernel_rfl : _ = Value.int .i64 j81) c99 c100 w_) ?_
    refine takeGQ 7 [13] rfl (by kernel_rfl) (by kernel_rfl) (by kernel_rfl) (by kernel_rfl) (by kernel_rfl) (by kernel_rfl) (fun ch_ a_ w_ q_ => (fun ch_ a_ w_ q_ => hnp ch_ a_ w_ (hp14 ch_ a_ w_ q_)) ch_ a_ w_ (hp95 ch_ a_ w_ q_)) (Sg.g1 (Sx.of [s77] (FM.le.refl _) HS98) (fun _ => St.only [] HS98 (FM.le.refl _))) (fun w_ hw_ => by obtain ⟨g_, hl_, hS_⟩ := hw_.seg (j := 13) (s := s77) (by simp) (by simp); exact run_load rfl Try.underlying3 rfl (by kernel_rfl : _ = Value.pointer (some ⟨b104, of105 + (j81 : Int).toNat * 1, none⟩)) ((hc103 hS_) 0 (by decide))) ?_
    have hq_ := guard_some h; clear h; obtain ⟨c106, h⟩ := hq_
    have c106 : 0 ≤ i80 := c106
    have hq_ := guard_some h; clear h; obtain ⟨c107, h⟩ := hq_
    have c107 : i80 < (s76.length : Int) := c107
    obtain ⟨cs108, hr109, hc110⟩ := HO78.at' (i := i80) c106 c107
    obtain rfl := hr109
    refine takeG [8, 9] (n := 8) (fuel := 6) (l' := #[true, true, true, true, true, true, true, true, true, true, false, false, false, false, false, false]) (a' := ⟨#[.slice (some ⟨b104, of105, none⟩) s76.length c2, undef, .int .i64 i80, .int .i64 j81, .slice (some ⟨b104, of105, none⟩) s5.length c2, .int .i64 (s5.length : Int), .int .i64 (w64 ((s5.length : Int) - 1)), .int .i64 i80, .int .i64 j81, .bool true, (j75 3), (j75 4), (j75 5), (j75 6), .slice (some ⟨b104, of105, none⟩) s76.length c2, .int .i64 i80, .slice (some ⟨b104, of105, none⟩) s76.length c2, .int .i64 j81, .slice (some ⟨b104, of105, none⟩) s76.length c2, .int .i64 j81, .pointer (some ⟨b104, of105 + (j81 : Int).toNat * 1, none⟩), .int .i64 (rd s76 j81), .slice (some ⟨b104, of105, none⟩) s76.length c2, .int .i64 i80, (j75 17), (j75 18), (j75 19), (j75 20)], []⟩) rfl (by kernel_rfl) (by kernel_rfl) (by kernel_rfl) (fun ch_ a_ w_ q_ => (fun ch_ a_ w_ q_ => hnp ch_ a_ w_ (hp14 ch_ a_ w_ q_)) ch_ a_ w_ (hp95 ch_ a_ w_ q_)) (Sg.g1 (Sx.of [s77] (FM.le.refl _) HS98) (fun _ => St.only [] HS98 (FM.le.refl _))) ?_
    refine takeGQ 10 [] rfl (by kernel_rfl) (by kernel_rfl) (by kernel_rfl) (by kernel_rfl) (by kernel_rfl) (by kernel_rfl) (fun ch_ a_ w_ q_ => (fun ch_ a_ w_ q_ => hnp ch_ a_ w_ (hp14 ch_ a_ w_ q_)) ch_ a_ w_ (hp95 ch_ a_ w_ q_)) (Sg.g1 (Sx.of [s77] (FM.le.refl _) HS98) (fun _ => St.only [] HS98 (FM.le.refl _))) (fun w_ hw_ => by obtain ⟨g_, hl_, hS_⟩ := hw_.st; exact run_index (sz := 1) rfl Try.underlying40 (by kernel_rfl) (by kernel_rfl : _ = Value.slice (some ⟨b104, of105, none⟩) s76.length c2) (by kernel_rfl : _ = Value.int .i64 i80) c106 c107 w_) ?_
    refine takeGQ 11 [13] rfl (by kernel_rfl) (by kernel_rfl) (by kernel_rfl) (by kernel_rfl) (by kernel_rfl) (by kernel_rfl) (fun ch_ a_ w_ q_ => (fun ch_ a_ w_ q_ => hnp ch_ a_ w_ (hp14 ch_ a_ w_ q_)) ch_ a_ w_ (hp95 ch_ a_ w_ q_)) (Sg.g1 (Sx.of [s77] (FM.le.refl _) HS98) (fun _ => St.only [] HS98 (FM.le.refl _))) (fun w_ hw_ => by obtain ⟨g_, hl_, hS_⟩ := hw_.seg (j := 13) (s := s77) (by simp) (by simp); exact run_load rfl Try.underlying3 rfl (by kernel_rfl : _ = Value.pointer (some ⟨b104, of105 + (i80 : Int).toNat * 1, none⟩)) ((hc110 hS_) 0 (by decide))) ?_
    refine takeGQ 12 [] rfl (by kernel_rfl) (by kernel_rfl) (by kernel_rfl) (by kernel_rfl) (by kernel_rfl) (by kernel_rfl) (fun ch_ a_ w_ q_ => (fun ch_ a_ w_ q_ => hnp ch_ a_ w_ (hp14 ch_ a_ w_ q_)) ch_ a_ w_ (hp95 ch_ a_ w_ q_)) (Sg.g1 (Sx.of [s77] (FM.le.refl _) HS98) (fun _ => St.only [] HS98 (FM.le.refl _))) (fun w_ hw_ => by obtain ⟨g_, hl_, hS_⟩ := hw_.st; exact run_index (sz := 1) rfl Try.underlying40 (by kernel_rfl) (by kernel_rfl : _ = Value.slice (some ⟨b104, of105, none⟩) s76.length c2) (by kernel_rfl : _ = Value.int .i64 i80) c106 c107 w_) ?_
    refine takeGE 13 (by kernel_rfl) rfl (by kernel_rfl) (does_put (e := (tInt .i64)) (E := 3) (vs := [.int .i64 (rd s76 j81)]) (u := (rd s76 j81)) (i := i80) rfl (by kernel_rfl) HO78 HS98 rfl (by kernel_rfl : _ = Value.pointer (some ⟨b104, of105 + (i80 : Int).toNat * 1, none⟩)) (by kernel_rfl : _ = Value.int .i64 (rd s76 j81)) rfl rfl c106 c107 ?_)
    intro W111 s112 HS113 HO114
    refine ⟨(Sg.g1 (Sx.of [s112] (FM.le.refl _) HS113) (fun hl_ => Bool.noConfusion (show true = false from hl_))), ?_⟩
    refine gateRwS 0 (A := (some ⟨b104, of105, none⟩)) (m := s76.length) (n := (s76.set (i80).toNat (rd s76 j81)).length) (c := c2) (by kernel_rfl) (List.length_set).symm ?_
    refine gateRwS 14 (A := (some ⟨b104, of105, none⟩)) (m := s76.length) (n := (s76.set (i80).toNat (rd s76 j81)).length) (c := c2) (by kernel_rfl) (List.length_set).symm ?_
    refine gateRwS 16 (A := (some ⟨b104, of105, none⟩)) (m := s76.length) (n := (s76.set (i80).toNat (rd s76 j81)).length) (c := c2) (by kernel_rfl) (List.length_set).symm ?_
    refine gateRwS 18 (A := (some ⟨b104, of105, none⟩)) (m := s76.length) (n := (s76.set (i80).toNat (rd s76 j81)).length) (c := c2) (by kernel_rfl) (List.length_set).symm ?_
    refine gateRwS 22 (A := (some ⟨b104, of105, none⟩)) (m := s76.length) (n := (s76.set (i80).toNat (rd s76 j81)).length) (c := c2) (by kernel_rfl) (List.length_set).symm ?_
    have hq_ := guard_some h; clear h; obtain ⟨c115, h⟩ := hq_
    have c115 : j81 < ((s76.set (i80).toNat (rd s76 j81)).length : Int) := c115
    obtain ⟨cs116, hr117, hc118⟩ := HO114.at' (i := j81) c99 c115
    obtain rfl := hr117
    refine takeGQ 14 [] rfl (by kernel_rfl) (by kernel_rfl) (by kernel_rfl) (by kernel_rfl) (by kernel_rfl) (by kernel_rfl) (fun ch_ a_ w_ q_ => (fun ch_ a_ w_ q_ => hnp ch_ a_ w_ (hp14 ch_ a_ w_ q_)) ch_ a_ w_ (hp95 ch_ a_ w_ q_)) (Sg.g1 (Sx.of [s112] (FM.le.refl _) HS113) (fun hl_ => Bool.noConfusion (show true = false from hl_))) (fun w_ hw_ => by obtain ⟨g_, hl_, hS_⟩ := hw_.st; exact run_index (sz := 1) rfl Try.underlying40 (by kernel_rfl) (by kernel_rfl : _ = Value.slice (some ⟨b104, of105, none⟩) (s76.set (i80).toNat (rd s76 j81)).length c2) (by kernel_rfl : _ = Value.int .i64 j81) c99 c115 w_) ?_
    refine takeGE 15 (by kernel_rfl) rfl (by kernel_rfl) (does_put (e := (tInt .i64)) (E := 3) (vs := [.int .i64 (rd s76 i80)]) (u := (rd s76 i80)) (i := j81) rfl (by kernel_rfl) HO114 HS113 rfl (by kernel_rfl : _ = Value.pointer (some ⟨b104, of105 + (j81 : Int).toNat * 1, none⟩)) (by kernel_rfl : _ = Value.int .i64 (rd s76 i80)) rfl rfl c99 c115 ?_)
    intro W119 s120 HS121 HO122
    refine ⟨(Sg.g1 (Sx.of [s120] (FM.le.refl _) HS121) (fun hl_ => Bool.noConfusion (show true = false from hl_))), ?_⟩
    refine gateRwS 0 (A := (some ⟨b104, of105, none⟩)) (m := (s76.set (i80).toNat (rd s76 j81)).length) (n := ((s76.set (i80).toNat (rd s76 j81)).set (j81).toNat (rd s76 i80)).length) (c := c2) (by kernel_rfl) (List.length_set).symm ?_
    refine gateRwS 14 (A := (some ⟨b104, of105, none⟩)) (m := (s76.set (i80).toNat (rd s76 j81)).length) (n := ((s76.set (i80).toNat (rd s76 j81)).set (j81).toNat (rd s76 i80)).length) (c := c2) (by kernel_rfl) (List.length_set).symm ?_
    refine gateRwS 16 (A := (some ⟨b104, of105, none⟩)) (m := (s76.set (i80).toNat (rd s76 j81)).length) (n := ((s76.set (i80).toNat (rd s76 j81)).set (j81).toNat (rd s76 i80)).length) (c := c2) (by kernel_rfl) (List.length_set).symm ?_
    refine gateRwS 18 (A := (some ⟨b104, of105, none⟩)) (m := (s76.set (i80).toNat (rd s76 j81)).length) (n := ((s76.set (i80).toNat (rd s76 j81)).set (j81).toNat (rd s76 i80)).length) (c := c2) (by kernel_rfl) (List.length_set).symm ?_
    refine gateRwS 22 (A := (some ⟨b104, of105, none⟩)) (m := (s76.set (i80).toNat (rd s76 j81)).length) (n := ((s76.set (i80).toNat (rd s76 j81)).set (j81).toNat (rd s76 i80)).length) (c := c2) (by kernel_rfl) (List.length_set).symm ?_
    refine doneG (by kernel_rfl) ?_ _
    refine hn92 _ _ ?_
    refine hK89 _ _ ?_
    refine wp_region_lit ?_
    refine seqS6 (a' := ⟨#[.slice (some ⟨b104, of105, none⟩) ((s76.set (i80).toNat (rd s76 j81)).set (j81).toNat (rd s76 i80)).length c2, undef, .int .i64 (w64 (i80 + 1)), .int .i64 (w64 (j81 - 1)), .slice (some ⟨b104, of105, none⟩) s5.length c2, .int .i64 (s5.length : Int), .int .i64 (w64 ((s5.length : Int) - 1)), .int .i64 i80, .int .i64 j81, .bool true, .int .i64 i80, .int .i64 (w64 (i80 + 1)), .int .i64 j81, .int .i64 (w64 (j81 - 1)), .slice (some ⟨b104, of105, none⟩) ((s76.set (i80).toNat (rd s76 j81)).set (j81).toNat (rd s76 i80)).length c2, .int .i64 i80, .slice (some ⟨b104, of105, none⟩) ((s76.set (i80).toNat (rd s76 j81)).set (j81).toNat (rd s76 i80)).length c2, .int .i64 j81, .slice (some ⟨b104, of105, none⟩) ((s76.set (i80).toNat (rd s76 j81)).set (j81).toNat (rd s76 i80)).length c2, .int .i64 j81, .pointer (some ⟨b104, of105 + (j81 : Int).toNat * 1, none⟩), .int .i64 (rd s76 j81), .slice (some ⟨b104, of105, none⟩) ((s76.set (i80).toNat (rd s76 j81)).set (j81).toNat (rd s76 i80)).length c2, .int .i64 i80, .pointer (some ⟨b104, of105 + (i80 : Int).toNat * 1, none⟩), .int .i64 (rd s76 i80), .pointer (some ⟨b104, of105 + (i80 : Int).toNat * 1, none⟩), .pointer (some ⟨b104, of105 + (j81 : Int).toNat * 1, none⟩)], []⟩) (by kernel_rfl) ?_
    refine wpList_nil ?_
    refine hK69 n70 _ _ (Nat.lt_succ_self _) ?_
    exact ⟨f71, s120, ((s76.set (i80).toNat (rd s76 j81)).set (j81).toNat (rd s76 i80)), (w64 (i80 + 1)), (w64 (j81 - 1)), (fun i_ => [Value.int .i64 i80, Value.int .i64 j81, Value.bool true, Value.int .i64 i80, Value.int .i64 (w64 (i80 + 1)), Value.int .i64 j81, Value.int .i64 (w64 (j81 - 1)), Value.slice (some ⟨b104, of105, none⟩) ((s76.set (i80).toNat (rd s76 j81)).set (j81).toNat (rd s76 i80)).length c2, Value.int .i64 i80, Value.slice (some ⟨b104, of105, none⟩) ((s76.set (i80).toNat (rd s76 j81)).set (j81).toNat (rd s76 i80)).length c2, Value.int .i64 j81, Value.slice (some ⟨b104, of105, none⟩) ((s76.set (i80).toNat (rd s76 j81)).set (j81).toNat (rd s76 i80)).length c2, Value.int .i64 j81, Value.pointer (some ⟨b104, of105 + (j81 : Int).toNat * 1, none⟩), Value.int .i64 (rd s76 j81), Value.slice (some ⟨b104, of105, none⟩) ((s76.set (i80).toNat (rd s76 j81)).set (j81).toNat (rd s76 i80)).length c2, Value.int .i64 i80, Value.pointer (some ⟨b104, of105 + (i80 : Int).toNat * 1, none⟩), Value.int .i64 (rd s76 i80), Value.pointer (some ⟨b104, of105 + (i80 : Int).toNat * 1, none⟩), Value.pointer (some ⟨b104, of105 + (j81 : Int).toNat * 1, none⟩)].getD i_ undef), L72, HS121, HO122, (List.length_set.trans (List.length_set.trans HL79)), h, (by kernel_rfl)⟩
  · have c87 : ¬ (i80 < j81) := c87
    refine wpRwI 9 (x := (decide (i80 < j81))) (v := false) (by kernel_rfl) (decide_eq_false c87) ?_
    refine condF (by kernel_rfl) ?_
    refine wp_exit ?_
    refine hx10 _ _ ?_
    exact J133 f71 s77 s76 (fun i_ => [Value.int .i64 i80, Value.int .i64 j81, Value.int .i64 i80, Value.int .i64 j81, Value.bool false, (j75 3), (j75 4), (j75 5), (j75 6), (j75 7), (j75 8), (j75 9), (j75 10), (j75 11), (j75 12), (j75 13), (j75 14), (j75 15), (j75 16), (j75 17), (j75 18), (j75 19), (j75 20)].getD i_ undef) W73 _ L72 h HS74 HO78 HL79 (by kernel_rfl)

set_option maxRecDepth 100000 in
set_option maxHeartbeats 4000000 in
theorem sensor_Bleed_3.calls (k : Nat) (b1 : Nat) (b3 : Nat) (A8 : Option Addr) (c9 : Nat) (b5 : Nat) (A12 : Option Addr) (c13 : Nat) (A15 : Option Addr) (c16 : Nat) (A18 : Option Addr) (c19 : Nat) (v7 : List Int) (v11 : S_Sensor) (i21 : Int) {t w : World} {f : FM} {H : List Seg} (HS : St t w f ([(b1, .cells #[.func (.func 46) #[] #[.pointer (some ⟨b3, 0, none⟩), .pointer (some ⟨b5, 0, none⟩)]] 76 (0, 0))] :: [(b3, .cells #[.slice A8 v7.length c9] 48 (0, 0))] :: [(b5, .cells #[.int .i64 v11.W, .int .i64 v11.H, .slice A12 v11.Bias.length c13, .slice A15 v11.Dark.length c16, .slice A18 v11.Flat.length c19, .int .i64 v11.Full, .int .i64 v11.Gain, .int .i64 v11.Noise] 46 (0, 0))] :: H)) (HR10 : SlR (tInt .i64) f A8 c9 v7) (HR14 : SlR (tInt .i64) f A12 c13 v11.Bias) (HR17 : SlR (tInt .i64) f A15 c16 v11.Dark) (HR20 : SlR (tInt .i64) f A18 c19 v11.Flat) (r1 : Int) (h : sensor_Bleed_3 k v7 v11 i21 = some r1) :
    Calls Try.prog 50 #[.int .i64 i21, .pointer (some ⟨b1, 0, none⟩)] w (fun e w' => ∃ (g : FM), e = .returned (Value.int .i64 r1) ∧ FM.le f g ∧ St t w' g ([(b1, .cells #[.func (.func 46) #[] #[.pointer (some ⟨b3, 0, none⟩), .pointer (some ⟨b5, 0, none⟩)]] 76 (0, 0))] :: [(b3, .cells #[.slice A8 v7.length c9] 48 (0, 0))] :: [(b5, .cells #[.int .i64 v11.W, .int .i64 v11.H, .slice A12 v11.Bias.length c13, .slice A15 v11.Dark.length c16, .slice A18 v11.Flat.length c19, .int .i64 v11.Full, .int .i64 v11.Gain, .int .i64 v11.Noise] 46 (0, 0))] :: H)) := by
  unfold sensor_Bleed_3 at h
  refine enter Try.func50 rfl (tm := #[.int .i64 i21, .pointer (some ⟨b1, 0, none⟩), undef, undef, undef, undef, undef, undef]) (by kernel_rfl) ?_
  intro B hret hnor hnp
  refine wp_seq_k (fun K22 hK23 => ?_)
  refine wp_region_lit ?_
  refine seqS1 (a' := ⟨#[.int .i64 i21, .pointer (some ⟨b1, 0, none⟩), undef, .int .i64 0, undef, undef, undef, undef], []⟩) (by kernel_rfl) ?_
  refine wpList_nil ?_
  refine hK23 _ _ ?_
  refine wp_seq_k (fun K24 hK25 => ?_)
  refine wp_region_lit ?_
  refine seqK rfl (does_run (run_load rfl Try.underlying76 rfl (by kernel_rfl : _ = Value.pointer (some ⟨b1, 0, none⟩)) (HS.cell 0)) ?_)
  have HS26 := HS.u2
  have HS27 := HS26.u2
  have hq_ := bind_some h; clear h; obtain ⟨vt28, hc29, h⟩ := hq_
  refine seqL1 (by kernel_rfl) ?_
  refine seqK rfl (does_call (f := 46) (args := #[.int .i64 i21, .pointer (some ⟨b3, 0, none⟩), .pointer (some ⟨b5, 0, none⟩)]) (by kernel_rfl) (sensor_Bleed_1.calls k b3 A8 c9 b5 A12 c13 A15 c16 A18 c19 v7 v11 i21 HS27 HR10 HR14 HR17 HR20 vt28 hc29) ?_)
  rintro _ W32 ⟨f30, rfl, L31, HS33⟩
  refine ⟨_, rfl, ?_⟩
  refine seqS2 (a' := ⟨#[.int .i64 i21, .pointer (some ⟨b1, 0, none⟩), undef, .int .i64 (w64 (Int.tdiv vt28 2)), .func (.func 46) #[] #[.pointer (some ⟨b3, 0, none⟩), .pointer (some ⟨b5, 0, none⟩)], .int .i64 i21, .int .i64 vt28, .int .i64 (w64 (Int.tdiv vt28 2))], []⟩) (by kernel_rfl) ?_
  refine wpList_nil ?_
  refine hK25 _ _ ?_
  refine wp_ret ?_
  refine hret _ _ ?_
  refine ends_still (v := Value.int .i64 (w64 (Int.tdiv vt28 2))) (by kernel_rfl) (by kernel_rfl) ?_
  have HS34 := HS33.u1
  have HS35 := HS34.u1
  have HS36 := HS35.u2
  injection h with h
  subst h
  exact ⟨f30, rfl, L31, HS36⟩

set_option maxRecDepth 100000 in
set_option maxHeartbeats 4000000 in
theorem sensor_pour__sensor_Bleed_3.calls (k : Nat) (b1 : Nat) (b3 : Nat) (A8 : Option Addr) (c9 : Nat) (b5 : Nat) (A12 : Option Addr) (c13 : Nat) (A15 : Option Addr) (c16 : Nat) (A18 : Option Addr) (c19 : Nat) (A22 : Option Addr) (c23 : Nat) (A25 : Option Addr) (c26 : Nat) (A28 : Option Addr) (c29 : Nat) (A31 : Option Addr) (c32 : Nat) (s33 : Seg) (A38 : Option Addr) (c39 : Nat) (v7 : List Int) (v11 : S_Sensor) (s21 : S_Sensor) (held35 : List Int) (order37 : List Int) {t w : World} {f : FM} {H : List Seg} (HS : St t w f ([(b1, .cells #[.func (.func 46) #[] #[.pointer (some ⟨b3, 0, none⟩), .pointer (some ⟨b5, 0, none⟩)]] 76 (0, 0))] :: [(b3, .cells #[.slice A8 v7.length c9] 48 (0, 0))] :: [(b5, .cells #[.int .i64 v11.W, .int .i64 v11.H, .slice A12 v11.Bias.length c13, .slice A15 v11.Dark.length c16, .slice A18 v11.Flat.length c19, .int .i64 v11.Full, .int .i64 v11.Gain, .int .i64 v11.Noise] 46 (0, 0))] :: s33 :: H)) (HR10 : SlR (tInt .i64) f A8 c9 v7) (HR14 : SlR (tInt .i64) f A12 c13 v11.Bias) (HR17 : SlR (tInt .i64) f A15 c16 v11.Dark) (HR20 : SlR (tInt .i64) f A18 c19 v11.Flat) (HR24 : SlR (tInt .i64) f A22 c23 s21.Bias) (HR27 : SlR (tInt .i64) f A25 c26 s21.Dark) (HR30 : SlR (tInt .i64) f A28 c29 s21.Flat) (HO34 : Own (tInt .i64) 22 f A31 c32 s33 held35) (HR40 : SlR (tInt .i64) f A38 c39 order37) (r1 : Int) (r2 : List Int) (h : sensor_pour__sensor_Bleed_3 k v7 v11 s21 held35 order37 = some (r1, r2)) :
    Calls Try.prog 47 #[.agg #[.int .i64 s21.W, .int .i64 s21.H, .slice A22 s21.Bias.length c23, .slice A25 s21.Dark.length c26, .slice A28 s21.Flat.length c29, .int .i64 s21.Full, .int .i64 s21.Gain, .int .i64 s21.Noise], .slice A31 held35.length c32, .slice A38 order37.length c39, .func (.func 50) #[] #[.pointer (some ⟨b1, 0, none⟩)]] w (fun e w' => ∃ (g : FM) (s206 : Seg), e = .returned (Value.int .i64 r1) ∧ FM.le f g ∧ St t w' g ([(b1, .cells #[.func (.func 46) #[] #[.pointer (some ⟨b3, 0, none⟩), .pointer (some ⟨b5, 0, none⟩)]] 76 (0, 0))] :: [(b3, .cells #[.slice A8 v7.length c9] 48 (0, 0))] :: [(b5, .cells #[.int .i64 v11.W, .int .i64 v11.H, .slice A12 v11.Bias.length c13, .slice A15 v11.Dark.length c16, .slice A18 v11.Flat.length c19, .int .i64 v11.Full, .int .i64 v11.Gain, .int .i64 v11.Noise] 46 (0, 0))] :: s206 :: H) ∧ Own (tInt .i64) 22 g A31 c32 s206 r2 ∧ r2.length = held35.length) := by
  unfold sensor_pour__sensor_Bleed_3 at h
  refine enter Try.func47 rfl (tm := #[.agg #[.int .i64 s21.W, .int .i64 s21.H, .slice A22 s21.Bias.length c23, .slice A25 s21.Dark.length c26, .slice A28 s21.Flat.length c29, .int .i64 s21.Full, .int .i64 s21.Gain, .int .i64 s21.Noise], .slice A31 held35.length c32, .slice A38 order37.length c39, .func (.func 50) #[] #[.pointer (some ⟨b1, 0, none⟩)], undef, undef, undef, undef, undef, undef, undef, undef, undef, undef, undef, undef, undef, undef, undef, undef, undef, undef, undef, undef, undef, undef, undef, undef, undef, undef, undef, undef, undef, undef, undef, undef, undef, undef, undef, undef, undef, undef, undef, undef]) (by kernel_rfl) ?_
  intro B hret hnor hnp
  refine wp_seq_k (fun K41 hK42 => ?_)
  refine wp_region_lit ?_
  refine seqK rfl (does_box (cs := #[.int .i64 s21.W, .int .i64 s21.H, .slice A22 s21.Bias.length c23, .slice A25 s21.Dark.length c26, .slice A28 s21.Flat.length c29, .int .i64 s21.Full, .int .i64 s21.Gain, .int .i64 s21.Noise]) rfl (by kernel_rfl : _ = Value.agg #[.int .i64 s21.W, .int .i64 s21.H, .slice A22 s21.Bias.length c23, .slice A25 s21.Dark.length c26, .slice A28 s21.Flat.length c29, .int .i64 s21.Full, .int .i64 s21.Gain, .int .i64 s21.Noise]) rfl HS ?_)
  intro b43 W44 HS45
  refine seqS1 (a' := ⟨#[.agg #[.int .i64 s21.W, .int .i64 s21.H, .slice A22 s21.Bias.length c23, .slice A25 s21.Dark.length c26, .slice A28 s21.Flat.length c29, .int .i64 s21.Full, .int .i64 s21.Gain, .int .i64 s21.Noise], .slice A31 held35.length c32, .slice A38 order37.length c39, .func (.func 50) #[] #[.pointer (some ⟨b1, 0, none⟩)], .pointer (some ⟨b43, 0, none⟩), undef, undef, undef, .int .i64 0, undef, undef, undef, undef, undef, undef, undef, undef, undef, undef, undef, undef, undef, undef, undef, undef, undef, undef, undef, undef, undef, undef, undef, undef, undef, undef, undef, undef, undef, undef, undef, undef, undef, undef, undef], []⟩) (by kernel_rfl) ?_
  refine wpList_nil ?_
  refine hK42 _ _ ?_
  refine wp_seq_k (fun K47 hK48 => ?_)
  refine wp_region_lit ?_
  refine seqS1 (a' := ⟨#[.agg #[.int .i64 s21.W, .int .i64 s21.H, .slice A22 s21.Bias.length c23, .slice A25 s21.Dark.length c26, .slice A28 s21.Flat.length c29, .int .i64 s21.Full, .int .i64 s21.Gain, .int .i64 s21.Noise], .slice A31 held35.length c32, .slice A38 order37.length c39, .func (.func 50) #[] #[.pointer (some ⟨b1, 0, none⟩)], .pointer (some ⟨b43, 0, none⟩), undef, undef, undef, .int .i64 0, .int .i64 0, undef, undef, undef, undef, undef, undef, undef, undef, undef, undef, undef, undef, undef, undef, undef, undef, undef, undef, undef, undef, undef, undef, undef, undef, undef, undef, undef, undef, undef, undef, undef, undef, undef, undef], []⟩) (by kernel_rfl) ?_
  refine wpList_nil ?_
  refine hK48 _ _ ?_
  refine wp_seq_k (fun K49 hK50 => ?_)
  refine wp_seq_k (fun K51 hK52 => ?_)
  refine wp_region_lit ?_
  refine seqS3 (a' := ⟨#[.agg #[.int .i64 s21.W, .int .i64 s21.H, .slice A22 s21.Bias.length c23, .slice A25 s21.Dark.length c26, .slice A28 s21.Flat.length c29, .int .i64 s21.Full, .int .i64 s21.Gain, .int .i64 s21.Noise], .slice A31 held35.length c32, .slice A38 order37.length c39, .func (.func 50) #[] #[.pointer (some ⟨b1, 0, none⟩)], .pointer (some ⟨b43, 0, none⟩), undef, undef, undef, .int .i64 0, .int .i64 0, undef, undef, undef, .slice A38 order37.length c39, .int .i64 (order37.length : Int), .int .i64 0, undef, undef, undef, undef, undef, undef, undef, undef, undef, undef, undef, undef, undef, undef, undef, undef, undef, undef, undef, undef, undef, undef, undef, undef, undef, undef, undef, undef], []⟩) (by kernel_rfl) ?_
  refine wpList_nil ?_
  refine hK52 _ _ ?_
  refine blockK (fun B53 hx54 hn55 hr56 ho57 hp58 => ?_)
  have hq_ := bind_some h; clear h; obtain ⟨o120, hv195, h⟩ := hq_
  have J196 : ∀ (f185 : FM) (s191 : Seg) (held190 : List Int) (flow194 : Int) (j189 : Nat → Value) (W187 : World) (a_ : Act), FM.le f f185 → some ((held190, flow194)) = some o120 → St t W187 f185 ([(b43, .cells #[.int .i64 s21.W, .int .i64 s21.H, .slice A22 s21.Bias.length c23, .slice A25 s21.Dark.length c26, .slice A28 s21.Flat.length c29, .int .i64 s21.Full, .int .i64 s21.Gain, .int .i64 s21.Noise] 46 (0, 0))] :: [(b1, .cells #[.func (.func 46) #[] #[.pointer (some ⟨b3, 0, none⟩), .pointer (some ⟨b5, 0, none⟩)]] 76 (0, 0))] :: [(b3, .cells #[.slice A8 v7.length c9] 48 (0, 0))] :: [(b5, .cells #[.int .i64 v11.W, .int .i64 v11.H, .slice A12 v11.Bias.length c13, .slice A15 v11.Dark.length c16, .slice A18 v11.Flat.length c19, .int .i64 v11.Full, .int .i64 v11.Gain, .int .i64 v11.Noise] 46 (0, 0))] :: s191 :: H) → Own (tInt .i64) 22 f185 A31 c32 s191 held190 → held190.length = held35.length → a_ = ⟨#[.agg #[.int .i64 s21.W, .int .i64 s21.H, .slice A22 s21.Bias.length c23, .slice A25 s21.Dark.length c26, .slice A28 s21.Flat.length c29, .int .i64 s21.Full, .int .i64 s21.Gain, .int .i64 s21.Noise], .slice A31 held190.length c32, .slice A38 order37.length c39, .func (.func 50) #[] #[.pointer (some ⟨b1, 0, none⟩)], .pointer (some ⟨b43, 0, none⟩), undef, undef, undef, .int .i64 0, .int .i64 flow194, undef, (j189 0), (j189 1), .slice A38 order37.length c39, .int .i64 (order37.length : Int), (j189 2), (j189 3), (j189 4), (j189 5), (j189 6), (j189 7), (j189 8), (j189 9), (j189 10), (j189 11), (j189 12), (j189 13), (j189 14), (j189 15), (j189 16), (j189 17), (j189 18), (j189 19), (j189 20), (j189 21), (j189 22), (j189 23), (j189 24), (j189 25), (j189 26), (j189 27), (j189 28), (j189 29), undef], []⟩ → K49 a_ W187 := by
    intro f185 s191 held190 flow194 j189 W187 a_ L186 hj197 HS188 HO192 HL193 hfr_; subst hfr_
    injection hj197 with hj197; subst hj197; try dsimp only at h
    refine hK50 _ _ ?_
    refine wp_seq_k (fun K203 hK204 => ?_)
    refine wp_region_lit ?_
    refine seqS2 (a' := ⟨#[.agg #[.int .i64 s21.W, .int .i64 s21.H, .slice A22 s21.Bias.length c23, .slice A25 s21.Dark.length c26, .slice A28 s21.Flat.length c29, .int .i64 s21.Full, .int .i64 s21.Gain, .int .i64 s21.Noise], .slice A31 held190.length c32, .slice A38 order37.length c39, .func (.func 50) #[] #[.pointer (some ⟨b1, 0, none⟩)], .pointer (some ⟨b43, 0, none⟩), undef, undef, undef, .int .i64 flow194, .int .i64 flow194, undef, (j189 0), (j189 1), .slice A38 order37.length c39, .int .i64 (order37.length : Int), (j189 2), (j189 3), (j189 4), (j189 5), (j189 6), (j189 7), (j189 8), (j189 9), (j189 10), (j189 11), (j189 12), (j189 13), (j189 14), (j189 15), (j189 16), (j189 17), (j189 18), (j189 19), (j189 20), (j189 21), (j189 22), (j189 23), (j189 24), (j189 25), (j189 26), (j189 27), (j189 28), (j189 29), .int .i64 flow194], []⟩) (by kernel_rfl) ?_
    refine wpList_nil ?_
    refine hK204 _ _ ?_
    refine wp_ret ?_
    refine hret _ _ ?_
    refine ends_still (v := Value.int .i64 flow194) (by kernel_rfl) (by kernel_rfl) ?_
    have HS205 := HS188.drop
    injection h with h
    injection h with h0_ h
    subst h0_ h
    exact ⟨f185, s191, rfl, L186, HS205, HO192, HL193⟩
  clear h; have h := hv195; clear hv195
  refine loopK (fun n_ a_ w_ => ∃ (f124 : FM) (s130 : Seg) (held129 : List Int) (flow133 : Int) (x134 : Int) (j128 : Nat → Value), FM.le f f124 ∧ St t w_ f124 ([(b43, .cells #[.int .i64 s21.W, .int .i64 s21.H, .slice A22 s21.Bias.length c23, .slice A25 s21.Dark.length c26, .slice A28 s21.Flat.length c29, .int .i64 s21.Full, .int .i64 s21.Gain, .int .i64 s21.Noise] 46 (0, 0))] :: [(b1, .cells #[.func (.func 46) #[] #[.pointer (some ⟨b3, 0, none⟩), .pointer (some ⟨b5, 0, none⟩)]] 76 (0, 0))] :: [(b3, .cells #[.slice A8 v7.length c9] 48 (0, 0))] :: [(b5, .cells #[.int .i64 v11.W, .int .i64 v11.H, .slice A12 v11.Bias.length c13, .slice A15 v11.Dark.length c16, .slice A18 v11.Flat.length c19, .int .i64 v11.Full, .int .i64 v11.Gain, .int .i64 v11.Noise] 46 (0, 0))] :: s130 :: H) ∧ Own (tInt .i64) 22 f124 A31 c32 s130 held129 ∧ held129.length = held35.length ∧ sensor_pour__sensor_Bleed_3.l0 k order37 v7 v11 s21 n_ held129 flow133 x134 = some o120 ∧ a_ = ⟨#[.agg #[.int .i64 s21.W, .int .i64 s21.H, .slice A22 s21.Bias.length c23, .slice A25 s21.Dark.length c26, .slice A28 s21.Flat.length c29, .int .i64 s21.Full, .int .i64 s21.Gain, .int .i64 s21.Noise], .slice A31 held129.length c32, .slice A38 order37.length c39, .func (.func 50) #[] #[.pointer (some ⟨b1, 0, none⟩)], .pointer (some ⟨b43, 0, none⟩), undef, undef, undef, .int .i64 0, .int .i64 flow133, undef, (j128 0), (j128 1), .slice A38 order37.length c39, .int .i64 (order37.length : Int), .int .i64 x134, (j128 2), (j128 3), (j128 4), (j128 5), (j128 6), (j128 7), (j128 8), (j128 9), (j128 10), (j128 11), (j128 12), (j128 13), (j128 14), (j128 15), (j128 16), (j128 17), (j128 18), (j128 19), (j128 20), (j128 21), (j128 22), (j128 23), (j128 24), (j128 25), (j128 26), (j128 27), (j128 28), undef], []⟩) k ⟨f, s33, held35, 0, 0, (fun i_ => [undef, undef, undef, undef, undef, undef, undef, undef, undef, undef, undef, undef, undef, undef, undef, undef, undef, undef, undef, undef, undef, undef, undef, undef, undef, undef, undef, undef, undef].getD i_ undef), (FM.le.refl _), HS45, HO34, rfl, h, (by kernel_rfl)⟩ ?_
  clear h
  rintro n123 _ W126 ⟨f124, s130, held129, flow133, x134, j128, L125, HS127, HO131, HL132, h, rfl⟩ K121 hK122
  obtain _ | n123 := n123
  · exact nomatch h
  simp only [sensor_pour__sensor_Bleed_3.l0] at h
  refine wp_seq_k (fun K135 hK136 => ?_)
  refine wp_region_lit ?_
  refine seqS1 (a' := ⟨#[.agg #[.int .i64 s21.W, .int .i64 s21.H, .slice A22 s21.Bias.length c23, .slice A25 s21.Dark.length c26, .slice A28 s21.Flat.length c29, .int .i64 s21.Full, .int .i64 s21.Gain, .int .i64 s21.Noise], .slice A31 held129.length c32, .slice A38 order37.length c39, .func (.func 50) #[] #[.pointer (some ⟨b1, 0, none⟩)], .pointer (some ⟨b43, 0, none⟩), undef, undef, undef, .int .i64 0, .int .i64 flow133, undef, (j128 0), (j128 1), .slice A38 order37.length c39, .int .i64 (order37.length : Int), .int .i64 x134, .bool (decide (x134 < (order37.length : Int))), (j128 3), (j128 4), (j128 5), (j128 6), (j128 7), (j128 8), (j128 9), (j128 10), (j128 11), (j128 12), (j128 13), (j128 14), (j128 15), (j128 16), (j128 17), (j128 18), (j128 19), (j128 20), (j128 21), (j128 22), (j128 23), (j128 24), (j128 25), (j128 26), (j128 27), (j128 28), undef], []⟩) (by kernel_rfl) ?_
  refine wpList_nil ?_
  refine hK136 _ _ ?_
  refine wp_seq_k (fun K137 hK138 => ?_)
  have hq_ := ite_some h; clear h; rcases hq_ with ⟨c140, h⟩ | ⟨c140, h⟩
  · have c140 : x134 < (order37.length : Int) := c140
    refine wpRwI 16 (x := (decide (x134 < (order37.length : Int)))) (v := true) (by kernel_rfl) (decide_eq_true c140) ?_
    refine condT (by kernel_rfl) ?_
    refine wp_skip ?_
    refine hK138 _ _ ?_
    refine wp_seq_k (fun K141 hK142 => ?_)
    refine blockK (fun B143 hx144 hn145 hr146 ho147 hp148 => ?_)
    refine wp_seq_k (fun K150 hK151 => ?_)
    refine wp_region_lit ?_
    have hq_ := guard_some h; clear h; obtain ⟨c152, h⟩ := hq_
    have c152 : 0 ≤ x134 := c152
    obtain ⟨b156, of157, cs153, rfl, hr154, hc155⟩ := (HR40.mono L125).at (i := x134) c152 c140
    obtain rfl := hr154
    refine seqK rfl (does_run (run_index (sz := 1) rfl Try.underlying40 (by kernel_rfl) (by kernel_rfl : _ = Value.slice (some ⟨b156, of157, none⟩) order37.length c39) (by kernel_rfl : _ = Value.int .i64 x134) c152 c140 W126) ?_)
    refine seqK rfl (does_run (run_load rfl Try.underlying3 rfl (by kernel_rfl : _ = Value.pointer (some ⟨b156, of157 + (x134 : Int).toNat * 1, none⟩)) ((hc155 (FM.le.refl _) HS127) 0 (by decide))) ?_)
    refine seqS1 (a' := ⟨#[.agg #[.int .i64 s21.W, .int .i64 s21.H, .slice A22 s21.Bias.length c23, .slice A25 s21.Dark.length c26, .slice A28 s21.Flat.length c29, .int .i64 s21.Full, .int .i64 s21.Gain, .int .i64 s21.Noise], .slice A31 held129.length c32, .slice (some ⟨b156, of157, none⟩) order37.length c39, .func (.func 50) #[] #[.pointer (some ⟨b1, 0, none⟩)], .pointer (some ⟨b43, 0, none⟩), undef, undef, undef, .int .i64 0, .int .i64 flow133, undef, .int .i64 (rd order37 x134), (j128 1), .slice (some ⟨b156, of157, none⟩) order37.length c39, .int .i64 (order37.length : Int), .int .i64 x134, .bool true, .pointer (some ⟨b156, of157 + (x134 : Int).toNat * 1, none⟩), .int .i64 (rd order37 x134), (j128 5), (j128 6), (j128 7), (j128 8), (j128 9), (j128 10), (j128 11), (j128 12), (j128 13), (j128 14), (j128 15), (j128 16), (j128 17), (j128 18), (j128 19), (j128 20), (j128 21), (j128 22), (j128 23), (j128 24), (j128 25), (j128 26), (j128 27), (j128 28), undef], []⟩) (by kernel_rfl) ?_
    refine wpList_nil ?_
    refine hK151 _ _ ?_
    refine wp_seq_k (fun K158 hK159 => ?_)
    refine heldG (S := Sg t f124 ([(b43, .cells #[.int .i64 s21.W, .int .i64 s21.H, .slice A22 s21.Bias.length c23, .slice A25 s21.Dark.length c26, .slice A28 s21.Flat.length c29, .int .i64 s21.Full, .int .i64 s21.Gain, .int .i64 s21.Noise] 46 (0, 0))] :: [(b1, .cells #[.func (.func 46) #[] #[.pointer (some ⟨b3, 0, none⟩), .pointer (some ⟨b5, 0, none⟩)]] 76 (0, 0))] :: [(b3, .cells #[.slice A8 v7.length c9] 48 (0, 0))] :: [(b5, .cells #[.int .i64 v11.W, .int .i64 v11.H, .slice A12 v11.Bias.length c13, .slice A15 v11.Dark.length c16, .slice A18 v11.Flat.length c19, .int .i64 v11.Full, .int .i64 v11.Gain, .int .i64 v11.Noise] 46 (0, 0))] :: s130 :: H) []) (n := 10) (by kernel_rfl) rfl HS127 ?_
    intro W160 HS161
    refine takeG [0, 1] (n := 10) (fuel := 8) (l' := #[true, true, false, false, false, false, false, false, false, false]) (a' := ⟨#[.agg #[.int .i64 s21.W, .int .i64 s21.H, .slice A22 s21.Bias.length c23, .slice A25 s21.Dark.length c26, .slice A28 s21.Flat.length c29, .int .i64 s21.Full, .int .i64 s21.Gain, .int .i64 s21.Noise], .slice A31 held129.length c32, .slice (some ⟨b156, of157, none⟩) order37.length c39, .func (.func 50) #[] #[.pointer (some ⟨b1, 0, none⟩)], .pointer (some ⟨b43, 0, none⟩), undef, undef, undef, .int .i64 0, .int .i64 flow133, undef, .int .i64 (rd order37 x134), (j128 1), .slice (some ⟨b156, of157, none⟩) order37.length c39, .int .i64 (order37.length : Int), .int .i64 x134, .bool true, .pointer (some ⟨b156, of157 + (x134 : Int).toNat * 1, none⟩), .int .i64 (rd order37 x134), .int .i64 flow133, .pointer (some ⟨b43, 5, none⟩), (j128 7), (j128 8), (j128 9), (j128 10), (j128 11), (j128 12), (j128 13), (j128 14), (j128 15), (j128 16), (j128 17), (j128 18), (j128 19), (j128 20), (j128 21), (j128 22), (j128 23), (j128 24), (j128 25), (j128 26), (j128 27), (j128 28), undef], []⟩) rfl (by kernel_rfl) (by kernel_rfl) (by kernel_rfl) (fun ch_ a_ w_ q_ => (fun ch_ a_ w_ q_ => hnp ch_ a_ w_ (hp58 ch_ a_ w_ q_)) ch_ a_ w_ (hp148 ch_ a_ w_ q_)) (Sg.g0 (Sx.of [] (FM.le.refl _) HS161)) ?_
    refine takeGQ 2 [] rfl (by kernel_rfl) (by kernel_rfl) (by kernel_rfl) (by kernel_rfl) (by kernel_rfl) (by kernel_rfl) (fun ch_ a_ w_ q_ => (fun ch_ a_ w_ q_ => hnp ch_ a_ w_ (hp58 ch_ a_ w_ q_)) ch_ a_ w_ (hp148 ch_ a_ w_ q_)) (Sg.g0 (Sx.of [] (FM.le.refl _) HS161)) (fun w_ hw_ => by obtain ⟨g_, hl_, hS_⟩ := hw_.st; exact run_load rfl Try.underlying22 rfl (by kernel_rfl : _ = Value.pointer (some ⟨b43, 5, none⟩)) (hS_.cell 5)) ?_
    have hq_ := guard_some h; clear h; obtain ⟨c162, h⟩ := hq_
    have c162 : 0 ≤ (rd order37 x134) := c162
    have hq_ := guard_some h; clear h; obtain ⟨c163, h⟩ := hq_
    have c163 : (rd order37 x134) < (held129.length : Int) := c163
    obtain ⟨b167, of168, cs164, rfl, hr165, hc166⟩ := HO131.at (i := (rd order37 x134)) c162 c163
    obtain rfl := hr165
    refine takeG [3, 4] (n := 7) (fuel := 5) (l' := #[true, true, true, true, true, false, false, false, false, false]) (a' := ⟨#[.agg #[.int .i64 s21.W, .int .i64 s21.H, .slice A22 s21.Bias.length c23, .slice A25 s21.Dark.length c26, .slice A28 s21.Flat.length c29, .int .i64 s21.Full, .int .i64 s21.Gain, .int .i64 s21.Noise], .slice (some ⟨b167, of168, none⟩) held129.length c32, .slice (some ⟨b156, of157, none⟩) order37.length c39, .func (.func 50) #[] #[.pointer (some ⟨b1, 0, none⟩)], .pointer (some ⟨b43, 0, none⟩), undef, undef, undef, .int .i64 0, .int .i64 flow133, undef, .int .i64 (rd order37 x134), (j128 1), .slice (some ⟨b156, of157, none⟩) order37.length c39, .int .i64 (order37.length : Int), .int .i64 x134, .bool true, .pointer (some ⟨b156, of157 + (x134 : Int).toNat * 1, none⟩), .int .i64 (rd order37 x134), .int .i64 flow133, .pointer (some ⟨b43, 5, none⟩), .int .i64 s21.Full, .slice (some ⟨b167, of168, none⟩) held129.length c32, .int .i64 (rd order37 x134), (j128 10), (j128 11), (j128 12), (j128 13), (j128 14), (j128 15), (j128 16), (j128 17), (j128 18), (j128 19), (j128 20), (j128 21), (j128 22), (j128 23), (j128 24), (j128 25), (j128 26), (j128 27), (j128 28), undef], []⟩) rfl (by kernel_rfl) (by kernel_rfl) (by kernel_rfl) (fun ch_ a_ w_ q_ => (fun ch_ a_ w_ q_ => hnp ch_ a_ w_ (hp58 ch_ a_ w_ q_)) ch_ a_ w_ (hp148 ch_ a_ w_ q_)) (Sg.g0 (Sx.of [] (FM.le.refl _) HS161)) ?_
    refine takeGQ 5 [] rfl (by kernel_rfl) (by kernel_rfl) (by kernel_rfl) (by kernel_rfl) (by kernel_rfl) (by kernel_rfl) (fun ch_ a_ w_ q_ => (fun ch_ a_ w_ q_ => hnp ch_ a_ w_ (hp58 ch_ a_ w_ q_)) ch_ a_ w_ (hp148 ch_ a_ w_ q_)) (Sg.g0 (Sx.of [] (FM.le.refl _) HS161)) (fun w_ hw_ => by obtain ⟨g_, hl_, hS_⟩ := hw_.st; exact run_index (sz := 1) rfl Try.underlying48 (by kernel_rfl) (by kernel_rfl : _ = Value.slice (some ⟨b167, of168, none⟩) held129.length c32) (by kernel_rfl : _ = Value.int .i64 (rd order37 x134)) c162 c163 w_) ?_
    refine takeGQ 6 [] rfl (by kernel_rfl) (by kernel_rfl) (by kernel_rfl) (by kernel_rfl) (by kernel_rfl) (by kernel_rfl) (fun ch_ a_ w_ q_ => (fun ch_ a_ w_ q_ => hnp ch_ a_ w_ (hp58 ch_ a_ w_ q_)) ch_ a_ w_ (hp148 ch_ a_ w_ q_)) (Sg.g0 (Sx.of [] (FM.le.refl _) HS161)) (fun w_ hw_ => by obtain ⟨g_, hl_, hS_⟩ := hw_.st; exact run_load rfl Try.underlying22 rfl (by kernel_rfl : _ = Value.pointer (some ⟨b167, of168 + ((rd order37 x134) : Int).toNat * 1, none⟩)) ((hc166 hS_.u4) 0 (by decide))) ?_
    refine takeG [7, 8, 9] (n := 3) (fuel := 0) (l' := #[true, true, true, true, true, true, true, true, true, true]) (a' := ⟨#[.agg #[.int .i64 s21.W, .int .i64 s21.H, .slice A22 s21.Bias.length c23, .slice A25 s21.Dark.length c26, .slice A28 s21.Flat.length c29, .int .i64 s21.Full, .int .i64 s21.Gain, .int .i64 s21.Noise], .slice (some ⟨b167, of168, none⟩) held129.length c32, .slice (some ⟨b156, of157, none⟩) order37.length c39, .func (.func 50) #[] #[.pointer (some ⟨b1, 0, none⟩)], .pointer (some ⟨b43, 0, none⟩), undef, undef, undef, .int .i64 0, .int .i64 flow133, undef, .int .i64 (rd order37 x134), .int .i64 (mn flow133 (w64 (s21.Full - (rd held129 (rd order37 x134))))), .slice (some ⟨b156, of157, none⟩) order37.length c39, .int .i64 (order37.length : Int), .int .i64 x134, .bool true, .pointer (some ⟨b156, of157 + (x134 : Int).toNat * 1, none⟩), .int .i64 (rd order37 x134), .int .i64 flow133, .pointer (some ⟨b43, 5, none⟩), .int .i64 s21.Full, .slice (some ⟨b167, of168, none⟩) held129.length c32, .int .i64 (rd order37 x134), .pointer (some ⟨b167, of168 + ((rd order37 x134) : Int).toNat * 1, none⟩), .int .i64 (rd held129 (rd order37 x134)), .int .i64 (w64 (s21.Full - (rd held129 (rd order37 x134)))), .int .i64 (mn flow133 (w64 (s21.Full - (rd held129 (rd order37 x134))))), (j128 14), (j128 15), (j128 16), (j128 17), (j128 18), (j128 19), (j128 20), (j128 21), (j128 22), (j128 23), (j128 24), (j128 25), (j128 26), (j128 27), (j128 28), undef], []⟩) rfl (by kernel_rfl) (by kernel_rfl) (by kernel_rfl) (fun ch_ a_ w_ q_ => (fun ch_ a_ w_ q_ => hnp ch_ a_ w_ (hp58 ch_ a_ w_ q_)) ch_ a_ w_ (hp148 ch_ a_ w_ q_)) (Sg.g0 (Sx.of [] (FM.le.refl _) HS161)) ?_
    refine doneG (by kernel_rfl) ?_ _
    refine hK159 _ _ ?_
    refine wp_seq_k (fun K169 hK170 => ?_)
    refine wp_region_lit ?_
    refine seqL2 (by kernel_rfl) ?_
    refine seqK rfl (does_run (run_index (sz := 1) rfl Try.underlying48 (by kernel_rfl) (by kernel_rfl : _ = Value.slice (some ⟨b167, of168, none⟩) held129.length c32) (by kernel_rfl : _ = Value.int .i64 (rd order37 x134)) c162 c163 W160) ?_)
    refine seqK rfl (does_run (run_load rfl Try.underlying22 rfl (by kernel_rfl : _ = Value.pointer (some ⟨b167, of168 + ((rd order37 x134) : Int).toNat * 1, none⟩)) ((hc166 HS161.u4) 0 (by decide))) ?_)
    refine seqL2 (by kernel_rfl) ?_
    refine seqK rfl (does_run (run_index (sz := 1) rfl Try.underlying48 (by kernel_rfl) (by kernel_rfl : _ = Value.slice (some ⟨b167, of168, none⟩) held129.length c32) (by kernel_rfl : _ = Value.int .i64 (rd order37 x134)) c162 c163 W160) ?_)
    have HS171 := HS161.u4
    refine seqK rfl (does_put (e := (tInt .i64)) (E := 22) (vs := [.int .i64 (w64 ((rd held129 (rd order37 x134)) + (mn flow133 (w64 (s21.Full - (rd held129 (rd order37 x134)))))))]) (u := w64 ((rd held129 (rd order37 x134)) + (mn flow133 (w64 (s21.Full - (rd held129 (rd order37 x134))))))) (i := (rd order37 x134)) rfl (by kernel_rfl) HO131 HS171 rfl (by kernel_rfl : _ = Value.pointer (some ⟨b167, of168 + ((rd order37 x134) : Int).toNat * 1, none⟩)) (by kernel_rfl : _ = Value.int .i64 (w64 ((rd held129 (rd order37 x134)) + (mn flow133 (w64 (s21.Full - (rd held129 (rd order37 x134)))))))) rfl rfl c162 c163 ?_)
    intro W172 s173 HS174 HO175
    refine seqRwS 1 (A := (some ⟨b167, of168, none⟩)) (m := held129.length) (n := (held129.set ((rd order37 x134)).toNat (w64 ((rd held129 (rd order37 x134)) + (mn flow133 (w64 (s21.Full - (rd held129 (rd order37 x134)))))))).length) (c := c32) (by kernel_rfl) (List.length_set).symm ?_
    refine seqRwS 22 (A := (some ⟨b167, of168, none⟩)) (m := held129.length) (n := (held129.set ((rd order37 x134)).toNat (w64 ((rd held129 (rd order37 x134)) + (mn flow133 (w64 (s21.Full - (rd held129 (rd order37 x134)))))))).length) (c := c32) (by kernel_rfl) (List.length_set).symm ?_
    refine seqRwS 28 (A := (some ⟨b167, of168, none⟩)) (m := held129.length) (n := (held129.set ((rd order37 x134)).toNat (w64 ((rd held129 (rd order37 x134)) + (mn flow133 (w64 (s21.Full - (rd held129 (rd order37 x134)))))))).length) (c := c32) (by kernel_rfl) (List.length_set).symm ?_
    refine wpList_nil ?_
    refine hK170 _ _ ?_
    refine wp_region_lit ?_
    have HS176 := HS174.u4
    have HS177 := HS176.u4
    have HS178 := HS177.u4
    have hq_ := bind_some h; clear h; obtain ⟨vt179, hc180, h⟩ := hq_
    refine seqL3 (by kernel_rfl) ?_
    refine seqK rfl (does_call (f := 50) (args := #[.int .i64 (rd order37 x134), .pointer (some ⟨b1, 0, none⟩)]) (by kernel_rfl) (sensor_Bleed_3.calls k b1 b3 A8 c9 b5 A12 c13 A15 c16 A18 c19 v7 v11 (rd order37 x134) HS178 (HR10.mono L125) (HR14.mono L125) (HR17.mono L125) (HR20.mono L125) vt179 hc180) ?_)
    rintro _ W183 ⟨f181, rfl, L182, HS184⟩
    refine ⟨_, rfl, ?_⟩
    refine seqS4 (a' := ⟨#[.agg #[.int .i64 s21.W, .int .i64 s21.H, .slice A22 s21.Bias.length c23, .slice A25 s21.Dark.length c26, .slice A28 s21.Flat.length c29, .int .i64 s21.Full, .int .i64 s21.Gain, .int .i64 s21.Noise], .slice (some ⟨b167, of168, none⟩) (held129.set ((rd order37 x134)).toNat (w64 ((rd held129 (rd order37 x134)) + (mn flow133 (w64 (s21.Full - (rd held129 (rd order37 x134)))))))).length c32, .slice (some ⟨b156, of157, none⟩) order37.length c39, .func (.func 50) #[] #[.pointer (some ⟨b1, 0, none⟩)], .pointer (some ⟨b43, 0, none⟩), undef, undef, undef, .int .i64 0, .int .i64 (w64 (flow133 + (w64 (vt179 - (mn flow133 (w64 (s21.Full - (rd held129 (rd order37 x134))))))))), undef, .int .i64 (rd order37 x134), .int .i64 (mn flow133 (w64 (s21.Full - (rd held129 (rd order37 x134))))), .slice (some ⟨b156, of157, none⟩) order37.length c39, .int .i64 (order37.length : Int), .int .i64 x134, .bool true, .pointer (some ⟨b156, of157 + (x134 : Int).toNat * 1, none⟩), .int .i64 (rd order37 x134), .int .i64 flow133, .pointer (some ⟨b43, 5, none⟩), .int .i64 s21.Full, .slice (some ⟨b167, of168, none⟩) (held129.set ((rd order37 x134)).toNat (w64 ((rd held129 (rd order37 x134)) + (mn flow133 (w64 (s21.Full - (rd held129 (rd order37 x134)))))))).length c32, .int .i64 (rd order37 x134), .pointer (some ⟨b167, of168 + ((rd order37 x134) : Int).toNat * 1, none⟩), .int .i64 (rd held129 (rd order37 x134)), .int .i64 (w64 (s21.Full - (rd held129 (rd order37 x134)))), .int .i64 (mn flow133 (w64 (s21.Full - (rd held129 (rd order37 x134))))), .slice (some ⟨b167, of168, none⟩) (held129.set ((rd order37 x134)).toNat (w64 ((rd held129 (rd order37 x134)) + (mn flow133 (w64 (s21.Full - (rd held129 (rd order37 x134)))))))).length c32, .int .i64 (rd order37 x134), .pointer (some ⟨b167, of168 + ((rd order37 x134) : Int).toNat * 1, none⟩), .int .i64 (rd held129 (rd order37 x134)), .int .i64 (mn flow133 (w64 (s21.Full - (rd held129 (rd order37 x134))))), .int .i64 (w64 ((rd held129 (rd order37 x134)) + (mn flow133 (w64 (s21.Full - (rd held129 (rd order37 x134))))))), .pointer (some ⟨b167, of168 + ((rd order37 x134) : Int).toNat * 1, none⟩), .int .i64 flow133, .func (.func 50) #[] #[.pointer (some ⟨b1, 0, none⟩)], .int .i64 (rd order37 x134), .int .i64 vt179, .int .i64 (mn flow133 (w64 (s21.Full - (rd held129 (rd order37 x134))))), .int .i64 (w64 (vt179 - (mn flow133 (w64 (s21.Full - (rd held129 (rd order37 x134))))))), .int .i64 (w64 (flow133 + (w64 (vt179 - (mn flow133 (w64 (s21.Full - (rd held129 (rd order37 x134))))))))), (j128 28), undef], []⟩) (by kernel_rfl) ?_
    refine wpList_nil ?_
    refine hn145 _ _ ?_
    refine hK142 _ _ ?_
    refine wp_region_lit ?_
    refine seqS2 (a' := ⟨#[.agg #[.int .i64 s21.W, .int .i64 s21.H, .slice A22 s21.Bias.length c23, .slice A25 s21.Dark.length c26, .slice A28 s21.Flat.length c29, .int .i64 s21.Full, .int .i64 s21.Gain, .int .i64 s21.Noise], .slice (some ⟨b167, of168, none⟩) (held129.set ((rd order37 x134)).toNat (w64 ((rd held129 (rd order37 x134)) + (mn flow133 (w64 (s21.Full - (rd held129 (rd order37 x134)))))))).length c32, .slice (some ⟨b156, of157, none⟩) order37.length c39, .func (.func 50) #[] #[.pointer (some ⟨b1, 0, none⟩)], .pointer (some ⟨b43, 0, none⟩), undef, undef, undef, .int .i64 0, .int .i64 (w64 (flow133 + (w64 (vt179 - (mn flow133 (w64 (s21.Full - (rd held129 (rd order37 x134))))))))), undef, .int .i64 (rd order37 x134), .int .i64 (mn flow133 (w64 (s21.Full - (rd held129 (rd order37 x134))))), .slice (some ⟨b156, of157, none⟩) order37.length c39, .int .i64 (order37.length : Int), .int .i64 (w64 (x134 + 1)), .bool true, .pointer (some ⟨b156, of157 + (x134 : Int).toNat * 1, none⟩), .int .i64 (rd order37 x134), .int .i64 flow133, .pointer (some ⟨b43, 5, none⟩), .int .i64 s21.Full, .slice (some ⟨b167, of168, none⟩) (held129.set ((rd order37 x134)).toNat (w64 ((rd held129 (rd order37 x134)) + (mn flow133 (w64 (s21.Full - (rd held129 (rd order37 x134)))))))).length c32, .int .i64 (rd order37 x134), .pointer (some ⟨b167, of168 + ((rd order37 x134) : Int).toNat * 1, none⟩), .int .i64 (rd held129 (rd order37 x134)), .int .i64 (w64 (s21.Full - (rd held129 (rd order37 x134)))), .int .i64 (mn flow133 (w64 (s21.Full - (rd held129 (rd order37 x134))))), .slice (some ⟨b167, of168, none⟩) (held129.set ((rd order37 x134)).toNat (w64 ((rd held129 (rd order37 x134)) + (mn flow133 (w64 (s21.Full - (rd held129 (rd order37 x134)))))))).length c32, .int .i64 (rd order37 x134), .pointer (some ⟨b167, of168 + ((rd order37 x134) : Int).toNat * 1, none⟩), .int .i64 (rd held129 (rd order37 x134)), .int .i64 (mn flow133 (w64 (s21.Full - (rd held129 (rd order37 x134))))), .int .i64 (w64 ((rd held129 (rd order37 x134)) + (mn flow133 (w64 (s21.Full - (rd held129 (rd order37 x134))))))), .pointer (some ⟨b167, of168 + ((rd order37 x134) : Int).toNat * 1, none⟩), .int .i64 flow133, .func (.func 50) #[] #[.pointer (some ⟨b1, 0, none⟩)], .int .i64 (rd order37 x134), .int .i64 vt179, .int .i64 (mn flow133 (w64 (s21.Full - (rd held129 (rd order37 x134))))), .int .i64 (w64 (vt179 - (mn flow133 (w64 (s21.Full - (rd held129 (rd order37 x134))))))), .int .i64 (w64 (flow133 + (w64 (vt179 - (mn flow133 (w64 (s21.Full - (rd held129 (rd order37 x134))))))))), .int .i64 (w64 (x134 + 1)), undef], []⟩) (by kernel_rfl) ?_
    refine wpList_nil ?_
    refine hK122 n123 _ _ (Nat.lt_succ_self _) ?_
    have HS198 := HS184.u3
    have HS199 := HS198.u3
    have HS200 := HS199.u3
    have HS201 := HS200.u3
    have HS202 := HS201.u4
    exact ⟨f181, s173, (held129.set ((rd order37 x134)).toNat (w64 ((rd held129 (rd order37 x134)) + (mn flow133 (w64 (s21.Full - (rd held129 (rd order37 x134)))))))), (w64 (flow133 + (w64 (vt179 - (mn flow133 (w64 (s21.Full - (rd held129 (rd order37 x134))))))))), (w64 (x134 + 1)), (fun i_ => [Value.int .i64 (rd order37 x134), Value.int .i64 (mn flow133 (w64 (s21.Full - (rd held129 (rd order37 x134))))), Value.bool true, Value.pointer (some ⟨b156, of157 + (x134 : Int).toNat * 1, none⟩), Value.int .i64 (rd order37 x134), Value.int .i64 flow133, Value.pointer (some ⟨b43, 5, none⟩), Value.int .i64 s21.Full, Value.slice (some ⟨b167, of168, none⟩) (held129.set ((rd order37 x134)).toNat (w64 ((rd held129 (rd order37 x134)) + (mn flow133 (w64 (s21.Full - (rd held129 (rd order37 x134)))))))).length c32, Value.int .i64 (rd order37 x134), Value.pointer (some ⟨b167, of168 + ((rd order37 x134) : Int).toNat * 1, none⟩), Value.int .i64 (rd held129 (rd order37 x134)), Value.int .i64 (w64 (s21.Full - (rd held129 (rd order37 x134)))), Value.int .i64 (mn flow133 (w64 (s21.Full - (rd held129 (rd order37 x134))))), Value.slice (some ⟨b167, of168, none⟩) (held129.set ((rd order37 x134)).toNat (w64 ((rd held129 (rd order37 x134)) + (mn flow133 (w64 (s21.Full - (rd held129 (rd order37 x134)))))))).length c32, Value.int .i64 (rd order37 x134), Value.pointer (some ⟨b167, of168 + ((rd order37 x134) : Int).toNat * 1, none⟩), Value.int .i64 (rd held129 (rd order37 x134)), Value.int .i64 (mn flow133 (w64 (s21.Full - (rd held129 (rd order37 x134))))), Value.int .i64 (w64 ((rd held129 (rd order37 x134)) + (mn flow133 (w64 (s21.Full - (rd held129 (rd order37 x134))))))), Value.pointer (some ⟨b167, of168 + ((rd order37 x134) : Int).toNat * 1, none⟩), Value.int .i64 flow133, Value.func (.func 50) #[] #[.pointer (some ⟨b1, 0, none⟩)], Value.int .i64 (rd order37 x134), Value.int .i64 vt179, Value.int .i64 (mn flow133 (w64 (s21.Full - (rd held129 (rd order37 x134))))), Value.int .i64 (w64 (vt179 - (mn flow133 (w64 (s21.Full - (rd held129 (rd order37 x134))))))), Value.int .i64 (w64 (flow133 + (w64 (vt179 - (mn flow133 (w64 (s21.Full - (rd held129 (rd order37 x134))))))))), Value.int .i64 (w64 (x134 + 1))].getD i_ undef), (L125.trans L182), HS202, (HO175.mono L182), (List.length_set.trans HL132), h, (by kernel_rfl)⟩
  · have c140 : ¬ (x134 < (order37.length : Int)) := c140
    refine wpRwI 16 (x := (decide (x134 < (order37.length : Int)))) (v := false) (by kernel_rfl) (decide_eq_false c140) ?_
    refine condF (by kernel_rfl) ?_
    refine wp_exit ?_
    refine hx54 _ _ ?_
    exact J196 f124 s130 held129 flow133 (fun i_ => [(j128 0), (j128 1), Value.int .i64 x134, Value.bool false, (j128 3), (j128 4), (j128 5), (j128 6), (j128 7), (j128 8), (j128 9), (j128 10), (j128 11), (j128 12), (j128 13), (j128 14), (j128 15), (j128 16), (j128 17), (j128 18), (j128 19), (j128 20), (j128 21), (j128 22), (j128 23), (j128 24), (j128 25), (j128 26), (j128 27), (j128 28)].getD i_ undef) W126 _ L125 h HS127 HO131 HL132 (by kernel_rfl)

end Go.Sp.X5
