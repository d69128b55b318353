import Derived.Test.YtjibamedpdpofaaProg
import Derived.Test.YtjibamedpdpofaaSpMore
import Derived.Test.YtjibamedpdpofaaFX8
import Derived.Test.YtjibamedpdpofaaKX8n0
namespace Go.Sp.X8
open Go Go.Sp Go.Proofs
set_option linter.unusedVariables false
attribute [local irreducible] wpList AnyL Code.wp Calls Does
set_option maxRecDepth 100000 in
set_option maxHeartbeats 4000000 in
theorem sensor_Check.calls (k : Nat) (A2 : Option Addr) (c3 : Nat) (A5 : Option Addr) (c6 : Nat) (A8 : Option Addr) (c9 : Nat) (s1 : S_Sensor) {t w : World} {f : FM} {H : List Seg} (HS : St t w f (H)) (HR4 : SlR (tInt .i64) f A2 c3 s1.Bias) (HR7 : SlR (tInt .i64) f A5 c6 s1.Dark) (HR10 : SlR (tInt .i64) f A8 c9 s1.Flat) (r1 : Int) (h : sensor_Check k s1 = some r1) :
    Calls Try.prog 59 #[.agg #[.int .i64 s1.W, .int .i64 s1.H, .slice A2 s1.Bias.length c3, .slice A5 s1.Dark.length c6, .slice A8 s1.Flat.length c9, .int .i64 s1.Full, .int .i64 s1.Gain, .int .i64 s1.Noise]] w (fun e w' => ∃ (g : FM), e = .returned (Value.int .i64 r1) ∧ FM.le f g ∧ St t w' g (H)) := by
  unfold sensor_Check at h
  refine enter Try.func59 rfl (tm := #[.agg #[.int .i64 s1.W, .int .i64 s1.H, .slice A2 s1.Bias.length c3, .slice A5 s1.Dark.length c6, .slice A8 s1.Flat.length c9, .int .i64 s1.Full, .int .i64 s1.Gain, .int .i64 s1.Noise], undef, undef, undef, undef, undef, undef, undef, undef, undef, undef, undef, undef, undef, undef, undef, undef, undef, undef, undef, undef, undef, undef, undef, undef, undef, undef, undef, undef, undef, undef, undef, undef, undef, undef, undef, undef, undef, undef, undef, undef, undef, undef, undef, undef, undef, undef, undef, undef, undef, undef, undef, undef, undef, undef, undef, undef, undef, undef, undef, undef, undef, undef, undef, undef, undef, undef, undef, undef, undef, undef, undef, undef, undef, undef, undef, undef, undef, undef, undef, undef, undef, undef, undef, undef, undef, undef]) (by kernel_rfl) ?_
  intro B hret hnor hnp
  refine wp_seq_k (fun K11 hK12 => ?_)
  refine wp_region_lit ?_
  refine seqK rfl (does_box (cs := #[.int .i64 s1.W, .int .i64 s1.H, .slice A2 s1.Bias.length c3, .slice A5 s1.Dark.length c6, .slice A8 s1.Flat.length c9, .int .i64 s1.Full, .int .i64 s1.Gain, .int .i64 s1.Noise]) rfl (by kernel_rfl : _ = Value.agg #[.int .i64 s1.W, .int .i64 s1.H, .slice A2 s1.Bias.length c3, .slice A5 s1.Dark.length c6, .slice A8 s1.Flat.length c9, .int .i64 s1.Full, .int .i64 s1.Gain, .int .i64 s1.Noise]) rfl HS ?_)
  intro b13 W14 HS15
  refine seqS1 (a' := ⟨#[.agg #[.int .i64 s1.W, .int .i64 s1.H, .slice A2 s1.Bias.length c3, .slice A5 s1.Dark.length c6, .slice A8 s1.Flat.length c9, .int .i64 s1.Full, .int .i64 s1.Gain, .int .i64 s1.Noise], .pointer (some ⟨b13, 0, none⟩), .int .i64 0, undef, undef, undef, undef, undef, undef, undef, undef, undef, undef, undef, undef, undef, undef, undef, undef, undef, undef, undef, undef, undef, undef, undef, undef, undef, undef, undef, undef, undef, undef, undef, undef, undef, undef, undef, undef, undef, undef, undef, undef, undef, undef, undef, undef, undef, undef, undef, undef, undef, undef, undef, undef, undef, undef, undef, undef, undef, undef, undef, undef, undef, undef, undef, undef, undef, undef, undef, undef, undef, undef, undef, undef, undef, undef, undef, undef, undef, undef, undef, undef, undef, undef, undef, undef], []⟩) (by kernel_rfl) ?_
  refine wpList_nil ?_
  refine hK12 _ _ ?_
  refine wp_seq_k (fun K17 hK18 => ?_)
  refine wp_seq_k (fun K19 hK20 => ?_)
  refine wp_region_lit ?_
  refine seqL1 (by kernel_rfl) ?_
  refine seqK rfl (does_run (run_load rfl Try.underlying3 rfl (by kernel_rfl : _ = Value.pointer (some ⟨b13, 0, none⟩)) (HS15.cell 0)) ?_)
  refine seqL1 (by kernel_rfl) ?_
  refine seqK rfl (does_run (run_load rfl Try.underlying3 rfl (by kernel_rfl : _ = Value.pointer (some ⟨b13, 1, none⟩)) (HS15.cell 1)) ?_)
  refine seqS2 (a' := ⟨#[.agg #[.int .i64 s1.W, .int .i64 s1.H, .slice A2 s1.Bias.length c3, .slice A5 s1.Dark.length c6, .slice A8 s1.Flat.length c9, .int .i64 s1.Full, .int .i64 s1.Gain, .int .i64 s1.Noise], .pointer (some ⟨b13, 0, none⟩), .int .i64 0, .int .i64 (w64 (s1.W * s1.H)), .pointer (some ⟨b13, 0, none⟩), .int .i64 s1.W, .pointer (some ⟨b13, 1, none⟩), .int .i64 s1.H, .int .i64 (w64 (s1.W * s1.H)), undef, undef, undef, undef, undef, undef, undef, undef, undef, undef, undef, undef, undef, undef, undef, undef, undef, undef, undef, undef, undef, undef, undef, undef, undef, undef, undef, undef, undef, undef, undef, undef, undef, undef, undef, undef, undef, undef, undef, undef, undef, undef, undef, undef, undef, undef, undef, undef, undef, undef, undef, undef, undef, undef, undef, undef, undef, undef, undef, undef, undef, undef, undef, undef, undef, undef, undef, undef, undef, undef, undef, undef, undef, undef, undef, undef, undef, undef], []⟩) (by kernel_rfl) ?_
  refine wpList_nil ?_
  refine hK20 _ _ ?_
  refine blockK (fun B21 hx22 hn23 hr24 ho25 hp26 => ?_)
  refine wp_seq_k (fun K28 hK29 => ?_)
  refine wp_region_lit ?_
  refine seqL1 (by kernel_rfl) ?_
  refine seqK rfl (does_run (run_load rfl Try.underlying3 rfl (by kernel_rfl : _ = Value.pointer (some ⟨b13, 0, none⟩)) (HS15.cell 0)) ?_)
  refine seqL1 (by kernel_rfl) ?_
  refine seqK rfl (does_run (run_load rfl Try.underlying3 rfl (by kernel_rfl : _ = Value.pointer (some ⟨b13, 1, none⟩)) (HS15.cell 1)) ?_)
  refine seqS3 (a' := ⟨#[.agg #[.int .i64 s1.W, .int .i64 s1.H, .slice A2 s1.Bias.length c3, .slice A5 s1.Dark.length c6, .slice A8 s1.Flat.length c9, .int .i64 s1.Full, .int .i64 s1.Gain, .int .i64 s1.Noise], .pointer (some ⟨b13, 0, none⟩), .int .i64 0, .int .i64 (w64 (s1.W * s1.H)), .pointer (some ⟨b13, 0, none⟩), .int .i64 s1.W, .pointer (some ⟨b13, 1, none⟩), .int .i64 s1.H, .int .i64 (w64 (s1.W * s1.H)), undef, .pointer (some ⟨b13, 0, none⟩), .int .i64 s1.W, .pointer (some ⟨b13, 1, none⟩), .int .i64 s1.H, .int .i64 (mn s1.W s1.H), .bool (decide ((mn s1.W s1.H) < 1)), .bool (decide ((mn s1.W s1.H) < 1)), undef, undef, undef, undef, undef, undef, undef, undef, undef, undef, undef, undef, undef, undef, undef, undef, undef, undef, undef, undef, undef, undef, undef, undef, undef, undef, undef, undef, undef, undef, undef, undef, undef, undef, undef, undef, undef, undef, undef, undef, undef, undef, undef, undef, undef, undef, undef, undef, undef, undef, undef, undef, undef, undef, undef, undef, undef, undef, undef, undef, undef, undef, undef, undef, undef, undef, undef, undef, undef, undef], []⟩) (by kernel_rfl) ?_
  have hq_ := ite_some h; clear h; rcases hq_ with ⟨c30, h⟩ | ⟨c30, h⟩
  · have c30 : (mn s1.W s1.H) < 1 := c30
    refine seqRwI 15 (x := (decide ((mn s1.W s1.H) < 1))) (v := true) (by kernel_rfl) (decide_eq_true c30) ?_
    refine seqRwI 16 (x := (decide ((mn s1.W s1.H) < 1))) (v := true) (by kernel_rfl) (decide_eq_true c30) ?_
    refine seqS8 (a' := ⟨#[.agg #[.int .i64 s1.W, .int .i64 s1.H, .slice A2 s1.Bias.length c3, .slice A5 s1.Dark.length c6, .slice A8 s1.Flat.length c9, .int .i64 s1.Full, .int .i64 s1.Gain, .int .i64 s1.Noise], .pointer (some ⟨b13, 0, none⟩), .int .i64 0, .int .i64 (w64 (s1.W * s1.H)), .pointer (some ⟨b13, 0, none⟩), .int .i64 s1.W, .pointer (some ⟨b13, 1, none⟩), .int .i64 s1.H, .int .i64 (w64 (s1.W * s1.H)), .bool true, .pointer (some ⟨b13, 0, none⟩), .int .i64 s1.W, .pointer (some ⟨b13, 1, none⟩), .int .i64 s1.H, .int .i64 (mn s1.W s1.H), .bool true, .bool true, undef, undef, undef, undef, undef, undef, .bool true, undef, undef, undef, undef, undef, undef, undef, undef, undef, undef, undef, undef, undef, undef, undef, undef, undef, undef, undef, undef, undef, undef, undef, undef, undef, undef, undef, undef, undef, undef, undef, undef, undef, undef, undef, undef, undef, undef, undef, undef, undef, undef, undef, undef, undef, undef, undef, undef, undef, undef, undef, undef, undef, undef, undef, undef, undef, undef, undef, undef, undef, undef, undef], []⟩) (by kernel_rfl) ?_
    refine wpList_nil ?_
    refine hK29 _ _ ?_
    refine condT (by kernel_rfl) ?_
    refine wp_seq_k (fun K31 hK32 => ?_)
    refine wp_region_lit ?_
    refine seqS1 (a' := ⟨#[.agg #[.int .i64 s1.W, .int .i64 s1.H, .slice A2 s1.Bias.length c3, .slice A5 s1.Dark.length c6, .slice A8 s1.Flat.length c9, .int .i64 s1.Full, .int .i64 s1.Gain, .int .i64 s1.Noise], .pointer (some ⟨b13, 0, none⟩), .int .i64 4, .int .i64 (w64 (s1.W * s1.H)), .pointer (some ⟨b13, 0, none⟩), .int .i64 s1.W, .pointer (some ⟨b13, 1, none⟩), .int .i64 s1.H, .int .i64 (w64 (s1.W * s1.H)), .bool true, .pointer (some ⟨b13, 0, none⟩), .int .i64 s1.W, .pointer (some ⟨b13, 1, none⟩), .int .i64 s1.H, .int .i64 (mn s1.W s1.H), .bool true, .bool true, undef, undef, undef, undef, undef, undef, .bool true, undef, undef, undef, undef, undef, undef, undef, undef, undef, undef, undef, undef, undef, undef, undef, undef, undef, undef, undef, undef, undef, undef, undef, undef, undef, undef, undef, undef, undef, undef, undef, undef, undef, undef, undef, undef, undef, undef, undef, undef, undef, undef, undef, undef, undef, undef, undef, undef, undef, undef, undef, undef, undef, undef, undef, undef, undef, undef, undef, undef, undef, undef, undef], []⟩) (by kernel_rfl) ?_
    refine wpList_nil ?_
    refine hK32 _ _ ?_
    refine wp_ret ?_
    refine hr24 _ _ ?_
    refine hret _ _ ?_
    refine ends_still (v := Value.int .i64 4) (by kernel_rfl) (by kernel_rfl) ?_
    have HS102 := HS15.drop
    injection h with h
    subst h
    exact ⟨f, rfl, FM.le.refl _, HS102⟩
  · have c30 : ¬ ((mn s1.W s1.H) < 1) := c30
    refine seqRwI 15 (x := (decide ((mn s1.W s1.H) < 1))) (v := false) (by kernel_rfl) (decide_eq_false c30) ?_
    refine seqRwI 16 (x := (decide ((mn s1.W s1.H) < 1))) (v := false) (by kernel_rfl) (decide_eq_false c30) ?_
    refine seqL1 (by kernel_rfl) ?_
    refine seqG (by kernel_rfl) (does_run (run_load rfl Try.underlying3 rfl (by kernel_rfl : _ = Value.pointer (some ⟨b13, 0, none⟩)) (HS15.cell 0)) ?_)
    refine seqL1 (by kernel_rfl) ?_
    refine seqG (by kernel_rfl) (does_run (run_load rfl Try.underlying3 rfl (by kernel_rfl : _ = Value.pointer (some ⟨b13, 1, none⟩)) (HS15.cell 1)) ?_)
    refine seqS4 (a' := ⟨#[.agg #[.int .i64 s1.W, .int .i64 s1.H, .slice A2 s1.Bias.length c3, .slice A5 s1.Dark.length c6, .slice A8 s1.Flat.length c9, .int .i64 s1.Full, .int .i64 s1.Gain, .int .i64 s1.Noise], .pointer (some ⟨b13, 0, none⟩), .int .i64 0, .int .i64 (w64 (s1.W * s1.H)), .pointer (some ⟨b13, 0, none⟩), .int .i64 s1.W, .pointer (some ⟨b13, 1, none⟩), .int .i64 s1.H, .int .i64 (w64 (s1.W * s1.H)), .bool (decide ((mx s1.W s1.H) > 32)), .pointer (some ⟨b13, 0, none⟩), .int .i64 s1.W, .pointer (some ⟨b13, 1, none⟩), .int .i64 s1.H, .int .i64 (mn s1.W s1.H), .bool false, .bool false, .pointer (some ⟨b13, 0, none⟩), .int .i64 s1.W, .pointer (some ⟨b13, 1, none⟩), .int .i64 s1.H, .int .i64 (mx s1.W s1.H), .bool (decide ((mx s1.W s1.H) > 32)), .bool (decide ((mx s1.W s1.H) > 32)), undef, undef, undef, undef, undef, undef, undef, undef, undef, undef, undef, undef, undef, undef, undef, undef, undef, undef, undef, undef, undef, undef, undef, undef, undef, undef, undef, undef, undef, undef, undef, undef, undef, undef, undef, undef, undef, undef, undef, undef, undef, undef, undef, undef, undef, undef, undef, undef, undef, undef, undef, undef, undef, undef, undef, undef, undef, undef, undef, undef, undef, undef, undef], []⟩) (by kernel_rfl) ?_
    refine wpList_nil ?_
    refine hK29 _ _ ?_
    have hq_ := ite_some h; clear h; rcases hq_ with ⟨c34, h⟩ | ⟨c34, h⟩
    · have c34 : (mx s1.W s1.H) > 32 := c34
      refine wpRwI 9 (x := (decide ((mx s1.W s1.H) > 32))) (v := true) (by kernel_rfl) (decide_eq_true c34) ?_
      refine wpRwI 22 (x := (decide ((mx s1.W s1.H) > 32))) (v := true) (by kernel_rfl) (decide_eq_true c34) ?_
      refine wpRwI 23 (x := (decide ((mx s1.W s1.H) > 32))) (v := true) (by kernel_rfl) (decide_eq_true c34) ?_
      refine condT (by kernel_rfl) ?_
      refine wp_seq_k (fun K35 hK36 => ?_)
      refine wp_region_lit ?_
      refine seqS1 (a' := ⟨#[.agg #[.int .i64 s1.W, .int .i64 s1.H, .slice A2 s1.Bias.length c3, .slice A5 s1.Dark.length c6, .slice A8 s1.Flat.length c9, .int .i64 s1.Full, .int .i64 s1.Gain, .int .i64 s1.Noise], .pointer (some ⟨b13, 0, none⟩), .int .i64 4, .int .i64 (w64 (s1.W * s1.H)), .pointer (some ⟨b13, 0, none⟩), .int .i64 s1.W, .pointer (some ⟨b13, 1, none⟩), .int .i64 s1.H, .int .i64 (w64 (s1.W * s1.H)), .bool true, .pointer (some ⟨b13, 0, none⟩), .int .i64 s1.W, .pointer (some ⟨b13, 1, none⟩), .int .i64 s1.H, .int .i64 (mn s1.W s1.H), .bool false, .bool false, .pointer (some ⟨b13, 0, none⟩), .int .i64 s1.W, .pointer (some ⟨b13, 1, none⟩), .int .i64 s1.H, .int .i64 (mx s1.W s1.H), .bool true, .bool true, undef, undef, undef, undef, undef, undef, undef, undef, undef, undef, undef, undef, undef, undef, undef, undef, undef, undef, undef, undef, undef, undef, undef, undef, undef, undef, undef, undef, undef, undef, undef, undef, undef, undef, undef, undef, undef, undef, undef, undef, undef, undef, undef, undef, undef, undef, undef, undef, undef, undef, undef, undef, undef, undef, undef, undef, undef, undef, undef, undef, undef, undef, undef], []⟩) (by kernel_rfl) ?_
      refine wpList_nil ?_
      refine hK36 _ _ ?_
      refine wp_ret ?_
      refine hr24 _ _ ?_
      refine hret _ _ ?_
      refine ends_still (v := Value.int .i64 4) (by kernel_rfl) (by kernel_rfl) ?_
      have HS103 := HS15.drop
      injection h with h
      subst h
      exact ⟨f, rfl, FM.le.refl _, HS103⟩
    · have c34 : ¬ ((mx s1.W s1.H) > 32) := c34
      refine wpRwI 9 (x := (decide ((mx s1.W s1.H) > 32))) (v := false) (by kernel_rfl) (decide_eq_false c34) ?_
      refine wpRwI 22 (x := (decide ((mx s1.W s1.H) > 32))) (v := false) (by kernel_rfl) (decide_eq_false c34) ?_
      refine wpRwI 23 (x := (decide ((mx s1.W s1.H) > 32))) (v := false) (by kernel_rfl) (decide_eq_false c34) ?_
      refine condF (by kernel_rfl) ?_
      refine wp_seq_k (fun K37 hK38 => ?_)
      refine wp_region_lit ?_
      refine seqL1 (by kernel_rfl) ?_
      refine seqK rfl (does_run (run_load rfl Try.underlying40 rfl (by kernel_rfl : _ = Value.pointer (some ⟨b13, 2, none⟩)) (HS15.cell 2)) ?_)
      refine seqS4 (a' := ⟨#[.agg #[.int .i64 s1.W, .int .i64 s1.H, .slice A2 s1.Bias.length c3, .slice A5 s1.Dark.length c6, .slice A8 s1.Flat.length c9, .int .i64 s1.Full, .int .i64 s1.Gain, .int .i64 s1.Noise], .pointer (some ⟨b13, 0, none⟩), .int .i64 0, .int .i64 (w64 (s1.W * s1.H)), .pointer (some ⟨b13, 0, none⟩), .int .i64 s1.W, .pointer (some ⟨b13, 1, none⟩), .int .i64 s1.H, .int .i64 (w64 (s1.W * s1.H)), .bool false, .pointer (some ⟨b13, 0, none⟩), .int .i64 s1.W, .pointer (some ⟨b13, 1, none⟩), .int .i64 s1.H, .int .i64 (mn s1.W s1.H), .bool false, .bool false, .pointer (some ⟨b13, 0, none⟩), .int .i64 s1.W, .pointer (some ⟨b13, 1, none⟩), .int .i64 s1.H, .int .i64 (mx s1.W s1.H), .bool false, .bool false, undef, .pointer (some ⟨b13, 2, none⟩), .slice A2 s1.Bias.length c3, .int .i64 (s1.Bias.length : Int), .int .i64 (w64 (s1.W * s1.H)), .bool ((s1.Bias.length : Int) != (w64 (s1.W * s1.H))), .bool ((s1.Bias.length : Int) != (w64 (s1.W * s1.H))), undef, undef, undef, undef, undef, undef, undef, undef, undef, undef, undef, undef, undef, undef, undef, undef, undef, undef, undef, undef, undef, undef, undef, undef, undef, undef, undef, undef, undef, undef, undef, undef, undef, undef, undef, undef, undef, undef, undef, undef, undef, undef, undef, undef, undef, undef, undef, undef, undef, undef, undef, undef, undef, undef, undef, undef], []⟩) (by kernel_rfl) ?_
      have hq_ := ite_some h; clear h; rcases hq_ with ⟨c39, h⟩ | ⟨c39, h⟩
      · have c39 : (s1.Bias.length : Int) ≠ (w64 (s1.W * s1.H)) := c39
        refine seqRwI 29 (x := ((s1.Bias.length : Int) != (w64 (s1.W * s1.H)))) (v := true) (by kernel_rfl) (bne_iff_ne.mpr c39) ?_
        refine seqRwI 30 (x := ((s1.Bias.length : Int) != (w64 (s1.W * s1.H)))) (v := true) (by kernel_rfl) (bne_iff_ne.mpr c39) ?_
        refine seqS14 (a' := ⟨#[.agg #[.int .i64 s1.W, .int .i64 s1.H, .slice A2 s1.Bias.length c3, .slice A5 s1.Dark.length c6, .slice A8 s1.Flat.length c9, .int .i64 s1.Full, .int .i64 s1.Gain, .int .i64 s1.Noise], .pointer (some ⟨b13, 0, none⟩), .int .i64 0, .int .i64 (w64 (s1.W * s1.H)), .pointer (some ⟨b13, 0, none⟩), .int .i64 s1.W, .pointer (some ⟨b13, 1, none⟩), .int .i64 s1.H, .int .i64 (w64 (s1.W * s1.H)), .bool false, .pointer (some ⟨b13, 0, none⟩), .int .i64 s1.W, .pointer (some ⟨b13, 1, none⟩), .int .i64 s1.H, .int .i64 (mn s1.W s1.H), .bool false, .bool false, .pointer (some ⟨b13, 0, none⟩), .int .i64 s1.W, .pointer (some ⟨b13, 1, none⟩), .int .i64 s1.H, .int .i64 (mx s1.W s1.H), .bool false, .bool false, .bool true, .pointer (some ⟨b13, 2, none⟩), .slice A2 s1.Bias.length c3, .int .i64 (s1.Bias.length : Int), .int .i64 (w64 (s1.W * s1.H)), .bool true, .bool true, undef, undef, undef, undef, undef, .bool true, .bool true, undef, undef, undef, undef, undef, .bool true, undef, undef, undef, undef, undef, undef, undef, undef, undef, undef, undef, undef, undef, undef, undef, undef, undef, undef, undef, undef, undef, undef, undef, undef, undef, undef, undef, undef, undef, undef, undef, undef, undef, undef, undef, undef, undef, undef, undef, undef, undef, undef, undef], []⟩) (by kernel_rfl) ?_
        refine wpList_nil ?_
        refine hK38 _ _ ?_
        refine condT (by kernel_rfl) ?_
        refine wp_seq_k (fun K40 hK41 => ?_)
        refine wp_region_lit ?_
        refine seqS1 (a' := ⟨#[.agg #[.int .i64 s1.W, .int .i64 s1.H, .slice A2 s1.Bias.length c3, .slice A5 s1.Dark.length c6, .slice A8 s1.Flat.length c9, .int .i64 s1.Full, .int .i64 s1.Gain, .int .i64 s1.Noise], .pointer (some ⟨b13, 0, none⟩), .int .i64 3, .int .i64 (w64 (s1.W * s1.H)), .pointer (some ⟨b13, 0, none⟩), .int .i64 s1.W, .pointer (some ⟨b13, 1, none⟩), .int .i64 s1.H, .int .i64 (w64 (s1.W * s1.H)), .bool false, .pointer (some ⟨b13, 0, none⟩), .int .i64 s1.W, .pointer (some ⟨b13, 1, none⟩), .int .i64 s1.H, .int .i64 (mn s1.W s1.H), .bool false, .bool false, .pointer (some ⟨b13, 0, none⟩), .int .i64 s1.W, .pointer (some ⟨b13, 1, none⟩), .int .i64 s1.H, .int .i64 (mx s1.W s1.H), .bool false, .bool false, .bool true, .pointer (some ⟨b13, 2, none⟩), .slice A2 s1.Bias.length c3, .int .i64 (s1.Bias.length : Int), .int .i64 (w64 (s1.W * s1.H)), .bool true, .bool true, undef, undef, undef, undef, undef, .bool true, .bool true, undef, undef, undef, undef, undef, .bool true, undef, undef, undef, undef, undef, undef, undef, undef, undef, undef, undef, undef, undef, undef, undef, undef, undef, undef, undef, undef, undef, undef, undef, undef, undef, undef, undef, undef, undef, undef, undef, undef, undef, undef, undef, undef, undef, undef, undef, undef, undef, undef, undef], []⟩) (by kernel_rfl) ?_
        refine wpList_nil ?_
        refine hK41 _ _ ?_
        refine wp_ret ?_
        refine hr24 _ _ ?_
        refine hret _ _ ?_
        refine ends_still (v := Value.int .i64 3) (by kernel_rfl) (by kernel_rfl) ?_
        have HS104 := HS15.drop
        injection h with h
        subst h
        exact ⟨f, rfl, FM.le.refl _, HS104⟩
      · have c39 : ¬ ((s1.Bias.length : Int) ≠ (w64 (s1.W * s1.H))) := c39
        refine seqRwI 29 (x := ((s1.Bias.length : Int) != (w64 (s1.W * s1.H)))) (v := false) (by kernel_rfl) (bne_eq_false_iff_eq.mpr (Decidable.of_not_not c39)) ?_
        refine seqRwI 30 (x := ((s1.Bias.length : Int) != (w64 (s1.W * s1.H)))) (v := false) (by kernel_rfl) (bne_eq_false_iff_eq.mpr (Decidable.of_not_not c39)) ?_
        refine seqL1 (by kernel_rfl) ?_
        refine seqG (by kernel_rfl) (does_run (run_load rfl Try.underlying44 rfl (by kernel_rfl : _ = Value.pointer (some ⟨b13, 3, none⟩)) (HS15.cell 3)) ?_)
        refine seqS5 (a' := ⟨#[.agg #[.int .i64 s1.W, .int .i64 s1.H, .slice A2 s1.Bias.length c3, .slice A5 s1.Dark.length c6, .slice A8 s1.Flat.length c9, .int .i64 s1.Full, .int .i64 s1.Gain, .int .i64 s1.Noise], .pointer (some ⟨b13, 0, none⟩), .int .i64 0, .int .i64 (w64 (s1.W * s1.H)), .pointer (some ⟨b13, 0, none⟩), .int .i64 s1.W, .pointer (some ⟨b13, 1, none⟩), .int .i64 s1.H, .int .i64 (w64 (s1.W * s1.H)), .bool false, .pointer (some ⟨b13, 0, none⟩), .int .i64 s1.W, .pointer (some ⟨b13, 1, none⟩), .int .i64 s1.H, .int .i64 (mn s1.W s1.H), .bool false, .bool false, .pointer (some ⟨b13, 0, none⟩), .int .i64 s1.W, .pointer (some ⟨b13, 1, none⟩), .int .i64 s1.H, .int .i64 (mx s1.W s1.H), .bool false, .bool false, undef, .pointer (some ⟨b13, 2, none⟩), .slice A2 s1.Bias.length c3, .int .i64 (s1.Bias.length : Int), .int .i64 (w64 (s1.W * s1.H)), .bool false, .bool false, .pointer (some ⟨b13, 3, none⟩), .slice A5 s1.Dark.length c6, .int .i64 (s1.Dark.length : Int), .int .i64 (w64 (s1.W * s1.H)), .bool ((s1.Dark.length : Int) != (w64 (s1.W * s1.H))), .bool ((s1.Dark.length : Int) != (w64 (s1.W * s1.H))), .bool ((s1.Dark.length : Int) != (w64 (s1.W * s1.H))), undef, undef, undef, undef, undef, undef, undef, undef, undef, undef, undef, undef, undef, undef, undef, undef, undef, undef, undef, undef, undef, undef, undef, undef, undef, undef, undef, undef, undef, undef, undef, undef, undef, undef, undef, undef, undef, undef, undef, undef, undef, undef, undef, undef, undef, undef, undef, undef, undef], []⟩) (by kernel_rfl) ?_
        have hq_ := ite_some h; clear h; rcases hq_ with ⟨c42, h⟩ | ⟨c42, h⟩
        · have c42 : (s1.Dark.length : Int) ≠ (w64 (s1.W * s1.H)) := c42
          refine seqRwI 35 (x := ((s1.Dark.length : Int) != (w64 (s1.W * s1.H)))) (v := true) (by kernel_rfl) (bne_iff_ne.mpr c42) ?_
          refine seqRwI 36 (x := ((s1.Dark.length : Int) != (w64 (s1.W * s1.H)))) (v := true) (by kernel_rfl) (bne_iff_ne.mpr c42) ?_
          refine seqRwI 37 (x := ((s1.Dark.length : Int) != (w64 (s1.W * s1.H)))) (v := true) (by kernel_rfl) (bne_iff_ne.mpr c42) ?_
          refine seqS7 (a' := ⟨#[.agg #[.int .i64 s1.W, .int .i64 s1.H, .slice A2 s1.Bias.length c3, .slice A5 s1.Dark.length c6, .slice A8 s1.Flat.length c9, .int .i64 s1.Full, .int .i64 s1.Gain, .int .i64 s1.Noise], .pointer (some ⟨b13, 0, none⟩), .int .i64 0, .int .i64 (w64 (s1.W * s1.H)), .pointer (some ⟨b13, 0, none⟩), .int .i64 s1.W, .pointer (some ⟨b13, 1, none⟩), .int .i64 s1.H, .int .i64 (w64 (s1.W * s1.H)), .bool false, .pointer (some ⟨b13, 0, none⟩), .int .i64 s1.W, .pointer (some ⟨b13, 1, none⟩), .int .i64 s1.H, .int .i64 (mn s1.W s1.H), .bool false, .bool false, .pointer (some ⟨b13, 0, none⟩), .int .i64 s1.W, .pointer (some ⟨b13, 1, none⟩), .int .i64 s1.H, .int .i64 (mx s1.W s1.H), .bool false, .bool false, .bool true, .pointer (some ⟨b13, 2, none⟩), .slice A2 s1.Bias.length c3, .int .i64 (s1.Bias.length : Int), .int .i64 (w64 (s1.W * s1.H)), .bool false, .bool false, .pointer (some ⟨b13, 3, none⟩), .slice A5 s1.Dark.length c6, .int .i64 (s1.Dark.length : Int), .int .i64 (w64 (s1.W * s1.H)), .bool true, .bool true, .bool true, undef, undef, undef, undef, undef, .bool true, undef, undef, undef, undef, undef, undef, undef, undef, undef, undef, undef, undef, undef, undef, undef, undef, undef, undef, undef, undef, undef, undef, undef, undef, undef, undef, undef, undef, undef, undef, undef, undef, undef, undef, undef, undef, undef, undef, undef, undef, undef, undef, undef], []⟩) (by kernel_rfl) ?_
          refine wpList_nil ?_
          refine hK38 _ _ ?_
          refine condT (by kernel_rfl) ?_
          refine wp_seq_k (fun K43 hK44 => ?_)
          refine wp_region_lit ?_
          refine seqS1 (a' := ⟨#[.agg #[.int .i64 s1.W, .int .i64 s1.H, .slice A2 s1.Bias.length c3, .slice A5 s1.Dark.length c6, .slice A8 s1.Flat.length c9, .int .i64 s1.Full, .int .i64 s1.Gain, .int .i64 s1.Noise], .pointer (some ⟨b13, 0, none⟩), .int .i64 3, .int .i64 (w64 (s1.W * s1.H)), .pointer (some ⟨b13, 0, none⟩), .int .i64 s1.W, .pointer (some ⟨b13, 1, none⟩), .int .i64 s1.H, .int .i64 (w64 (s1.W * s1.H)), .bool false, .pointer (some ⟨b13, 0, none⟩), .int .i64 s1.W, .pointer (some ⟨b13, 1, none⟩), .int .i64 s1.H, .int .i64 (mn s1.W s1.H), .bool false, .bool false, .pointer (some ⟨b13, 0, none⟩), .int .i64 s1.W, .pointer (some ⟨b13, 1, none⟩), .int .i64 s1.H, .int .i64 (mx s1.W s1.H), .bool false, .bool false, .bool true, .pointer (some ⟨b13, 2, none⟩), .slice A2 s1.Bias.length c3, .int .i64 (s1.Bias.length : Int), .int .i64 (w64 (s1.W * s1.H)), .bool false, .bool false, .pointer (some ⟨b13, 3, none⟩), .slice A5 s1.Dark.length c6, .int .i64 (s1.Dark.length : Int), .int .i64 (w64 (s1.W * s1.H)), .bool true, .bool true, .bool true, undef, undef, undef, undef, undef, .bool true, undef, undef, undef, undef, undef, undef, undef, undef, undef, undef, undef, undef, undef, undef, undef, undef, undef, undef, undef, undef, undef, undef, undef, undef, undef, undef, undef, undef, undef, undef, undef, undef, undef, undef, undef, undef, undef, undef, undef, undef, undef, undef, undef], []⟩) (by kernel_rfl) ?_
          refine wpList_nil ?_
          refine hK44 _ _ ?_
          refine wp_ret ?_
          refine hr24 _ _ ?_
          refine hret _ _ ?_
          refine ends_still (v := Value.int .i64 3) (by kernel_rfl) (by kernel_rfl) ?_
          have HS105 := HS15.drop
          injection h with h
          subst h
          exact ⟨f, rfl, FM.le.refl _, HS105⟩
        · have c42 : ¬ ((s1.Dark.length : Int) ≠ (w64 (s1.W * s1.H))) := c42
          refine seqRwI 35 (x := ((s1.Dark.length : Int) != (w64 (s1.W * s1.H)))) (v := false) (by kernel_rfl) (bne_eq_false_iff_eq.mpr (Decidable.of_not_not c42)) ?_
          refine seqRwI 36 (x := ((s1.Dark.length : Int) != (w64 (s1.W * s1.H)))) (v := false) (by kernel_rfl) (bne_eq_false_iff_eq.mpr (Decidable.of_not_not c42)) ?_
          refine seqRwI 37 (x := ((s1.Dark.length : Int) != (w64 (s1.W * s1.H)))) (v := false) (by kernel_rfl) (bne_eq_false_iff_eq.mpr (Decidable.of_not_not c42)) ?_
          refine seqL1 (by kernel_rfl) ?_
          refine seqG (by kernel_rfl) (does_run (run_load rfl Try.underlying40 rfl (by kernel_rfl : _ = Value.pointer (some ⟨b13, 4, none⟩)) (HS15.cell 4)) ?_)
          refine seqS5 (a' := ⟨#[.agg #[.int .i64 s1.W, .int .i64 s1.H, .slice A2 s1.Bias.length c3, .slice A5 s1.Dark.length c6, .slice A8 s1.Flat.length c9, .int .i64 s1.Full, .int .i64 s1.Gain, .int .i64 s1.Noise], .pointer (some ⟨b13, 0, none⟩), .int .i64 0, .int .i64 (w64 (s1.W * s1.H)), .pointer (some ⟨b13, 0, none⟩), .int .i64 s1.W, .pointer (some ⟨b13, 1, none⟩), .int .i64 s1.H, .int .i64 (w64 (s1.W * s1.H)), .bool false, .pointer (some ⟨b13, 0, none⟩), .int .i64 s1.W, .pointer (some ⟨b13, 1, none⟩), .int .i64 s1.H, .int .i64 (mn s1.W s1.H), .bool false, .bool false, .pointer (some ⟨b13, 0, none⟩), .int .i64 s1.W, .pointer (some ⟨b13, 1, none⟩), .int .i64 s1.H, .int .i64 (mx s1.W s1.H), .bool false, .bool false, .bool ((s1.Flat.length : Int) != (w64 (s1.W * s1.H))), .pointer (some ⟨b13, 2, none⟩), .slice A2 s1.Bias.length c3, .int .i64 (s1.Bias.length : Int), .int .i64 (w64 (s1.W * s1.H)), .bool false, .bool false, .pointer (some ⟨b13, 3, none⟩), .slice A5 s1.Dark.length c6, .int .i64 (s1.Dark.length : Int), .int .i64 (w64 (s1.W * s1.H)), .bool false, .bool false, .bool false, .pointer (some ⟨b13, 4, none⟩), .slice A8 s1.Flat.length c9, .int .i64 (s1.Flat.length : Int), .int .i64 (w64 (s1.W * s1.H)), .bool ((s1.Flat.length : Int) != (w64 (s1.W * s1.H))), .bool ((s1.Flat.length : Int) != (w64 (s1.W * s1.H))), undef, undef, undef, undef, undef, undef, undef, undef, undef, undef, undef, undef, undef, undef, undef, undef, undef, undef, undef, undef, undef, undef, undef, undef, undef, undef, undef, undef, undef, undef, undef, undef, undef, undef, undef, undef, undef, undef, undef, undef, undef, undef, undef], []⟩) (by kernel_rfl) ?_
          refine wpList_nil ?_
          refine hK38 _ _ ?_
          have hq_ := ite_some h; clear h; rcases hq_ with ⟨c46, h⟩ | ⟨c46, h⟩
          · have c46 : (s1.Flat.length : Int) ≠ (w64 (s1.W * s1.H)) := c46
            refine wpRwI 24 (x := ((s1.Flat.length : Int) != (w64 (s1.W * s1.H)))) (v := true) (by kernel_rfl) (bne_iff_ne.mpr c46) ?_
            refine wpRwI 42 (x := ((s1.Flat.length : Int) != (w64 (s1.W * s1.H)))) (v := true) (by kernel_rfl) (bne_iff_ne.mpr c46) ?_
            refine wpRwI 43 (x := ((s1.Flat.length : Int) != (w64 (s1.W * s1.H)))) (v := true) (by kernel_rfl) (bne_iff_ne.mpr c46) ?_
            refine condT (by kernel_rfl) ?_
            refine wp_seq_k (fun K47 hK48 => ?_)
            refine wp_region_lit ?_
            refine seqS1 (a' := ⟨#[.agg #[.int .i64 s1.W, .int .i64 s1.H, .slice A2 s1.Bias.length c3, .slice A5 s1.Dark.length c6, .slice A8 s1.Flat.length c9, .int .i64 s1.Full, .int .i64 s1.Gain, .int .i64 s1.Noise], .pointer (some ⟨b13, 0, none⟩), .int .i64 3, .int .i64 (w64 (s1.W * s1.H)), .pointer (some ⟨b13, 0, none⟩), .int .i64 s1.W, .pointer (some ⟨b13, 1, none⟩), .int .i64 s1.H, .int .i64 (w64 (s1.W * s1.H)), .bool false, .pointer (some ⟨b13, 0, none⟩), .int .i64 s1.W, .pointer (some ⟨b13, 1, none⟩), .int .i64 s1.H, .int .i64 (mn s1.W s1.H), .bool false, .bool false, .pointer (some ⟨b13, 0, none⟩), .int .i64 s1.W, .pointer (some ⟨b13, 1, none⟩), .int .i64 s1.H, .int .i64 (mx s1.W s1.H), .bool false, .bool false, .bool true, .pointer (some ⟨b13, 2, none⟩), .slice A2 s1.Bias.length c3, .int .i64 (s1.Bias.length : Int), .int .i64 (w64 (s1.W * s1.H)), .bool false, .bool false, .pointer (some ⟨b13, 3, none⟩), .slice A5 s1.Dark.length c6, .int .i64 (s1.Dark.length : Int), .int .i64 (w64 (s1.W * s1.H)), .bool false, .bool false, .bool false, .pointer (some ⟨b13, 4, none⟩), .slice A8 s1.Flat.length c9, .int .i64 (s1.Flat.length : Int), .int .i64 (w64 (s1.W * s1.H)), .bool true, .bool true, undef, undef, undef, undef, undef, undef, undef, undef, undef, undef, undef, undef, undef, undef, undef, undef, undef, undef, undef, undef, undef, undef, undef, undef, undef, undef, undef, undef, undef, undef, undef, undef, undef, undef, undef, undef, undef, undef, undef, undef, undef, undef, undef], []⟩) (by kernel_rfl) ?_
            refine wpList_nil ?_
            refine hK48 _ _ ?_
            refine wp_ret ?_
            refine hr24 _ _ ?_
            refine hret _ _ ?_
            refine ends_still (v := Value.int .i64 3) (by kernel_rfl) (by kernel_rfl) ?_
            have HS106 := HS15.drop
            injection h with h
            subst h
            exact ⟨f, rfl, FM.le.refl _, HS106⟩
          · have c46 : ¬ ((s1.Flat.length : Int) ≠ (w64 (s1.W * s1.H))) := c46
            refine wpRwI 24 (x := ((s1.Flat.length : Int) != (w64 (s1.W * s1.H)))) (v := false) (by kernel_rfl) (bne_eq_false_iff_eq.mpr (Decidable.of_not_not c46)) ?_
            refine wpRwI 42 (x := ((s1.Flat.length : Int) != (w64 (s1.W * s1.H)))) (v := false) (by kernel_rfl) (bne_eq_false_iff_eq.mpr (Decidable.of_not_not c46)) ?_
            refine wpRwI 43 (x := ((s1.Flat.length : Int) != (w64 (s1.W * s1.H)))) (v := false) (by kernel_rfl) (bne_eq_false_iff_eq.mpr (Decidable.of_not_not c46)) ?_
            refine condF (by kernel_rfl) ?_
            refine wp_seq_k (fun K49 hK50 => ?_)
            refine wp_region_lit ?_
            refine seqL1 (by kernel_rfl) ?_
            refine seqK rfl (does_run (run_load rfl Try.underlying40 rfl (by kernel_rfl : _ = Value.pointer (some ⟨b13, 2, none⟩)) (HS15.cell 2)) ?_)
            have hq_ := bind_some h; clear h; obtain ⟨vt51, hc52, h⟩ := hq_
            refine seqK rfl (does_call (f := 78) (args := #[.slice A2 s1.Bias.length c3, .int .i64 4096]) (by kernel_rfl) (sensor_outside_int.calls k A2 c3 s1.Bias 4096 HS15 HR4 vt51 hc52) ?_)
            rintro _ W55 ⟨f53, rfl, L54, HS56⟩
            refine ⟨_, rfl, ?_⟩
            refine seqS1 (a' := ⟨#[.agg #[.int .i64 s1.W, .int .i64 s1.H, .slice A2 s1.Bias.length c3, .slice A5 s1.Dark.length c6, .slice A8 s1.Flat.length c9, .int .i64 s1.Full, .int .i64 s1.Gain, .int .i64 s1.Noise], .pointer (some ⟨b13, 0, none⟩), .int .i64 0, .int .i64 (w64 (s1.W * s1.H)), .pointer (some ⟨b13, 0, none⟩), .int .i64 s1.W, .pointer (some ⟨b13, 1, none⟩), .int .i64 s1.H, .int .i64 (w64 (s1.W * s1.H)), .bool false, .pointer (some ⟨b13, 0, none⟩), .int .i64 s1.W, .pointer (some ⟨b13, 1, none⟩), .int .i64 s1.H, .int .i64 (mn s1.W s1.H), .bool false, .bool false, .pointer (some ⟨b13, 0, none⟩), .int .i64 s1.W, .pointer (some ⟨b13, 1, none⟩), .int .i64 s1.H, .int .i64 (mx s1.W s1.H), .bool false, .bool false, .bool false, .pointer (some ⟨b13, 2, none⟩), .slice A2 s1.Bias.length c3, .int .i64 (s1.Bias.length : Int), .int .i64 (w64 (s1.W * s1.H)), .bool false, .bool false, .pointer (some ⟨b13, 3, none⟩), .slice A5 s1.Dark.length c6, .int .i64 (s1.Dark.length : Int), .int .i64 (w64 (s1.W * s1.H)), .bool false, .bool false, .bool false, .pointer (some ⟨b13, 4, none⟩), .slice A8 s1.Flat.length c9, .int .i64 (s1.Flat.length : Int), .int .i64 (w64 (s1.W * s1.H)), .bool false, .bool false, undef, .pointer (some ⟨b13, 2, none⟩), .slice A2 s1.Bias.length c3, .bool vt51, .bool vt51, undef, undef, undef, undef, undef, undef, undef, undef, undef, undef, undef, undef, undef, undef, undef, undef, undef, undef, undef, undef, undef, undef, undef, undef, undef, undef, undef, undef, undef, undef, undef, undef, undef, undef, undef, undef, undef, undef], []⟩) (by kernel_rfl) ?_
            have hq_ := ite_some h; clear h; rcases hq_ with ⟨c57, h⟩ | ⟨c57, h⟩
            · have c57 : vt51 = true := c57
              refine seqRwI 47 (x := vt51) (v := true) (by kernel_rfl) c57 ?_
              refine seqRwI 48 (x := vt51) (v := true) (by kernel_rfl) c57 ?_
              refine seqS10 (a' := ⟨#[.agg #[.int .i64 s1.W, .int .i64 s1.H, .slice A2 s1.Bias.length c3, .slice A5 s1.Dark.length c6, .slice A8 s1.Flat.length c9, .int .i64 s1.Full, .int .i64 s1.Gain, .int .i64 s1.Noise], .pointer (some ⟨b13, 0, none⟩), .int .i64 0, .int .i64 (w64 (s1.W * s1.H)), .pointer (some ⟨b13, 0, none⟩), .int .i64 s1.W, .pointer (some ⟨b13, 1, none⟩), .int .i64 s1.H, .int .i64 (w64 (s1.W * s1.H)), .bool false, .pointer (some ⟨b13, 0, none⟩), .int .i64 s1.W, .pointer (some ⟨b13, 1, none⟩), .int .i64 s1.H, .int .i64 (mn s1.W s1.H), .bool false, .bool false, .pointer (some ⟨b13, 0, none⟩), .int .i64 s1.W, .pointer (some ⟨b13, 1, none⟩), .int .i64 s1.H, .int .i64 (mx s1.W s1.H), .bool false, .bool false, .bool false, .pointer (some ⟨b13, 2, none⟩), .slice A2 s1.Bias.length c3, .int .i64 (s1.Bias.length : Int), .int .i64 (w64 (s1.W * s1.H)), .bool false, .bool false, .pointer (some ⟨b13, 3, none⟩), .slice A5 s1.Dark.length c6, .int .i64 (s1.Dark.length : Int), .int .i64 (w64 (s1.W * s1.H)), .bool false, .bool false, .bool false, .pointer (some ⟨b13, 4, none⟩), .slice A8 s1.Flat.length c9, .int .i64 (s1.Flat.length : Int), .int .i64 (w64 (s1.W * s1.H)), .bool false, .bool false, .bool true, .pointer (some ⟨b13, 2, none⟩), .slice A2 s1.Bias.length c3, .bool true, .bool true, undef, undef, undef, .bool true, .bool true, undef, undef, undef, .bool true, undef, undef, undef, undef, undef, undef, undef, undef, undef, undef, undef, undef, undef, undef, undef, undef, undef, undef, undef, undef, undef, undef, undef, undef, undef, undef, undef, undef, undef], []⟩) (by kernel_rfl) ?_
              refine wpList_nil ?_
              refine hK50 _ _ ?_
              refine condT (by kernel_rfl) ?_
              refine wp_seq_k (fun K58 hK59 => ?_)
              refine wp_region_lit ?_
              refine seqS1 (a' := ⟨#[.agg #[.int .i64 s1.W, .int .i64 s1.H, .slice A2 s1.Bias.length c3, .slice A5 s1.Dark.length c6, .slice A8 s1.Flat.length c9, .int .i64 s1.Full, .int .i64 s1.Gain, .int .i64 s1.Noise], .pointer (some ⟨b13, 0, none⟩), .int .i64 4, .int .i64 (w64 (s1.W * s1.H)), .pointer (some ⟨b13, 0, none⟩), .int .i64 s1.W, .pointer (some ⟨b13, 1, none⟩), .int .i64 s1.H, .int .i64 (w64 (s1.W * s1.H)), .bool false, .pointer (some ⟨b13, 0, none⟩), .int .i64 s1.W, .pointer (some ⟨b13, 1, none⟩), .int .i64 s1.H, .int .i64 (mn s1.W s1.H), .bool false, .bool false, .pointer (some ⟨b13, 0, none⟩), .int .i64 s1.W, .pointer (some ⟨b13, 1, none⟩), .int .i64 s1.H, .int .i64 (mx s1.W s1.H), .bool false, .bool false, .bool false, .pointer (some ⟨b13, 2, none⟩), .slice A2 s1.Bias.length c3, .int .i64 (s1.Bias.length : Int), .int .i64 (w64 (s1.W * s1.H)), .bool false, .bool false, .pointer (some ⟨b13, 3, none⟩), .slice A5 s1.Dark.length c6, .int .i64 (s1.Dark.length : Int), .int .i64 (w64 (s1.W * s1.H)), .bool false, .bool false, .bool false, .pointer (some ⟨b13, 4, none⟩), .slice A8 s1.Flat.length c9, .int .i64 (s1.Flat.length : Int), .int .i64 (w64 (s1.W * s1.H)), .bool false, .bool false, .bool true, .pointer (some ⟨b13, 2, none⟩), .slice A2 s1.Bias.length c3, .bool true, .bool true, undef, undef, undef, .bool true, .bool true, undef, undef, undef, .bool true, undef, undef, undef, undef, undef, undef, undef, undef, undef, undef, undef, undef, undef, undef, undef, undef, undef, undef, undef, undef, undef, undef, undef, undef, undef, undef, undef, undef, undef], []⟩) (by kernel_rfl) ?_
              refine wpList_nil ?_
              refine hK59 _ _ ?_
              refine wp_ret ?_
              refine hr24 _ _ ?_
              refine hret _ _ ?_
              refine ends_still (v := Value.int .i64 4) (by kernel_rfl) (by kernel_rfl) ?_
              have HS107 := HS56.drop
              injection h with h
              subst h
              exact ⟨f53, rfl, L54, HS107⟩
            · have c57 : ¬ (vt51 = true) := c57
              refine seqRwI 47 (x := vt51) (v := false) (by kernel_rfl) (Bool.eq_false_iff.mpr c57) ?_
              refine seqRwI 48 (x := vt51) (v := false) (by kernel_rfl) (Bool.eq_false_iff.mpr c57) ?_
              refine seqL1 (by kernel_rfl) ?_
              refine seqG (by kernel_rfl) (does_run (run_load rfl Try.underlying44 rfl (by kernel_rfl : _ = Value.pointer (some ⟨b13, 3, none⟩)) (HS56.cell 3)) ?_)
              have hq_ := bind_some h; clear h; obtain ⟨vt60, hc61, h⟩ := hq_
              refine seqG (by kernel_rfl) (does_call (f := 53) (args := #[.slice A5 s1.Dark.length c6, .int .i64 17592186044416]) (by kernel_rfl) (sensor_outside_Light.calls k A5 c6 s1.Dark 17592186044416 HS56 (HR7.mono L54) vt60 hc61) ?_)
              rintro _ W64 ⟨f62, rfl, L63, HS65⟩
              refine ⟨_, rfl, ?_⟩
              refine seqS2 (a' := ⟨#[.agg #[.int .i64 s1.W, .int .i64 s1.H, .slice A2 s1.Bias.length c3, .slice A5 s1.Dark.length c6, .slice A8 s1.Flat.length c9, .int .i64 s1.Full, .int .i64 s1.Gain, .int .i64 s1.Noise], .pointer (some ⟨b13, 0, none⟩), .int .i64 0, .int .i64 (w64 (s1.W * s1.H)), .pointer (some ⟨b13, 0, none⟩), .int .i64 s1.W, .pointer (some ⟨b13, 1, none⟩), .int .i64 s1.H, .int .i64 (w64 (s1.W * s1.H)), .bool false, .pointer (some ⟨b13, 0, none⟩), .int .i64 s1.W, .pointer (some ⟨b13, 1, none⟩), .int .i64 s1.H, .int .i64 (mn s1.W s1.H), .bool false, .bool false, .pointer (some ⟨b13, 0, none⟩), .int .i64 s1.W, .pointer (some ⟨b13, 1, none⟩), .int .i64 s1.H, .int .i64 (mx s1.W s1.H), .bool false, .bool false, .bool false, .pointer (some ⟨b13, 2, none⟩), .slice A2 s1.Bias.length c3, .int .i64 (s1.Bias.length : Int), .int .i64 (w64 (s1.W * s1.H)), .bool false, .bool false, .pointer (some ⟨b13, 3, none⟩), .slice A5 s1.Dark.length c6, .int .i64 (s1.Dark.length : Int), .int .i64 (w64 (s1.W * s1.H)), .bool false, .bool false, .bool false, .pointer (some ⟨b13, 4, none⟩), .slice A8 s1.Flat.length c9, .int .i64 (s1.Flat.length : Int), .int .i64 (w64 (s1.W * s1.H)), .bool false, .bool false, undef, .pointer (some ⟨b13, 2, none⟩), .slice A2 s1.Bias.length c3, .bool false, .bool false, .pointer (some ⟨b13, 3, none⟩), .slice A5 s1.Dark.length c6, .bool vt60, .bool vt60, .bool vt60, undef, undef, undef, undef, undef, undef, undef, undef, undef, undef, undef, undef, undef, undef, undef, undef, undef, undef, undef, undef, undef, undef, undef, undef, undef, undef, undef, undef, undef, undef, undef, undef, undef], []⟩) (by kernel_rfl) ?_
              have hq_ := ite_some h; clear h; rcases hq_ with ⟨c66, h⟩ | ⟨c66, h⟩
              · have c66 : vt60 = true := c66
                refine seqRwI 51 (x := vt60) (v := true) (by kernel_rfl) c66 ?_
                refine seqRwI 52 (x := vt60) (v := true) (by kernel_rfl) c66 ?_
                refine seqRwI 53 (x := vt60) (v := true) (by kernel_rfl) c66 ?_
                refine seqS5 (a' := ⟨#[.agg #[.int .i64 s1.W, .int .i64 s1.H, .slice A2 s1.Bias.length c3, .slice A5 s1.Dark.length c6, .slice A8 s1.Flat.length c9, .int .i64 s1.Full, .int .i64 s1.Gain, .int .i64 s1.Noise], .pointer (some ⟨b13, 0, none⟩), .int .i64 0, .int .i64 (w64 (s1.W * s1.H)), .pointer (some ⟨b13, 0, none⟩), .int .i64 s1.W, .pointer (some ⟨b13, 1, none⟩), .int .i64 s1.H, .int .i64 (w64 (s1.W * s1.H)), .bool false, .pointer (some ⟨b13, 0, none⟩), .int .i64 s1.W, .pointer (some ⟨b13, 1, none⟩), .int .i64 s1.H, .int .i64 (mn s1.W s1.H), .bool false, .bool false, .pointer (some ⟨b13, 0, none⟩), .int .i64 s1.W, .pointer (some ⟨b13, 1, none⟩), .int .i64 s1.H, .int .i64 (mx s1.W s1.H), .bool false, .bool false, .bool false, .pointer (some ⟨b13, 2, none⟩), .slice A2 s1.Bias.length c3, .int .i64 (s1.Bias.length : Int), .int .i64 (w64 (s1.W * s1.H)), .bool false, .bool false, .pointer (some ⟨b13, 3, none⟩), .slice A5 s1.Dark.length c6, .int .i64 (s1.Dark.length : Int), .int .i64 (w64 (s1.W * s1.H)), .bool false, .bool false, .bool false, .pointer (some ⟨b13, 4, none⟩), .slice A8 s1.Flat.length c9, .int .i64 (s1.Flat.length : Int), .int .i64 (w64 (s1.W * s1.H)), .bool false, .bool false, .bool true, .pointer (some ⟨b13, 2, none⟩), .slice A2 s1.Bias.length c3, .bool false, .bool false, .pointer (some ⟨b13, 3, none⟩), .slice A5 s1.Dark.length c6, .bool true, .bool true, .bool true, undef, undef, undef, .bool true, undef, undef, undef, undef, undef, undef, undef, undef, undef, undef, undef, undef, undef, undef, undef, undef, undef, undef, undef, undef, undef, undef, undef, undef, undef, undef, undef, undef, undef], []⟩) (by kernel_rfl) ?_
                refine wpList_nil ?_
                refine hK50 _ _ ?_
                refine condT (by kernel_rfl) ?_
                refine wp_seq_k (fun K67 hK68 => ?_)
                refine wp_region_lit ?_
                refine seqS1 (a' := ⟨#[.agg #[.int .i64 s1.W, .int .i64 s1.H, .slice A2 s1.Bias.length c3, .slice A5 s1.Dark.length c6, .slice A8 s1.Flat.length c9, .int .i64 s1.Full, .int .i64 s1.Gain, .int .i64 s1.Noise], .pointer (some ⟨b13, 0, none⟩), .int .i64 4, .int .i64 (w64 (s1.W * s1.H)), .pointer (some ⟨b13, 0, none⟩), .int .i64 s1.W, .pointer (some ⟨b13, 1, none⟩), .int .i64 s1.H, .int .i64 (w64 (s1.W * s1.H)), .bool false, .pointer (some ⟨b13, 0, none⟩), .int .i64 s1.W, .pointer (some ⟨b13, 1, none⟩), .int .i64 s1.H, .int .i64 (mn s1.W s1.H), .bool false, .bool false, .pointer (some ⟨b13, 0, none⟩), .int .i64 s1.W, .pointer (some ⟨b13, 1, none⟩), .int .i64 s1.H, .int .i64 (mx s1.W s1.H), .bool false, .bool false, .bool false, .pointer (some ⟨b13, 2, none⟩), .slice A2 s1.Bias.length c3, .int .i64 (s1.Bias.length : Int), .int .i64 (w64 (s1.W * s1.H)), .bool false, .bool false, .pointer (some ⟨b13, 3, none⟩), .slice A5 s1.Dark.length c6, .int .i64 (s1.Dark.length : Int), .int .i64 (w64 (s1.W * s1.H)), .bool false, .bool false, .bool false, .pointer (some ⟨b13, 4, none⟩), .slice A8 s1.Flat.length c9, .int .i64 (s1.Flat.length : Int), .int .i64 (w64 (s1.W * s1.H)), .bool false, .bool false, .bool true, .pointer (some ⟨b13, 2, none⟩), .slice A2 s1.Bias.length c3, .bool false, .bool false, .pointer (some ⟨b13, 3, none⟩), .slice A5 s1.Dark.length c6, .bool true, .bool true, .bool true, undef, undef, undef, .bool true, undef, undef, undef, undef, undef, undef, undef, undef, undef, undef, undef, undef, undef, undef, undef, undef, undef, undef, undef, undef, undef, undef, undef, undef, undef, undef, undef, undef, undef], []⟩) (by kernel_rfl) ?_
                refine wpList_nil ?_
                refine hK68 _ _ ?_
                refine wp_ret ?_
                refine hr24 _ _ ?_
                refine hret _ _ ?_
                refine ends_still (v := Value.int .i64 4) (by kernel_rfl) (by kernel_rfl) ?_
                have HS108 := HS65.drop
                injection h with h
                subst h
                exact ⟨f62, rfl, (L54.trans L63), HS108⟩
              · have c66 : ¬ (vt60 = true) := c66
                refine seqRwI 51 (x := vt60) (v := false) (by kernel_rfl) (Bool.eq_false_iff.mpr c66) ?_
                refine seqRwI 52 (x := vt60) (v := false) (by kernel_rfl) (Bool.eq_false_iff.mpr c66) ?_
                refine seqRwI 53 (x := vt60) (v := false) (by kernel_rfl) (Bool.eq_false_iff.mpr c66) ?_
                refine seqL1 (by kernel_rfl) ?_
                refine seqG (by kernel_rfl) (does_run (run_load rfl Try.underlying40 rfl (by kernel_rfl : _ = Value.pointer (some ⟨b13, 4, none⟩)) (HS65.cell 4)) ?_)
                have hq_ := bind_some h; clear h; obtain ⟨vt69, hc70, h⟩ := hq_
                refine seqG (by kernel_rfl) (does_call (f := 78) (args := #[.slice A8 s1.Flat.length c9, .int .i64 4096]) (by kernel_rfl) (sensor_outside_int.calls k A8 c9 s1.Flat 4096 HS65 (HR10.mono (L54.trans L63)) vt69 hc70) ?_)
                rintro _ W73 ⟨f71, rfl, L72, HS74⟩
                refine ⟨_, rfl, ?_⟩
                refine seqS2 (a' := ⟨#[.agg #[.int .i64 s1.W, .int .i64 s1.H, .slice A2 s1.Bias.length c3, .slice A5 s1.Dark.length c6, .slice A8 s1.Flat.length c9, .int .i64 s1.Full, .int .i64 s1.Gain, .int .i64 s1.Noise], .pointer (some ⟨b13, 0, none⟩), .int .i64 0, .int .i64 (w64 (s1.W * s1.H)), .pointer (some ⟨b13, 0, none⟩), .int .i64 s1.W, .pointer (some ⟨b13, 1, none⟩), .int .i64 s1.H, .int .i64 (w64 (s1.W * s1.H)), .bool false, .pointer (some ⟨b13, 0, none⟩), .int .i64 s1.W, .pointer (some ⟨b13, 1, none⟩), .int .i64 s1.H, .int .i64 (mn s1.W s1.H), .bool false, .bool false, .pointer (some ⟨b13, 0, none⟩), .int .i64 s1.W, .pointer (some ⟨b13, 1, none⟩), .int .i64 s1.H, .int .i64 (mx s1.W s1.H), .bool false, .bool false, .bool false, .pointer (some ⟨b13, 2, none⟩), .slice A2 s1.Bias.length c3, .int .i64 (s1.Bias.length : Int), .int .i64 (w64 (s1.W * s1.H)), .bool false, .bool false, .pointer (some ⟨b13, 3, none⟩), .slice A5 s1.Dark.length c6, .int .i64 (s1.Dark.length : Int), .int .i64 (w64 (s1.W * s1.H)), .bool false, .bool false, .bool false, .pointer (some ⟨b13, 4, none⟩), .slice A8 s1.Flat.length c9, .int .i64 (s1.Flat.length : Int), .int .i64 (w64 (s1.W * s1.H)), .bool false, .bool false, .bool vt69, .pointer (some ⟨b13, 2, none⟩), .slice A2 s1.Bias.length c3, .bool false, .bool false, .pointer (some ⟨b13, 3, none⟩), .slice A5 s1.Dark.length c6, .bool false, .bool false, .bool false, .pointer (some ⟨b13, 4, none⟩), .slice A8 s1.Flat.length c9, .bool vt69, .bool vt69, undef, undef, undef, undef, undef, undef, undef, undef, undef, undef, undef, undef, undef, undef, undef, undef, undef, undef, undef, undef, undef, undef, undef, undef, undef, undef, undef, undef, undef], []⟩) (by kernel_rfl) ?_
                refine wpList_nil ?_
                refine hK50 _ _ ?_
                have hq_ := ite_some h; clear h; rcases hq_ with ⟨c76, h⟩ | ⟨c76, h⟩
                · have c76 : vt69 = true := c76
                  refine wpRwI 44 (x := vt69) (v := true) (by kernel_rfl) c76 ?_
                  refine wpRwI 56 (x := vt69) (v := true) (by kernel_rfl) c76 ?_
                  refine wpRwI 57 (x := vt69) (v := true) (by kernel_rfl) c76 ?_
                  refine condT (by kernel_rfl) ?_
                  refine wp_seq_k (fun K77 hK78 => ?_)
                  refine wp_region_lit ?_
                  refine seqS1 (a' := ⟨#[.agg #[.int .i64 s1.W, .int .i64 s1.H, .slice A2 s1.Bias.length c3, .slice A5 s1.Dark.length c6, .slice A8 s1.Flat.length c9, .int .i64 s1.Full, .int .i64 s1.Gain, .int .i64 s1.Noise], .pointer (some ⟨b13, 0, none⟩), .int .i64 4, .int .i64 (w64 (s1.W * s1.H)), .pointer (some ⟨b13, 0, none⟩), .int .i64 s1.W, .pointer (some ⟨b13, 1, none⟩), .int .i64 s1.H, .int .i64 (w64 (s1.W * s1.H)), .bool false, .pointer (some ⟨b13, 0, none⟩), .int .i64 s1.W, .pointer (some ⟨b13, 1, none⟩), .int .i64 s1.H, .int .i64 (mn s1.W s1.H), .bool false, .bool false, .pointer (some ⟨b13, 0, none⟩), .int .i64 s1.W, .pointer (some ⟨b13, 1, none⟩), .int .i64 s1.H, .int .i64 (mx s1.W s1.H), .bool false, .bool false, .bool false, .pointer (some ⟨b13, 2, none⟩), .slice A2 s1.Bias.length c3, .int .i64 (s1.Bias.length : Int), .int .i64 (w64 (s1.W * s1.H)), .bool false, .bool false, .pointer (some ⟨b13, 3, none⟩), .slice A5 s1.Dark.length c6, .int .i64 (s1.Dark.length : Int), .int .i64 (w64 (s1.W * s1.H)), .bool false, .bool false, .bool false, .pointer (some ⟨b13, 4, none⟩), .slice A8 s1.Flat.length c9, .int .i64 (s1.Flat.length : Int), .int .i64 (w64 (s1.W * s1.H)), .bool false, .bool false, .bool true, .pointer (some ⟨b13, 2, none⟩), .slice A2 s1.Bias.length c3, .bool false, .bool false, .pointer (some ⟨b13, 3, none⟩), .slice A5 s1.Dark.length c6, .bool false, .bool false, .bool false, .pointer (some ⟨b13, 4, none⟩), .slice A8 s1.Flat.length c9, .bool true, .bool true, undef, undef, undef, undef, undef, undef, undef, undef, undef, undef, undef, undef, undef, undef, undef, undef, undef, undef, undef, undef, undef, undef, undef, undef, undef, undef, undef, undef, undef], []⟩) (by kernel_rfl) ?_
                  refine wpList_nil ?_
                  refine hK78 _ _ ?_
                  refine wp_ret ?_
                  refine hr24 _ _ ?_
                  refine hret _ _ ?_
                  refine ends_still (v := Value.int .i64 4) (by kernel_rfl) (by kernel_rfl) ?_
                  have HS109 := HS74.drop
                  injection h with h
                  subst h
                  exact ⟨f71, rfl, (L54.trans (L63.trans L72)), HS109⟩
                · have c76 : ¬ (vt69 = true) := c76
                  refine wpRwI 44 (x := vt69) (v := false) (by kernel_rfl) (Bool.eq_false_iff.mpr c76) ?_
                  refine wpRwI 56 (x := vt69) (v := false) (by kernel_rfl) (Bool.eq_false_iff.mpr c76) ?_
                  refine wpRwI 57 (x := vt69) (v := false) (by kernel_rfl) (Bool.eq_false_iff.mpr c76) ?_
                  refine condF (by kernel_rfl) ?_
                  refine wp_seq_k (fun K79 hK80 => ?_)
                  refine wp_region_lit ?_
                  refine seqL1 (by kernel_rfl) ?_
                  refine seqK rfl (does_run (run_load rfl Try.underlying22 rfl (by kernel_rfl : _ = Value.pointer (some ⟨b13, 5, none⟩)) (HS74.cell 5)) ?_)
                  refine seqS2 (a' := ⟨#[.agg #[.int .i64 s1.W, .int .i64 s1.H, .slice A2 s1.Bias.length c3, .slice A5 s1.Dark.length c6, .slice A8 s1.Flat.length c9, .int .i64 s1.Full, .int .i64 s1.Gain, .int .i64 s1.Noise], .pointer (some ⟨b13, 0, none⟩), .int .i64 0, .int .i64 (w64 (s1.W * s1.H)), .pointer (some ⟨b13, 0, none⟩), .int .i64 s1.W, .pointer (some ⟨b13, 1, none⟩), .int .i64 s1.H, .int .i64 (w64 (s1.W * s1.H)), .bool false, .pointer (some ⟨b13, 0, none⟩), .int .i64 s1.W, .pointer (some ⟨b13, 1, none⟩), .int .i64 s1.H, .int .i64 (mn s1.W s1.H), .bool false, .bool false, .pointer (some ⟨b13, 0, none⟩), .int .i64 s1.W, .pointer (some ⟨b13, 1, none⟩), .int .i64 s1.H, .int .i64 (mx s1.W s1.H), .bool false, .bool false, .bool false, .pointer (some ⟨b13, 2, none⟩), .slice A2 s1.Bias.length c3, .int .i64 (s1.Bias.length : Int), .int .i64 (w64 (s1.W * s1.H)), .bool false, .bool false, .pointer (some ⟨b13, 3, none⟩), .slice A5 s1.Dark.length c6, .int .i64 (s1.Dark.length : Int), .int .i64 (w64 (s1.W * s1.H)), .bool false, .bool false, .bool false, .pointer (some ⟨b13, 4, none⟩), .slice A8 s1.Flat.length c9, .int .i64 (s1.Flat.length : Int), .int .i64 (w64 (s1.W * s1.H)), .bool false, .bool false, .bool false, .pointer (some ⟨b13, 2, none⟩), .slice A2 s1.Bias.length c3, .bool false, .bool false, .pointer (some ⟨b13, 3, none⟩), .slice A5 s1.Dark.length c6, .bool false, .bool false, .bool false, .pointer (some ⟨b13, 4, none⟩), .slice A8 s1.Flat.length c9, .bool false, .bool false, undef, .pointer (some ⟨b13, 5, none⟩), .int .i64 s1.Full, .bool (decide (s1.Full < 1)), .bool (decide (s1.Full < 1)), undef, undef, undef, undef, undef, undef, undef, undef, undef, undef, undef, undef, undef, undef, undef, undef, undef, undef, undef, undef, undef, undef, undef, undef], []⟩) (by kernel_rfl) ?_
                  have hq_ := ite_some h; clear h; rcases hq_ with ⟨c81, h⟩ | ⟨c81, h⟩
                  · have c81 : s1.Full < 1 := c81
                    refine seqRwI 61 (x := (decide (s1.Full < 1))) (v := true) (by kernel_rfl) (decide_eq_true c81) ?_
                    refine seqRwI 62 (x := (decide (s1.Full < 1))) (v := true) (by kernel_rfl) (decide_eq_true c81) ?_
                    refine seqS25 (a' := ⟨#[.agg #[.int .i64 s1.W, .int .i64 s1.H, .slice A2 s1.Bias.length c3, .slice A5 s1.Dark.length c6, .slice A8 s1.Flat.length c9, .int .i64 s1.Full, .int .i64 s1.Gain, .int .i64 s1.Noise], .pointer (some ⟨b13, 0, none⟩), .int .i64 0, .int .i64 (w64 (s1.W * s1.H)), .pointer (some ⟨b13, 0, none⟩), .int .i64 s1.W, .pointer (some ⟨b13, 1, none⟩), .int .i64 s1.H, .int .i64 (w64 (s1.W * s1.H)), .bool false, .pointer (some ⟨b13, 0, none⟩), .int .i64 s1.W, .pointer (some ⟨b13, 1, none⟩), .int .i64 s1.H, .int .i64 (mn s1.W s1.H), .bool false, .bool false, .pointer (some ⟨b13, 0, none⟩), .int .i64 s1.W, .pointer (some ⟨b13, 1, none⟩), .int .i64 s1.H, .int .i64 (mx s1.W s1.H), .bool false, .bool false, .bool false, .pointer (some ⟨b13, 2, none⟩), .slice A2 s1.Bias.length c3, .int .i64 (s1.Bias.length : Int), .int .i64 (w64 (s1.W * s1.H)), .bool false, .bool false, .pointer (some ⟨b13, 3, none⟩), .slice A5 s1.Dark.length c6, .int .i64 (s1.Dark.length : Int), .int .i64 (w64 (s1.W * s1.H)), .bool false, .bool false, .bool false, .pointer (some ⟨b13, 4, none⟩), .slice A8 s1.Flat.length c9, .int .i64 (s1.Flat.length : Int), .int .i64 (w64 (s1.W * s1.H)), .bool false, .bool false, .bool false, .pointer (some ⟨b13, 2, none⟩), .slice A2 s1.Bias.length c3, .bool false, .bool false, .pointer (some ⟨b13, 3, none⟩), .slice A5 s1.Dark.length c6, .bool false, .bool false, .bool false, .pointer (some ⟨b13, 4, none⟩), .slice A8 s1.Flat.length c9, .bool false, .bool false, .bool true, .pointer (some ⟨b13, 5, none⟩), .int .i64 s1.Full, .bool true, .bool true, undef, undef, undef, .bool true, .bool true, undef, undef, undef, .bool true, .bool true, undef, undef, undef, .bool true, .bool true, undef, undef, undef, .bool true, .bool true, undef, undef, undef, .bool true], []⟩) (by kernel_rfl) ?_
                    refine wpList_nil ?_
                    refine hK80 _ _ ?_
                    refine condT (by kernel_rfl) ?_
                    refine wp_seq_k (fun K82 hK83 => ?_)
                    refine wp_region_lit ?_
                    refine seqS1 (a' := ⟨#[.agg #[.int .i64 s1.W, .int .i64 s1.H, .slice A2 s1.Bias.length c3, .slice A5 s1.Dark.length c6, .slice A8 s1.Flat.length c9, .int .i64 s1.Full, .int .i64 s1.Gain, .int .i64 s1.Noise], .pointer (some ⟨b13, 0, none⟩), .int .i64 4, .int .i64 (w64 (s1.W * s1.H)), .pointer (some ⟨b13, 0, none⟩), .int .i64 s1.W, .pointer (some ⟨b13, 1, none⟩), .int .i64 s1.H, .int .i64 (w64 (s1.W * s1.H)), .bool false, .pointer (some ⟨b13, 0, none⟩), .int .i64 s1.W, .pointer (some ⟨b13, 1, none⟩), .int .i64 s1.H, .int .i64 (mn s1.W s1.H), .bool false, .bool false, .pointer (some ⟨b13, 0, none⟩), .int .i64 s1.W, .pointer (some ⟨b13, 1, none⟩), .int .i64 s1.H, .int .i64 (mx s1.W s1.H), .bool false, .bool false, .bool false, .pointer (some ⟨b13, 2, none⟩), .slice A2 s1.Bias.length c3, .int .i64 (s1.Bias.length : Int), .int .i64 (w64 (s1.W * s1.H)), .bool false, .bool false, .pointer (some ⟨b13, 3, none⟩), .slice A5 s1.Dark.length c6, .int .i64 (s1.Dark.length : Int), .int .i64 (w64 (s1.W * s1.H)), .bool false, .bool false, .bool false, .pointer (some ⟨b13, 4, none⟩), .slice A8 s1.Flat.length c9, .int .i64 (s1.Flat.length : Int), .int .i64 (w64 (s1.W * s1.H)), .bool false, .bool false, .bool false, .pointer (some ⟨b13, 2, none⟩), .slice A2 s1.Bias.length c3, .bool false, .bool false, .pointer (some ⟨b13, 3, none⟩), .slice A5 s1.Dark.length c6, .bool false, .bool false, .bool false, .pointer (some ⟨b13, 4, none⟩), .slice A8 s1.Flat.length c9, .bool false, .bool false, .bool true, .pointer (some ⟨b13, 5, none⟩), .int .i64 s1.Full, .bool true, .bool true, undef, undef, undef, .bool true, .bool true, undef, undef, undef, .bool true, .bool true, undef, undef, undef, .bool true, .bool true, undef, undef, undef, .bool true, .bool true, undef, undef, undef, .bool true], []⟩) (by kernel_rfl) ?_
                    refine wpList_nil ?_
                    refine hK83 _ _ ?_
                    refine wp_ret ?_
                    refine hr24 _ _ ?_
                    refine hret _ _ ?_
                    refine ends_still (v := Value.int .i64 4) (by kernel_rfl) (by kernel_rfl) ?_
                    have HS110 := HS74.drop
                    injection h with h
                    subst h
                    exact ⟨f71, rfl, (L54.trans (L63.trans L72)), HS110⟩
                  · have c81 : ¬ (s1.Full < 1) := c81
                    refine seqRwI 61 (x := (decide (s1.Full < 1))) (v := false) (by kernel_rfl) (decide_eq_false c81) ?_
                    refine seqRwI 62 (x := (decide (s1.Full < 1))) (v := false) (by kernel_rfl) (decide_eq_false c81) ?_
                    refine seqL1 (by kernel_rfl) ?_
                    refine seqG (by kernel_rfl) (does_run (run_load rfl Try.underlying22 rfl (by kernel_rfl : _ = Value.pointer (some ⟨b13, 5, none⟩)) (HS74.cell 5)) ?_)
                    refine seqS3 (a' := ⟨#[.agg #[.int .i64 s1.W, .int .i64 s1.H, .slice A2 s1.Bias.length c3, .slice A5 s1.Dark.length c6, .slice A8 s1.Flat.length c9, .int .i64 s1.Full, .int .i64 s1.Gain, .int .i64 s1.Noise], .pointer (some ⟨b13, 0, none⟩), .int .i64 0, .int .i64 (w64 (s1.W * s1.H)), .pointer (some ⟨b13, 0, none⟩), .int .i64 s1.W, .pointer (some ⟨b13, 1, none⟩), .int .i64 s1.H, .int .i64 (w64 (s1.W * s1.H)), .bool false, .pointer (some ⟨b13, 0, none⟩), .int .i64 s1.W, .pointer (some ⟨b13, 1, none⟩), .int .i64 s1.H, .int .i64 (mn s1.W s1.H), .bool false, .bool false, .pointer (some ⟨b13, 0, none⟩), .int .i64 s1.W, .pointer (some ⟨b13, 1, none⟩), .int .i64 s1.H, .int .i64 (mx s1.W s1.H), .bool false, .bool false, .bool false, .pointer (some ⟨b13, 2, none⟩), .slice A2 s1.Bias.length c3, .int .i64 (s1.Bias.length : Int), .int .i64 (w64 (s1.W * s1.H)), .bool false, .bool false, .pointer (some ⟨b13, 3, none⟩), .slice A5 s1.Dark.length c6, .int .i64 (s1.Dark.length : Int), .int .i64 (w64 (s1.W * s1.H)), .bool false, .bool false, .bool false, .pointer (some ⟨b13, 4, none⟩), .slice A8 s1.Flat.length c9, .int .i64 (s1.Flat.length : Int), .int .i64 (w64 (s1.W * s1.H)), .bool false, .bool false, .bool false, .pointer (some ⟨b13, 2, none⟩), .slice A2 s1.Bias.length c3, .bool false, .bool false, .pointer (some ⟨b13, 3, none⟩), .slice A5 s1.Dark.length c6, .bool false, .bool false, .bool false, .pointer (some ⟨b13, 4, none⟩), .slice A8 s1.Flat.length c9, .bool false, .bool false, undef, .pointer (some ⟨b13, 5, none⟩), .int .i64 s1.Full, .bool false, .bool false, .pointer (some ⟨b13, 5, none⟩), .int .i64 s1.Full, .bool (decide (s1.Full > 1048576)), .bool (decide (s1.Full > 1048576)), .bool (decide (s1.Full > 1048576)), undef, undef, undef, undef, undef, undef, undef, undef, undef, undef, undef, undef, undef, undef, undef, undef, undef, undef, undef], []⟩) (by kernel_rfl) ?_
                    have hq_ := ite_some h; clear h; rcases hq_ with ⟨c84, h⟩ | ⟨c84, h⟩
                    · have c84 : s1.Full > 1048576 := c84
                      refine seqRwI 65 (x := (decide (s1.Full > 1048576))) (v := true) (by kernel_rfl) (decide_eq_true c84) ?_
                      refine seqRwI 66 (x := (decide (s1.Full > 1048576))) (v := true) (by kernel_rfl) (decide_eq_true c84) ?_
                      refine seqRwI 67 (x := (decide (s1.Full > 1048576))) (v := true) (by kernel_rfl) (decide_eq_true c84) ?_
                      refine seqS20 (a' := ⟨#[.agg #[.int .i64 s1.W, .int .i64 s1.H, .slice A2 s1.Bias.length c3, .slice A5 s1.Dark.length c6, .slice A8 s1.Flat.length c9, .int .i64 s1.Full, .int .i64 s1.Gain, .int .i64 s1.Noise], .pointer (some ⟨b13, 0, none⟩), .int .i64 0, .int .i64 (w64 (s1.W * s1.H)), .pointer (some ⟨b13, 0, none⟩), .int .i64 s1.W, .pointer (some ⟨b13, 1, none⟩), .int .i64 s1.H, .int .i64 (w64 (s1.W * s1.H)), .bool false, .pointer (some ⟨b13, 0, none⟩), .int .i64 s1.W, .pointer (some ⟨b13, 1, none⟩), .int .i64 s1.H, .int .i64 (mn s1.W s1.H), .bool false, .bool false, .pointer (some ⟨b13, 0, none⟩), .int .i64 s1.W, .pointer (some ⟨b13, 1, none⟩), .int .i64 s1.H, .int .i64 (mx s1.W s1.H), .bool false, .bool false, .bool false, .pointer (some ⟨b13, 2, none⟩), .slice A2 s1.Bias.length c3, .int .i64 (s1.Bias.length : Int), .int .i64 (w64 (s1.W * s1.H)), .bool false, .bool false, .pointer (some ⟨b13, 3, none⟩), .slice A5 s1.Dark.length c6, .int .i64 (s1.Dark.length : Int), .int .i64 (w64 (s1.W * s1.H)), .bool false, .bool false, .bool false, .pointer (some ⟨b13, 4, none⟩), .slice A8 s1.Flat.length c9, .int .i64 (s1.Flat.length : Int), .int .i64 (w64 (s1.W * s1.H)), .bool false, .bool false, .bool false, .pointer (some ⟨b13, 2, none⟩), .slice A2 s1.Bias.length c3, .bool false, .bool false, .pointer (some ⟨b13, 3, none⟩), .slice A5 s1.Dark.length c6, .bool false, .bool false, .bool false, .pointer (some ⟨b13, 4, none⟩), .slice A8 s1.Flat.length c9, .bool false, .bool false, .bool true, .pointer (some ⟨b13, 5, none⟩), .int .i64 s1.Full, .bool false, .bool false, .pointer (some ⟨b13, 5, none⟩), .int .i64 s1.Full, .bool true, .bool true, .bool true, undef, undef, undef, .bool true, .bool true, undef, undef, undef, .bool true, .bool true, undef, undef, undef, .bool true, .bool true, undef, undef, undef, .bool true], []⟩) (by kernel_rfl) ?_
                      refine wpList_nil ?_
                      refine hK80 _ _ ?_
                      refine condT (by kernel_rfl) ?_
                      refine wp_seq_k (fun K85 hK86 => ?_)
                      refine wp_region_lit ?_
                      refine seqS1 (a' := ⟨#[.agg #[.int .i64 s1.W, .int .i64 s1.H, .slice A2 s1.Bias.length c3, .slice A5 s1.Dark.length c6, .slice A8 s1.Flat.length c9, .int .i64 s1.Full, .int .i64 s1.Gain, .int .i64 s1.Noise], .pointer (some ⟨b13, 0, none⟩), .int .i64 4, .int .i64 (w64 (s1.W * s1.H)), .pointer (some ⟨b13, 0, none⟩), .int .i64 s1.W, .pointer (some ⟨b13, 1, none⟩), .int .i64 s1.H, .int .i64 (w64 (s1.W * s1.H)), .bool false, .pointer (some ⟨b13, 0, none⟩), .int .i64 s1.W, .pointer (some ⟨b13, 1, none⟩), .int .i64 s1.H, .int .i64 (mn s1.W s1.H), .bool false, .bool false, .pointer (some ⟨b13, 0, none⟩), .int .i64 s1.W, .pointer (some ⟨b13, 1, none⟩), .int .i64 s1.H, .int .i64 (mx s1.W s1.H), .bool false, .bool false, .bool false, .pointer (some ⟨b13, 2, none⟩), .slice A2 s1.Bias.length c3, .int .i64 (s1.Bias.length : Int), .int .i64 (w64 (s1.W * s1.H)), .bool false, .bool false, .pointer (some ⟨b13, 3, none⟩), .slice A5 s1.Dark.length c6, .int .i64 (s1.Dark.length : Int), .int .i64 (w64 (s1.W * s1.H)), .bool false, .bool false, .bool false, .pointer (some ⟨b13, 4, none⟩), .slice A8 s1.Flat.length c9, .int .i64 (s1.Flat.length : Int), .int .i64 (w64 (s1.W * s1.H)), .bool false, .bool false, .bool false, .pointer (some ⟨b13, 2, none⟩), .slice A2 s1.Bias.length c3, .bool false, .bool false, .pointer (some ⟨b13, 3, none⟩), .slice A5 s1.Dark.length c6, .bool false, .bool false, .bool false, .pointer (some ⟨b13, 4, none⟩), .slice A8 s1.Flat.length c9, .bool false, .bool false, .bool true, .pointer (some ⟨b13, 5, none⟩), .int .i64 s1.Full, .bool false, .bool false, .pointer (some ⟨b13, 5, none⟩), .int .i64 s1.Full, .bool true, .bool true, .bool true, undef, undef, undef, .bool true, .bool true, undef, undef, undef, .bool true, .bool true, undef, undef, undef, .bool true, .bool true, undef, undef, undef, .bool true], []⟩) (by kernel_rfl) ?_
                      refine wpList_nil ?_
                      refine hK86 _ _ ?_
                      refine wp_ret ?_
                      refine hr24 _ _ ?_
                      refine hret _ _ ?_
                      refine ends_still (v := Value.int .i64 4) (by kernel_rfl) (by kernel_rfl) ?_
                      have HS111 := HS74.drop
                      injection h with h
                      subst h
                      exact ⟨f71, rfl, (L54.trans (L63.trans L72)), HS111⟩
                    · have c84 : ¬ (s1.Full > 1048576) := c84
                      refine seqRwI 65 (x := (decide (s1.Full > 1048576))) (v := false) (by kernel_rfl) (decide_eq_false c84) ?_
                      refine seqRwI 66 (x := (decide (s1.Full > 1048576))) (v := false) (by kernel_rfl) (decide_eq_false c84) ?_
                      refine seqRwI 67 (x := (decide (s1.Full > 1048576))) (v := false) (by kernel_rfl) (decide_eq_false c84) ?_
                      refine seqL1 (by kernel_rfl) ?_
                      refine seqG (by kernel_rfl) (does_run (run_load rfl Try.underlying22 rfl (by kernel_rfl : _ = Value.pointer (some ⟨b13, 6, none⟩)) (HS74.cell 6)) ?_)
                      refine seqS3 (a' := ⟨#[.agg #[.int .i64 s1.W, .int .i64 s1.H, .slice A2 s1.Bias.length c3, .slice A5 s1.Dark.length c6, .slice A8 s1.Flat.length c9, .int .i64 s1.Full, .int .i64 s1.Gain, .int .i64 s1.Noise], .pointer (some ⟨b13, 0, none⟩), .int .i64 0, .int .i64 (w64 (s1.W * s1.H)), .pointer (some ⟨b13, 0, none⟩), .int .i64 s1.W, .pointer (some ⟨b13, 1, none⟩), .int .i64 s1.H, .int .i64 (w64 (s1.W * s1.H)), .bool false, .pointer (some ⟨b13, 0, none⟩), .int .i64 s1.W, .pointer (some ⟨b13, 1, none⟩), .int .i64 s1.H, .int .i64 (mn s1.W s1.H), .bool false, .bool false, .pointer (some ⟨b13, 0, none⟩), .int .i64 s1.W, .pointer (some ⟨b13, 1, none⟩), .int .i64 s1.H, .int .i64 (mx s1.W s1.H), .bool false, .bool false, .bool false, .pointer (some ⟨b13, 2, none⟩), .slice A2 s1.Bias.length c3, .int .i64 (s1.Bias.length : Int), .int .i64 (w64 (s1.W * s1.H)), .bool false, .bool false, .pointer (some ⟨b13, 3, none⟩), .slice A5 s1.Dark.length c6, .int .i64 (s1.Dark.length : Int), .int .i64 (w64 (s1.W * s1.H)), .bool false, .bool false, .bool false, .pointer (some ⟨b13, 4, none⟩), .slice A8 s1.Flat.length c9, .int .i64 (s1.Flat.length : Int), .int .i64 (w64 (s1.W * s1.H)), .bool false, .bool false, .bool false, .pointer (some ⟨b13, 2, none⟩), .slice A2 s1.Bias.length c3, .bool false, .bool false, .pointer (some ⟨b13, 3, none⟩), .slice A5 s1.Dark.length c6, .bool false, .bool false, .bool false, .pointer (some ⟨b13, 4, none⟩), .slice A8 s1.Flat.length c9, .bool false, .bool false, undef, .pointer (some ⟨b13, 5, none⟩), .int .i64 s1.Full, .bool false, .bool false, .pointer (some ⟨b13, 5, none⟩), .int .i64 s1.Full, .bool false, .bool false, .bool false, .pointer (some ⟨b13, 6, none⟩), .int .i64 s1.Gain, .bool (decide (s1.Gain < 1)), .bool (decide (s1.Gain < 1)), .bool (decide (s1.Gain < 1)), undef, undef, undef, undef, undef, undef, undef, undef, undef, undef, undef, undef, undef, undef], []⟩) (by kernel_rfl) ?_
                      have hq_ := ite_some h; clear h; rcases hq_ with ⟨c87, h⟩ | ⟨c87, h⟩
                      · have c87 : s1.Gain < 1 := c87
                        refine seqRwI 70 (x := (decide (s1.Gain < 1))) (v := true) (by kernel_rfl) (decide_eq_true c87) ?_
                        refine seqRwI 71 (x := (decide (s1.Gain < 1))) (v := true) (by kernel_rfl) (decide_eq_true c87) ?_
                        refine seqRwI 72 (x := (decide (s1.Gain < 1))) (v := true) (by kernel_rfl) (decide_eq_true c87) ?_
                        refine seqS15 (a' := ⟨#[.agg #[.int .i64 s1.W, .int .i64 s1.H, .slice A2 s1.Bias.length c3, .slice A5 s1.Dark.length c6, .slice A8 s1.Flat.length c9, .int .i64 s1.Full, .int .i64 s1.Gain, .int .i64 s1.Noise], .pointer (some ⟨b13, 0, none⟩), .int .i64 0, .int .i64 (w64 (s1.W * s1.H)), .pointer (some ⟨b13, 0, none⟩), .int .i64 s1.W, .pointer (some ⟨b13, 1, none⟩), .int .i64 s1.H, .int .i64 (w64 (s1.W * s1.H)), .bool false, .pointer (some ⟨b13, 0, none⟩), .int .i64 s1.W, .pointer (some ⟨b13, 1, none⟩), .int .i64 s1.H, .int .i64 (mn s1.W s1.H), .bool false, .bool false, .pointer (some ⟨b13, 0, none⟩), .int .i64 s1.W, .pointer (some ⟨b13, 1, none⟩), .int .i64 s1.H, .int .i64 (mx s1.W s1.H), .bool false, .bool false, .bool false, .pointer (some ⟨b13, 2, none⟩), .slice A2 s1.Bias.length c3, .int .i64 (s1.Bias.length : Int), .int .i64 (w64 (s1.W * s1.H)), .bool false, .bool false, .pointer (some ⟨b13, 3, none⟩), .slice A5 s1.Dark.length c6, .int .i64 (s1.Dark.length : Int), .int .i64 (w64 (s1.W * s1.H)), .bool false, .bool false, .bool false, .pointer (some ⟨b13, 4, none⟩), .slice A8 s1.Flat.length c9, .int .i64 (s1.Flat.length : Int), .int .i64 (w64 (s1.W * s1.H)), .bool false, .bool false, .bool false, .pointer (some ⟨b13, 2, none⟩), .slice A2 s1.Bias.length c3, .bool false, .bool false, .pointer (some ⟨b13, 3, none⟩), .slice A5 s1.Dark.length c6, .bool false, .bool false, .bool false, .pointer (some ⟨b13, 4, none⟩), .slice A8 s1.Flat.length c9, .bool false, .bool false, .bool true, .pointer (some ⟨b13, 5, none⟩), .int .i64 s1.Full, .bool false, .bool false, .pointer (some ⟨b13, 5, none⟩), .int .i64 s1.Full, .bool false, .bool false, .bool false, .pointer (some ⟨b13, 6, none⟩), .int .i64 s1.Gain, .bool true, .bool true, .bool true, undef, undef, undef, .bool true, .bool true, undef, undef, undef, .bool true, .bool true, undef, undef, undef, .bool true], []⟩) (by kernel_rfl) ?_
                        refine wpList_nil ?_
                        refine hK80 _ _ ?_
                        refine condT (by kernel_rfl) ?_
                        refine wp_seq_k (fun K88 hK89 => ?_)
                        refine wp_region_lit ?_
                        refine seqS1 (a' := ⟨#[.agg #[.int .i64 s1.W, .int .i64 s1.H, .slice A2 s1.Bias.length c3, .slice A5 s1.Dark.length c6, .slice A8 s1.Flat.length c9, .int .i64 s1.Full, .int .i64 s1.Gain, .int .i64 s1.Noise], .pointer (some ⟨b13, 0, none⟩), .int .i64 4, .int .i64 (w64 (s1.W * s1.H)), .pointer (some ⟨b13, 0, none⟩), .int .i64 s1.W, .pointer (some ⟨b13, 1, none⟩), .int .i64 s1.H, .int .i64 (w64 (s1.W * s1.H)), .bool false, .pointer (some ⟨b13, 0, none⟩), .int .i64 s1.W, .pointer (some ⟨b13, 1, none⟩), .int .i64 s1.H, .int .i64 (mn s1.W s1.H), .bool false, .bool false, .pointer (some ⟨b13, 0, none⟩), .int .i64 s1.W, .pointer (some ⟨b13, 1, none⟩), .int .i64 s1.H, .int .i64 (mx s1.W s1.H), .bool false, .bool false, .bool false, .pointer (some ⟨b13, 2, none⟩), .slice A2 s1.Bias.length c3, .int .i64 (s1.Bias.length : Int), .int .i64 (w64 (s1.W * s1.H)), .bool false, .bool false, .pointer (some ⟨b13, 3, none⟩), .slice A5 s1.Dark.length c6, .int .i64 (s1.Dark.length : Int), .int .i64 (w64 (s1.W * s1.H)), .bool false, .bool false, .bool false, .pointer (some ⟨b13, 4, none⟩), .slice A8 s1.Flat.length c9, .int .i64 (s1.Flat.length : Int), .int .i64 (w64 (s1.W * s1.H)), .bool false, .bool false, .bool false, .pointer (some ⟨b13, 2, none⟩), .slice A2 s1.Bias.length c3, .bool false, .bool false, .pointer (some ⟨b13, 3, none⟩), .slice A5 s1.Dark.length c6, .bool false, .bool false, .bool false, .pointer (some ⟨b13, 4, none⟩), .slice A8 s1.Flat.length c9, .bool false, .bool false, .bool true, .pointer (some ⟨b13, 5, none⟩), .int .i64 s1.Full, .bool false, .bool false, .pointer (some ⟨b13, 5, none⟩), .int .i64 s1.Full, .bool false, .bool false, .bool false, .pointer (some ⟨b13, 6, none⟩), .int .i64 s1.Gain, .bool true, .bool true, .bool true, undef, undef, undef, .bool true, .bool true, undef, undef, undef, .bool true, .bool true, undef, undef, undef, .bool true], []⟩) (by kernel_rfl) ?_
                        refine wpList_nil ?_
                        refine hK89 _ _ ?_
                        refine wp_ret ?_
                        refine hr24 _ _ ?_
                        refine hret _ _ ?_
                        refine ends_still (v := Value.int .i64 4) (by kernel_rfl) (by kernel_rfl) ?_
                        have HS112 := HS74.drop
                        injection h with h
                        subst h
                        exact ⟨f71, rfl, (L54.trans (L63.trans L72)), HS112⟩
                      · have c87 : ¬ (s1.Gain < 1) := c87
                        refine seqRwI 70 (x := (decide (s1.Gain < 1))) (v := false) (by kernel_rfl) (decide_eq_false c87) ?_
                        refine seqRwI 71 (x := (decide (s1.Gain < 1))) (v := false) (by kernel_rfl) (decide_eq_false c87) ?_
                        refine seqRwI 72 (x := (decide (s1.Gain < 1))) (v := false) (by kernel_rfl) (decide_eq_false c87) ?_
                        refine seqL1 (by kernel_rfl) ?_
                        refine seqG (by kernel_rfl) (does_run (run_load rfl Try.underlying22 rfl (by kernel_rfl : _ = Value.pointer (some ⟨b13, 6, none⟩)) (HS74.cell 6)) ?_)
                        refine seqS3 (a' := ⟨#[.agg #[.int .i64 s1.W, .int .i64 s1.H, .slice A2 s1.Bias.length c3, .slice A5 s1.Dark.length c6, .slice A8 s1.Flat.length c9, .int .i64 s1.Full, .int .i64 s1.Gain, .int .i64 s1.Noise], .pointer (some ⟨b13, 0, none⟩), .int .i64 0, .int .i64 (w64 (s1.W * s1.H)), .pointer (some ⟨b13, 0, none⟩), .int .i64 s1.W, .pointer (some ⟨b13, 1, none⟩), .int .i64 s1.H, .int .i64 (w64 (s1.W * s1.H)), .bool false, .pointer (some ⟨b13, 0, none⟩), .int .i64 s1.W, .pointer (some ⟨b13, 1, none⟩), .int .i64 s1.H, .int .i64 (mn s1.W s1.H), .bool false, .bool false, .pointer (some ⟨b13, 0, none⟩), .int .i64 s1.W, .pointer (some ⟨b13, 1, none⟩), .int .i64 s1.H, .int .i64 (mx s1.W s1.H), .bool false, .bool false, .bool false, .pointer (some ⟨b13, 2, none⟩), .slice A2 s1.Bias.length c3, .int .i64 (s1.Bias.length : Int), .int .i64 (w64 (s1.W * s1.H)), .bool false, .bool false, .pointer (some ⟨b13, 3, none⟩), .slice A5 s1.Dark.length c6, .int .i64 (s1.Dark.length : Int), .int .i64 (w64 (s1.W * s1.H)), .bool false, .bool false, .bool false, .pointer (some ⟨b13, 4, none⟩), .slice A8 s1.Flat.length c9, .int .i64 (s1.Flat.length : Int), .int .i64 (w64 (s1.W * s1.H)), .bool false, .bool false, .bool false, .pointer (some ⟨b13, 2, none⟩), .slice A2 s1.Bias.length c3, .bool false, .bool false, .pointer (some ⟨b13, 3, none⟩), .slice A5 s1.Dark.length c6, .bool false, .bool false, .bool false, .pointer (some ⟨b13, 4, none⟩), .slice A8 s1.Flat.length c9, .bool false, .bool false, undef, .pointer (some ⟨b13, 5, none⟩), .int .i64 s1.Full, .bool false, .bool false, .pointer (some ⟨b13, 5, none⟩), .int .i64 s1.Full, .bool false, .bool false, .bool false, .pointer (some ⟨b13, 6, none⟩), .int .i64 s1.Gain, .bool false, .bool false, .bool false, .pointer (some ⟨b13, 6, none⟩), .int .i64 s1.Gain, .bool (decide (s1.Gain > 64)), .bool (decide (s1.Gain > 64)), .bool (decide (s1.Gain > 64)), undef, undef, undef, undef, undef, undef, undef, undef, undef], []⟩) (by kernel_rfl) ?_
                        have hq_ := ite_some h; clear h; rcases hq_ with ⟨c90, h⟩ | ⟨c90, h⟩
                        · have c90 : s1.Gain > 64 := c90
                          refine seqRwI 75 (x := (decide (s1.Gain > 64))) (v := true) (by kernel_rfl) (decide_eq_true c90) ?_
                          refine seqRwI 76 (x := (decide (s1.Gain > 64))) (v := true) (by kernel_rfl) (decide_eq_true c90) ?_
                          refine seqRwI 77 (x := (decide (s1.Gain > 64))) (v := true) (by kernel_rfl) (decide_eq_true c90) ?_
                          refine seqS10 (a' := ⟨#[.agg #[.int .i64 s1.W, .int .i64 s1.H, .slice A2 s1.Bias.length c3, .slice A5 s1.Dark.length c6, .slice A8 s1.Flat.length c9, .int .i64 s1.Full, .int .i64 s1.Gain, .int .i64 s1.Noise], .pointer (some ⟨b13, 0, none⟩), .int .i64 0, .int .i64 (w64 (s1.W * s1.H)), .pointer (some ⟨b13, 0, none⟩), .int .i64 s1.W, .pointer (some ⟨b13, 1, none⟩), .int .i64 s1.H, .int .i64 (w64 (s1.W * s1.H)), .bool false, .pointer (some ⟨b13, 0, none⟩), .int .i64 s1.W, .pointer (some ⟨b13, 1, none⟩), .int .i64 s1.H, .int .i64 (mn s1.W s1.H), .bool false, .bool false, .pointer (some ⟨b13, 0, none⟩), .int .i64 s1.W, .pointer (some ⟨b13, 1, none⟩), .int .i64 s1.H, .int .i64 (mx s1.W s1.H), .bool false, .bool false, .bool false, .pointer (some ⟨b13, 2, none⟩), .slice A2 s1.Bias.length c3, .int .i64 (s1.Bias.length : Int), .int .i64 (w64 (s1.W * s1.H)), .bool false, .bool false, .pointer (some ⟨b13, 3, none⟩), .slice A5 s1.Dark.length c6, .int .i64 (s1.Dark.length : Int), .int .i64 (w64 (s1.W * s1.H)), .bool false, .bool false, .bool false, .pointer (some ⟨b13, 4, none⟩), .slice A8 s1.Flat.length c9, .int .i64 (s1.Flat.length : Int), .int .i64 (w64 (s1.W * s1.H)), .bool false, .bool false, .bool false, .pointer (some ⟨b13, 2, none⟩), .slice A2 s1.Bias.length c3, .bool false, .bool false, .pointer (some ⟨b13, 3, none⟩), .slice A5 s1.Dark.length c6, .bool false, .bool false, .bool false, .pointer (some ⟨b13, 4, none⟩), .slice A8 s1.Flat.length c9, .bool false, .bool false, .bool true, .pointer (some ⟨b13, 5, none⟩), .int .i64 s1.Full, .bool false, .bool false, .pointer (some ⟨b13, 5, none⟩), .int .i64 s1.Full, .bool false, .bool false, .bool false, .pointer (some ⟨b13, 6, none⟩), .int .i64 s1.Gain, .bool false, .bool false, .bool false, .pointer (some ⟨b13, 6, none⟩), .int .i64 s1.Gain, .bool true, .bool true, .bool true, undef, undef, undef, .bool true, .bool true, undef, undef, undef, .bool true], []⟩) (by kernel_rfl) ?_
                          refine wpList_nil ?_
                          refine hK80 _ _ ?_
                          refine condT (by kernel_rfl) ?_
                          refine wp_seq_k (fun K91 hK92 => ?_)
                          refine wp_region_lit ?_
                          refine seqS1 (a' := ⟨#[.agg #[.int .i64 s1.W, .int .i64 s1.H, .slice A2 s1.Bias.length c3, .slice A5 s1.Dark.length c6, .slice A8 s1.Flat.length c9, .int .i64 s1.Full, .int .i64 s1.Gain, .int .i64 s1.Noise], .pointer (some ⟨b13, 0, none⟩), .int .i64 4, .int .i64 (w64 (s1.W * s1.H)), .pointer (some ⟨b13, 0, none⟩), .int .i64 s1.W, .pointer (some ⟨b13, 1, none⟩), .int .i64 s1.H, .int .i64 (w64 (s1.W * s1.H)), .bool false, .pointer (some ⟨b13, 0, none⟩), .int .i64 s1.W, .pointer (some ⟨b13, 1, none⟩), .int .i64 s1.H, .int .i64 (mn s1.W s1.H), .bool false, .bool false, .pointer (some ⟨b13, 0, none⟩), .int .i64 s1.W, .pointer (some ⟨b13, 1, none⟩), .int .i64 s1.H, .int .i64 (mx s1.W s1.H), .bool false, .bool false, .bool false, .pointer (some ⟨b13, 2, none⟩), .slice A2 s1.Bias.length c3, .int .i64 (s1.Bias.length : Int), .int .i64 (w64 (s1.W * s1.H)), .bool false, .bool false, .pointer (some ⟨b13, 3, none⟩), .slice A5 s1.Dark.length c6, .int .i64 (s1.Dark.length : Int), .int .i64 (w64 (s1.W * s1.H)), .bool false, .bool false, .bool false, .pointer (some ⟨b13, 4, none⟩), .slice A8 s1.Flat.length c9, .int .i64 (s1.Flat.length : Int), .int .i64 (w64 (s1.W * s1.H)), .bool false, .bool false, .bool false, .pointer (some ⟨b13, 2, none⟩), .slice A2 s1.Bias.length c3, .bool false, .bool false, .pointer (some ⟨b13, 3, none⟩), .slice A5 s1.Dark.length c6, .bool false, .bool false, .bool false, .pointer (some ⟨b13, 4, none⟩), .slice A8 s1.Flat.length c9, .bool false, .bool false, .bool true, .pointer (some ⟨b13, 5, none⟩), .int .i64 s1.Full, .bool false, .bool false, .pointer (some ⟨b13, 5, none⟩), .int .i64 s1.Full, .bool false, .bool false, .bool false, .pointer (some ⟨b13, 6, none⟩), .int .i64 s1.Gain, .bool false, .bool false, .bool false, .pointer (some ⟨b13, 6, none⟩), .int .i64 s1.Gain, .bool true, .bool true, .bool true, undef, undef, undef, .bool true, .bool true, undef, undef, undef, .bool true], []⟩) (by kernel_rfl) ?_
                          refine wpList_nil ?_
                          refine hK92 _ _ ?_
                          refine wp_ret ?_
                          refine hr24 _ _ ?_
                          refine hret _ _ ?_
                          refine ends_still (v := Value.int .i64 4) (by kernel_rfl) (by kernel_rfl) ?_
                          have HS113 := HS74.drop
                          injection h with h
                          subst h
                          exact ⟨f71, rfl, (L54.trans (L63.trans L72)), HS113⟩
                        · have c90 : ¬ (s1.Gain > 64) := c90
                          refine seqRwI 75 (x := (decide (s1.Gain > 64))) (v := false) (by kernel_rfl) (decide_eq_false c90) ?_
                          refine seqRwI 76 (x := (decide (s1.Gain > 64))) (v := false) (by kernel_rfl) (decide_eq_false c90) ?_
                          refine seqRwI 77 (x := (decide (s1.Gain > 64))) (v := false) (by kernel_rfl) (decide_eq_false c90) ?_
                          refine seqL1 (by kernel_rfl) ?_
                          refine seqG (by kernel_rfl) (does_run (run_load rfl Try.underlying3 rfl (by kernel_rfl : _ = Value.pointer (some ⟨b13, 7, none⟩)) (HS74.cell 7)) ?_)
                          refine seqS3 (a' := ⟨#[.agg #[.int .i64 s1.W, .int .i64 s1.H, .slice A2 s1.Bias.length c3, .slice A5 s1.Dark.length c6, .slice A8 s1.Flat.length c9, .int .i64 s1.Full, .int .i64 s1.Gain, .int .i64 s1.Noise], .pointer (some ⟨b13, 0, none⟩), .int .i64 0, .int .i64 (w64 (s1.W * s1.H)), .pointer (some ⟨b13, 0, none⟩), .int .i64 s1.W, .pointer (some ⟨b13, 1, none⟩), .int .i64 s1.H, .int .i64 (w64 (s1.W * s1.H)), .bool false, .pointer (some ⟨b13, 0, none⟩), .int .i64 s1.W, .pointer (some ⟨b13, 1, none⟩), .int .i64 s1.H, .int .i64 (mn s1.W s1.H), .bool false, .bool false, .pointer (some ⟨b13, 0, none⟩), .int .i64 s1.W, .pointer (some ⟨b13, 1, none⟩), .int .i64 s1.H, .int .i64 (mx s1.W s1.H), .bool false, .bool false, .bool false, .pointer (some ⟨b13, 2, none⟩), .slice A2 s1.Bias.length c3, .int .i64 (s1.Bias.length : Int), .int .i64 (w64 (s1.W * s1.H)), .bool false, .bool false, .pointer (some ⟨b13, 3, none⟩), .slice A5 s1.Dark.length c6, .int .i64 (s1.Dark.length : Int), .int .i64 (w64 (s1.W * s1.H)), .bool false, .bool false, .bool false, .pointer (some ⟨b13, 4, none⟩), .slice A8 s1.Flat.length c9, .int .i64 (s1.Flat.length : Int), .int .i64 (w64 (s1.W * s1.H)), .bool false, .bool false, .bool false, .pointer (some ⟨b13, 2, none⟩), .slice A2 s1.Bias.length c3, .bool false, .bool false, .pointer (some ⟨b13, 3, none⟩), .slice A5 s1.Dark.length c6, .bool false, .bool false, .bool false, .pointer (some ⟨b13, 4, none⟩), .slice A8 s1.Flat.length c9, .bool false, .bool false, undef, .pointer (some ⟨b13, 5, none⟩), .int .i64 s1.Full, .bool false, .bool false, .pointer (some ⟨b13, 5, none⟩), .int .i64 s1.Full, .bool false, .bool false, .bool false, .pointer (some ⟨b13, 6, none⟩), .int .i64 s1.Gain, .bool false, .bool false, .bool false, .pointer (some ⟨b13, 6, none⟩), .int .i64 s1.Gain, .bool false, .bool false, .bool false, .pointer (some ⟨b13, 7, none⟩), .int .i64 s1.Noise, .bool (decide (s1.Noise < 0)), .bool (decide (s1.Noise < 0)), .bool (decide (s1.Noise < 0)), undef, undef, undef, undef], []⟩) (by kernel_rfl) ?_
                          have hq_ := ite_some h; clear h; rcases hq_ with ⟨c93, h⟩ | ⟨c93, h⟩
                          · have c93 : s1.Noise < 0 := c93
                            refine seqRwI 80 (x := (decide (s1.Noise < 0))) (v := true) (by kernel_rfl) (decide_eq_true c93) ?_
                            refine seqRwI 81 (x := (decide (s1.Noise < 0))) (v := true) (by kernel_rfl) (decide_eq_true c93) ?_
                            refine seqRwI 82 (x := (decide (s1.Noise < 0))) (v := true) (by kernel_rfl) (decide_eq_true c93) ?_
                            refine seqS5 (a' := ⟨#[.agg #[.int .i64 s1.W, .int .i64 s1.H, .slice A2 s1.Bias.length c3, .slice A5 s1.Dark.length c6, .slice A8 s1.Flat.length c9, .int .i64 s1.Full, .int .i64 s1.Gain, .int .i64 s1.Noise], .pointer (some ⟨b13, 0, none⟩), .int .i64 0, .int .i64 (w64 (s1.W * s1.H)), .pointer (some ⟨b13, 0, none⟩), .int .i64 s1.W, .pointer (some ⟨b13, 1, none⟩), .int .i64 s1.H, .int .i64 (w64 (s1.W * s1.H)), .bool false, .pointer (some ⟨b13, 0, none⟩), .int .i64 s1.W, .pointer (some ⟨b13, 1, none⟩), .int .i64 s1.H, .int .i64 (mn s1.W s1.H), .bool false, .bool false, .pointer (some ⟨b13, 0, none⟩), .int .i64 s1.W, .pointer (some ⟨b13, 1, none⟩), .int .i64 s1.H, .int .i64 (mx s1.W s1.H), .bool false, .bool false, .bool false, .pointer (some ⟨b13, 2, none⟩), .slice A2 s1.Bias.length c3, .int .i64 (s1.Bias.length : Int), .int .i64 (w64 (s1.W * s1.H)), .bool false, .bool false, .pointer (some ⟨b13, 3, none⟩), .slice A5 s1.Dark.length c6, .int .i64 (s1.Dark.length : Int), .int .i64 (w64 (s1.W * s1.H)), .bool false, .bool false, .bool false, .pointer (some ⟨b13, 4, none⟩), .slice A8 s1.Flat.length c9, .int .i64 (s1.Flat.length : Int), .int .i64 (w64 (s1.W * s1.H)), .bool false, .bool false, .bool false, .pointer (some ⟨b13, 2, none⟩), .slice A2 s1.Bias.length c3, .bool false, .bool false, .pointer (some ⟨b13, 3, none⟩), .slice A5 s1.Dark.length c6, .bool false, .bool false, .bool false, .pointer (some ⟨b13, 4, none⟩), .slice A8 s1.Flat.length c9, .bool false, .bool false, .bool true, .pointer (some ⟨b13, 5, none⟩), .int .i64 s1.Full, .bool false, .bool false, .pointer (some ⟨b13, 5, none⟩), .int .i64 s1.Full, .bool false, .bool false, .bool false, .pointer (some ⟨b13, 6, none⟩), .int .i64 s1.Gain, .bool false, .bool false, .bool false, .pointer (some ⟨b13, 6, none⟩), .int .i64 s1.Gain, .bool false, .bool false, .bool false, .pointer (some ⟨b13, 7, none⟩), .int .i64 s1.Noise, .bool true, .bool true, .bool true, undef, undef, undef, .bool true], []⟩) (by kernel_rfl) ?_
                            refine wpList_nil ?_
                            refine hK80 _ _ ?_
                            refine condT (by kernel_rfl) ?_
                            refine wp_seq_k (fun K94 hK95 => ?_)
                            refine wp_region_lit ?_
                            refine seqS1 (a' := ⟨#[.agg #[.int .i64 s1.W, .int .i64 s1.H, .slice A2 s1.Bias.length c3, .slice A5 s1.Dark.length c6, .slice A8 s1.Flat.length c9, .int .i64 s1.Full, .int .i64 s1.Gain, .int .i64 s1.Noise], .pointer (some ⟨b13, 0, none⟩), .int .i64 4, .int .i64 (w64 (s1.W * s1.H)), .pointer (some ⟨b13, 0, none⟩), .int .i64 s1.W, .pointer (some ⟨b13, 1, none⟩), .int .i64 s1.H, .int .i64 (w64 (s1.W * s1.H)), .bool false, .pointer (some ⟨b13, 0, none⟩), .int .i64 s1.W, .pointer (some ⟨b13, 1, none⟩), .int .i64 s1.H, .int .i64 (mn s1.W s1.H), .bool false, .bool false, .pointer (some ⟨b13, 0, none⟩), .int .i64 s1.W, .pointer (some ⟨b13, 1, none⟩), .int .i64 s1.H, .int .i64 (mx s1.W s1.H), .bool false, .bool false, .bool false, .pointer (some ⟨b13, 2, none⟩), .slice A2 s1.Bias.length c3, .int .i64 (s1.Bias.length : Int), .int .i64 (w64 (s1.W * s1.H)), .bool false, .bool false, .pointer (some ⟨b13, 3, none⟩), .slice A5 s1.Dark.length c6, .int .i64 (s1.Dark.length : Int), .int .i64 (w64 (s1.W * s1.H)), .bool false, .bool false, .bool false, .pointer (some ⟨b13, 4, none⟩), .slice A8 s1.Flat.length c9, .int .i64 (s1.Flat.length : Int), .int .i64 (w64 (s1.W * s1.H)), .bool false, .bool false, .bool false, .pointer (some ⟨b13, 2, none⟩), .slice A2 s1.Bias.length c3, .bool false, .bool false, .pointer (some ⟨b13, 3, none⟩), .slice A5 s1.Dark.length c6, .bool false, .bool false, .bool false, .pointer (some ⟨b13, 4, none⟩), .slice A8 s1.Flat.length c9, .bool false, .bool false, .bool true, .pointer (some ⟨b13, 5, none⟩), .int .i64 s1.Full, .bool false, .bool false, .pointer (some ⟨b13, 5, none⟩), .int .i64 s1.Full, .bool false, .bool false, .bool false, .pointer (some ⟨b13, 6, none⟩), .int .i64 s1.Gain, .bool false, .bool false, .bool false, .pointer (some ⟨b13, 6, none⟩), .int .i64 s1.Gain, .bool false, .bool false, .bool false, .pointer (some ⟨b13, 7, none⟩), .int .i64 s1.Noise, .bool true, .bool true, .bool true, undef, undef, undef, .bool true], []⟩) (by kernel_rfl) ?_
                            refine wpList_nil ?_
                            refine hK95 _ _ ?_
                            refine wp_ret ?_
                            refine hr24 _ _ ?_
                            refine hret _ _ ?_
                            refine ends_still (v := Value.int .i64 4) (by kernel_rfl) (by kernel_rfl) ?_
                            have HS114 := HS74.drop
                            injection h with h
                            subst h
                            exact ⟨f71, rfl, (L54.trans (L63.trans L72)), HS114⟩
                          · have c93 : ¬ (s1.Noise < 0) := c93
                            refine seqRwI 80 (x := (decide (s1.Noise < 0))) (v := false) (by kernel_rfl) (decide_eq_false c93) ?_
                            refine seqRwI 81 (x := (decide (s1.Noise < 0))) (v := false) (by kernel_rfl) (decide_eq_false c93) ?_
                            refine seqRwI 82 (x := (decide (s1.Noise < 0))) (v := false) (by kernel_rfl) (decide_eq_false c93) ?_
                            refine seqL1 (by kernel_rfl) ?_
                            refine seqG (by kernel_rfl) (does_run (run_load rfl Try.underlying3 rfl (by kernel_rfl : _ = Value.pointer (some ⟨b13, 7, none⟩)) (HS74.cell 7)) ?_)
                            refine seqS3 (a' := ⟨#[.agg #[.int .i64 s1.W, .int .i64 s1.H, .slice A2 s1.Bias.length c3, .slice A5 s1.Dark.length c6, .slice A8 s1.Flat.length c9, .int .i64 s1.Full, .int .i64 s1.Gain, .int .i64 s1.Noise], .pointer (some ⟨b13, 0, none⟩), .int .i64 0, .int .i64 (w64 (s1.W * s1.H)), .pointer (some ⟨b13, 0, none⟩), .int .i64 s1.W, .pointer (some ⟨b13, 1, none⟩), .int .i64 s1.H, .int .i64 (w64 (s1.W * s1.H)), .bool false, .pointer (some ⟨b13, 0, none⟩), .int .i64 s1.W, .pointer (some ⟨b13, 1, none⟩), .int .i64 s1.H, .int .i64 (mn s1.W s1.H), .bool false, .bool false, .pointer (some ⟨b13, 0, none⟩), .int .i64 s1.W, .pointer (some ⟨b13, 1, none⟩), .int .i64 s1.H, .int .i64 (mx s1.W s1.H), .bool false, .bool false, .bool false, .pointer (some ⟨b13, 2, none⟩), .slice A2 s1.Bias.length c3, .int .i64 (s1.Bias.length : Int), .int .i64 (w64 (s1.W * s1.H)), .bool false, .bool false, .pointer (some ⟨b13, 3, none⟩), .slice A5 s1.Dark.length c6, .int .i64 (s1.Dark.length : Int), .int .i64 (w64 (s1.W * s1.H)), .bool false, .bool false, .bool false, .pointer (some ⟨b13, 4, none⟩), .slice A8 s1.Flat.length c9, .int .i64 (s1.Flat.length : Int), .int .i64 (w64 (s1.W * s1.H)), .bool false, .bool false, .bool false, .pointer (some ⟨b13, 2, none⟩), .slice A2 s1.Bias.length c3, .bool false, .bool false, .pointer (some ⟨b13, 3, none⟩), .slice A5 s1.Dark.length c6, .bool false, .bool false, .bool false, .pointer (some ⟨b13, 4, none⟩), .slice A8 s1.Flat.length c9, .bool false, .bool false, .bool (decide (s1.Noise > 64)), .pointer (some ⟨b13, 5, none⟩), .int .i64 s1.Full, .bool false, .bool false, .pointer (some ⟨b13, 5, none⟩), .int .i64 s1.Full, .bool false, .bool false, .bool false, .pointer (some ⟨b13, 6, none⟩), .int .i64 s1.Gain, .bool false, .bool false, .bool false, .pointer (some ⟨b13, 6, none⟩), .int .i64 s1.Gain, .bool false, .bool false, .bool false, .pointer (some ⟨b13, 7, none⟩), .int .i64 s1.Noise, .bool false, .bool false, .bool false, .pointer (some ⟨b13, 7, none⟩), .int .i64 s1.Noise, .bool (decide (s1.Noise > 64)), .bool (decide (s1.Noise > 64))], []⟩) (by kernel_rfl) ?_
                            refine wpList_nil ?_
                            refine hK80 _ _ ?_
                            have hq_ := ite_some h; clear h; rcases hq_ with ⟨c97, h⟩ | ⟨c97, h⟩
                            · have c97 : s1.Noise > 64 := c97
                              refine wpRwI 58 (x := (decide (s1.Noise > 64))) (v := true) (by kernel_rfl) (decide_eq_true c97) ?_
                              refine wpRwI 85 (x := (decide (s1.Noise > 64))) (v := true) (by kernel_rfl) (decide_eq_true c97) ?_
                              refine wpRwI 86 (x := (decide (s1.Noise > 64))) (v := true) (by kernel_rfl) (decide_eq_true c97) ?_
                              refine condT (by kernel_rfl) ?_
                              refine wp_seq_k (fun K98 hK99 => ?_)
                              refine wp_region_lit ?_
                              refine seqS1 (a' := ⟨#[.agg #[.int .i64 s1.W, .int .i64 s1.H, .slice A2 s1.Bias.length c3, .slice A5 s1.Dark.length c6, .slice A8 s1.Flat.length c9, .int .i64 s1.Full, .int .i64 s1.Gain, .int .i64 s1.Noise], .pointer (some ⟨b13, 0, none⟩), .int .i64 4, .int .i64 (w64 (s1.W * s1.H)), .pointer (some ⟨b13, 0, none⟩), .int .i64 s1.W, .pointer (some ⟨b13, 1, none⟩), .int .i64 s1.H, .int .i64 (w64 (s1.W * s1.H)), .bool false, .pointer (some ⟨b13, 0, none⟩), .int .i64 s1.W, .pointer (some ⟨b13, 1, none⟩), .int .i64 s1.H, .int .i64 (mn s1.W s1.H), .bool false, .bool false, .pointer (some ⟨b13, 0, none⟩), .int .i64 s1.W, .pointer (some ⟨b13, 1, none⟩), .int .i64 s1.H, .int .i64 (mx s1.W s1.H), .bool false, .bool false, .bool false, .pointer (some ⟨b13, 2, none⟩), .slice A2 s1.Bias.length c3, .int .i64 (s1.Bias.length : Int), .int .i64 (w64 (s1.W * s1.H)), .bool false, .bool false, .pointer (some ⟨b13, 3, none⟩), .slice A5 s1.Dark.length c6, .int .i64 (s1.Dark.length : Int), .int .i64 (w64 (s1.W * s1.H)), .bool false, .bool false, .bool false, .pointer (some ⟨b13, 4, none⟩), .slice A8 s1.Flat.length c9, .int .i64 (s1.Flat.length : Int), .int .i64 (w64 (s1.W * s1.H)), .bool false, .bool false, .bool false, .pointer (some ⟨b13, 2, none⟩), .slice A2 s1.Bias.length c3, .bool false, .bool false, .pointer (some ⟨b13, 3, none⟩), .slice A5 s1.Dark.length c6, .bool false, .bool false, .bool false, .pointer (some ⟨b13, 4, none⟩), .slice A8 s1.Flat.length c9, .bool false, .bool false, .bool true, .pointer (some ⟨b13, 5, none⟩), .int .i64 s1.Full, .bool false, .bool false, .pointer (some ⟨b13, 5, none⟩), .int .i64 s1.Full, .bool false, .bool false, .bool false, .pointer (some ⟨b13, 6, none⟩), .int .i64 s1.Gain, .bool false, .bool false, .bool false, .pointer (some ⟨b13, 6, none⟩), .int .i64 s1.Gain, .bool false, .bool false, .bool false, .pointer (some ⟨b13, 7, none⟩), .int .i64 s1.Noise, .bool false, .bool false, .bool false, .pointer (some ⟨b13, 7, none⟩), .int .i64 s1.Noise, .bool true, .bool true], []⟩) (by kernel_rfl) ?_
                              refine wpList_nil ?_
                              refine hK99 _ _ ?_
                              refine wp_ret ?_
                              refine hr24 _ _ ?_
                              refine hret _ _ ?_
                              refine ends_still (v := Value.int .i64 4) (by kernel_rfl) (by kernel_rfl) ?_
                              have HS115 := HS74.drop
                              injection h with h
                              subst h
                              exact ⟨f71, rfl, (L54.trans (L63.trans L72)), HS115⟩
                            · have c97 : ¬ (s1.Noise > 64) := c97
                              refine wpRwI 58 (x := (decide (s1.Noise > 64))) (v := false) (by kernel_rfl) (decide_eq_false c97) ?_
                              refine wpRwI 85 (x := (decide (s1.Noise > 64))) (v := false) (by kernel_rfl) (decide_eq_false c97) ?_
                              refine wpRwI 86 (x := (decide (s1.Noise > 64))) (v := false) (by kernel_rfl) (decide_eq_false c97) ?_
                              refine condF (by kernel_rfl) ?_
                              refine wp_skip ?_
                              refine hn23 _ _ ?_
                              refine hK18 _ _ ?_
                              refine wp_seq_k (fun K100 hK101 => ?_)
                              refine wp_region_lit ?_
                              refine seqS1 (a' := ⟨#[.agg #[.int .i64 s1.W, .int .i64 s1.H, .slice A2 s1.Bias.length c3, .slice A5 s1.Dark.length c6, .slice A8 s1.Flat.length c9, .int .i64 s1.Full, .int .i64 s1.Gain, .int .i64 s1.Noise], .pointer (some ⟨b13, 0, none⟩), .int .i64 0, .int .i64 (w64 (s1.W * s1.H)), .pointer (some ⟨b13, 0, none⟩), .int .i64 s1.W, .pointer (some ⟨b13, 1, none⟩), .int .i64 s1.H, .int .i64 (w64 (s1.W * s1.H)), .bool false, .pointer (some ⟨b13, 0, none⟩), .int .i64 s1.W, .pointer (some ⟨b13, 1, none⟩), .int .i64 s1.H, .int .i64 (mn s1.W s1.H), .bool false, .bool false, .pointer (some ⟨b13, 0, none⟩), .int .i64 s1.W, .pointer (some ⟨b13, 1, none⟩), .int .i64 s1.H, .int .i64 (mx s1.W s1.H), .bool false, .bool false, .bool false, .pointer (some ⟨b13, 2, none⟩), .slice A2 s1.Bias.length c3, .int .i64 (s1.Bias.length : Int), .int .i64 (w64 (s1.W * s1.H)), .bool false, .bool false, .pointer (some ⟨b13, 3, none⟩), .slice A5 s1.Dark.length c6, .int .i64 (s1.Dark.length : Int), .int .i64 (w64 (s1.W * s1.H)), .bool false, .bool false, .bool false, .pointer (some ⟨b13, 4, none⟩), .slice A8 s1.Flat.length c9, .int .i64 (s1.Flat.length : Int), .int .i64 (w64 (s1.W * s1.H)), .bool false, .bool false, .bool false, .pointer (some ⟨b13, 2, none⟩), .slice A2 s1.Bias.length c3, .bool false, .bool false, .pointer (some ⟨b13, 3, none⟩), .slice A5 s1.Dark.length c6, .bool false, .bool false, .bool false, .pointer (some ⟨b13, 4, none⟩), .slice A8 s1.Flat.length c9, .bool false, .bool false, .bool false, .pointer (some ⟨b13, 5, none⟩), .int .i64 s1.Full, .bool false, .bool false, .pointer (some ⟨b13, 5, none⟩), .int .i64 s1.Full, .bool false, .bool false, .bool false, .pointer (some ⟨b13, 6, none⟩), .int .i64 s1.Gain, .bool false, .bool false, .bool false, .pointer (some ⟨b13, 6, none⟩), .int .i64 s1.Gain, .bool false, .bool false, .bool false, .pointer (some ⟨b13, 7, none⟩), .int .i64 s1.Noise, .bool false, .bool false, .bool false, .pointer (some ⟨b13, 7, none⟩), .int .i64 s1.Noise, .bool false, .bool false], []⟩) (by kernel_rfl) ?_
                              refine wpList_nil ?_
                              refine hK101 _ _ ?_
                              refine wp_ret ?_
                              refine hret _ _ ?_
                              refine ends_still (v := Value.int .i64 0) (by kernel_rfl) (by kernel_rfl) ?_
                              have HS116 := HS74.drop
                              injection h with h
                              subst h
                              exact ⟨f71, rfl, (L54.trans (L63.trans L72)), HS116⟩

set_option maxRecDepth 100000 in
set_option maxHeartbeats 4000000 in
theorem sensor_sized.calls (k : Nat) (A2 : Option Addr) (c3 : Nat) (A5 : Option Addr) (c6 : Nat) (A8 : Option Addr) (c9 : Nat) (s1 : S_Sensor) (n11 : Int) {t w : World} {f : FM} {H : List Seg} (HS : St t w f (H)) (HR4 : SlR (tInt .i64) f A2 c3 s1.Bias) (HR7 : SlR (tInt .i64) f A5 c6 s1.Dark) (HR10 : SlR (tInt .i64) f A8 c9 s1.Flat) (r1 : Int) (h : sensor_sized k s1 n11 = some r1) :
    Calls Try.prog 44 #[.agg #[.int .i64 s1.W, .int .i64 s1.H, .slice A2 s1.Bias.length c3, .slice A5 s1.Dark.length c6, .slice A8 s1.Flat.length c9, .int .i64 s1.Full, .int .i64 s1.Gain, .int .i64 s1.Noise], .int .i64 n11] w (fun e w' => ∃ (g : FM), e = .returned (Value.int .i64 r1) ∧ FM.le f g ∧ St t w' g (H)) := by
  unfold sensor_sized at h
  refine enter Try.func44 rfl (tm := #[.agg #[.int .i64 s1.W, .int .i64 s1.H, .slice A2 s1.Bias.length c3, .slice A5 s1.Dark.length c6, .slice A8 s1.Flat.length c9, .int .i64 s1.Full, .int .i64 s1.Gain, .int .i64 s1.Noise], .int .i64 n11, undef, undef, undef, undef, undef, undef, undef, undef, undef, undef, undef, undef, undef, undef, undef, undef]) (by kernel_rfl) ?_
  intro B hret hnor hnp
  refine wp_seq_k (fun K12 hK13 => ?_)
  refine wp_region_lit ?_
  refine seqK rfl (does_box (cs := #[.int .i64 s1.W, .int .i64 s1.H, .slice A2 s1.Bias.length c3, .slice A5 s1.Dark.length c6, .slice A8 s1.Flat.length c9, .int .i64 s1.Full, .int .i64 s1.Gain, .int .i64 s1.Noise]) rfl (by kernel_rfl : _ = Value.agg #[.int .i64 s1.W, .int .i64 s1.H, .slice A2 s1.Bias.length c3, .slice A5 s1.Dark.length c6, .slice A8 s1.Flat.length c9, .int .i64 s1.Full, .int .i64 s1.Gain, .int .i64 s1.Noise]) rfl HS ?_)
  intro b14 W15 HS16
  refine seqS1 (a' := ⟨#[.agg #[.int .i64 s1.W, .int .i64 s1.H, .slice A2 s1.Bias.length c3, .slice A5 s1.Dark.length c6, .slice A8 s1.Flat.length c9, .int .i64 s1.Full, .int .i64 s1.Gain, .int .i64 s1.Noise], .int .i64 n11, .pointer (some ⟨b14, 0, none⟩), undef, .int .i64 0, undef, undef, undef, undef, undef, undef, undef, undef, undef, undef, undef, undef, undef], []⟩) (by kernel_rfl) ?_
  refine wpList_nil ?_
  refine hK13 _ _ ?_
  refine wp_seq_k (fun K18 hK19 => ?_)
  refine wp_seq_k (fun K20 hK21 => ?_)
  refine wp_region_lit ?_
  refine seqK rfl (does_run (run_loadN (n := 8) rfl Try.underlying46 rfl (by kernel_rfl) (by kernel_rfl : _ = Value.pointer (some ⟨b14, 0, none⟩)) (cs := [.int .i64 s1.W, .int .i64 s1.H, .slice A2 s1.Bias.length c3, .slice A5 s1.Dark.length c6, .slice A8 s1.Flat.length c9, .int .i64 s1.Full, .int .i64 s1.Gain, .int .i64 s1.Noise]) rfl (HS16.cells 0 8 _ rfl)) ?_)
  have hq_ := bind_some h; clear h; obtain ⟨vt22, hc23, h⟩ := hq_
  refine seqK rfl (does_call (f := 59) (args := #[.agg #[.int .i64 s1.W, .int .i64 s1.H, .slice A2 s1.Bias.length c3, .slice A5 s1.Dark.length c6, .slice A8 s1.Flat.length c9, .int .i64 s1.Full, .int .i64 s1.Gain, .int .i64 s1.Noise]]) (by kernel_rfl) (sensor_Check.calls k A2 c3 A5 c6 A8 c9 s1 HS16 HR4 HR7 HR10 vt22 hc23) ?_)
  rintro _ W26 ⟨f24, rfl, L25, HS27⟩
  refine ⟨_, rfl, ?_⟩
  refine seqS1 (a' := ⟨#[.agg #[.int .i64 s1.W, .int .i64 s1.H, .slice A2 s1.Bias.length c3, .slice A5 s1.Dark.length c6, .slice A8 s1.Flat.length c9, .int .i64 s1.Full, .int .i64 s1.Gain, .int .i64 s1.Noise], .int .i64 n11, .pointer (some ⟨b14, 0, none⟩), undef, .int .i64 0, .int .i64 vt22, .agg #[.int .i64 s1.W, .int .i64 s1.H, .slice A2 s1.Bias.length c3, .slice A5 s1.Dark.length c6, .slice A8 s1.Flat.length c9, .int .i64 s1.Full, .int .i64 s1.Gain, .int .i64 s1.Noise], .int .i64 vt22, undef, undef, undef, undef, undef, undef, undef, undef, undef, undef], []⟩) (by kernel_rfl) ?_
  refine wpList_nil ?_
  refine hK21 _ _ ?_
  refine wp_seq_k (fun K28 hK29 => ?_)
  refine wp_region_lit ?_
  refine seqS2 (a' := ⟨#[.agg #[.int .i64 s1.W, .int .i64 s1.H, .slice A2 s1.Bias.length c3, .slice A5 s1.Dark.length c6, .slice A8 s1.Flat.length c9, .int .i64 s1.Full, .int .i64 s1.Gain, .int .i64 s1.Noise], .int .i64 n11, .pointer (some ⟨b14, 0, none⟩), undef, .int .i64 0, .int .i64 vt22, .agg #[.int .i64 s1.W, .int .i64 s1.H, .slice A2 s1.Bias.length c3, .slice A5 s1.Dark.length c6, .slice A8 s1.Flat.length c9, .int .i64 s1.Full, .int .i64 s1.Gain, .int .i64 s1.Noise], .int .i64 vt22, .int .i64 vt22, .bool (vt22 != 0), undef, undef, undef, undef, undef, undef, undef, undef], []⟩) (by kernel_rfl) ?_
  refine wpList_nil ?_
  refine hK29 _ _ ?_
  have hq_ := ite_some h; clear h; rcases hq_ with ⟨c31, h⟩ | ⟨c31, h⟩
  · have c31 : vt22 ≠ 0 := c31
    refine wpRwI 9 (x := (vt22 != 0)) (v := true) (by kernel_rfl) (bne_iff_ne.mpr c31) ?_
    refine condT (by kernel_rfl) ?_
    refine wp_seq_k (fun K32 hK33 => ?_)
    refine wp_region_lit ?_
    refine seqS2 (a' := ⟨#[.agg #[.int .i64 s1.W, .int .i64 s1.H, .slice A2 s1.Bias.length c3, .slice A5 s1.Dark.length c6, .slice A8 s1.Flat.length c9, .int .i64 s1.Full, .int .i64 s1.Gain, .int .i64 s1.Noise], .int .i64 n11, .pointer (some ⟨b14, 0, none⟩), undef, .int .i64 vt22, .int .i64 vt22, .agg #[.int .i64 s1.W, .int .i64 s1.H, .slice A2 s1.Bias.length c3, .slice A5 s1.Dark.length c6, .slice A8 s1.Flat.length c9, .int .i64 s1.Full, .int .i64 s1.Gain, .int .i64 s1.Noise], .int .i64 vt22, .int .i64 vt22, .bool true, .int .i64 vt22, undef, undef, undef, undef, undef, undef, undef], []⟩) (by kernel_rfl) ?_
    refine wpList_nil ?_
    refine hK33 _ _ ?_
    refine wp_ret ?_
    refine hret _ _ ?_
    refine ends_still (v := Value.int .i64 vt22) (by kernel_rfl) (by kernel_rfl) ?_
    have HS44 := HS27.drop
    injection h with h
    subst h
    exact ⟨f24, rfl, L25, HS44⟩
  · have c31 : ¬ (vt22 ≠ 0) := c31
    refine wpRwI 9 (x := (vt22 != 0)) (v := false) (by kernel_rfl) (bne_eq_false_iff_eq.mpr (Decidable.of_not_not c31)) ?_
    refine condF (by kernel_rfl) ?_
    refine wp_skip ?_
    refine hK19 _ _ ?_
    refine wp_seq_k (fun K34 hK35 => ?_)
    refine wp_seq_k (fun K36 hK37 => ?_)
    refine wp_region_lit ?_
    refine seqL2 (by kernel_rfl) ?_
    refine seqK rfl (does_run (run_load rfl Try.underlying3 rfl (by kernel_rfl : _ = Value.pointer (some ⟨b14, 0, none⟩)) (HS27.cell 0)) ?_)
    refine seqL1 (by kernel_rfl) ?_
    refine seqK rfl (does_run (run_load rfl Try.underlying3 rfl (by kernel_rfl : _ = Value.pointer (some ⟨b14, 1, none⟩)) (HS27.cell 1)) ?_)
    refine seqS2 (a' := ⟨#[.agg #[.int .i64 s1.W, .int .i64 s1.H, .slice A2 s1.Bias.length c3, .slice A5 s1.Dark.length c6, .slice A8 s1.Flat.length c9, .int .i64 s1.Full, .int .i64 s1.Gain, .int .i64 s1.Noise], .int .i64 n11, .pointer (some ⟨b14, 0, none⟩), undef, .int .i64 0, .int .i64 vt22, .agg #[.int .i64 s1.W, .int .i64 s1.H, .slice A2 s1.Bias.length c3, .slice A5 s1.Dark.length c6, .slice A8 s1.Flat.length c9, .int .i64 s1.Full, .int .i64 s1.Gain, .int .i64 s1.Noise], .int .i64 vt22, .int .i64 vt22, .bool false, undef, .int .i64 n11, .pointer (some ⟨b14, 0, none⟩), .int .i64 s1.W, .pointer (some ⟨b14, 1, none⟩), .int .i64 s1.H, .int .i64 (w64 (s1.W * s1.H)), .bool (n11 != (w64 (s1.W * s1.H)))], []⟩) (by kernel_rfl) ?_
    refine wpList_nil ?_
    refine hK37 _ _ ?_
    have hq_ := ite_some h; clear h; rcases hq_ with ⟨c39, h⟩ | ⟨c39, h⟩
    · have c39 : n11 ≠ (w64 (s1.W * s1.H)) := c39
      refine wpRwI 17 (x := (n11 != (w64 (s1.W * s1.H)))) (v := true) (by kernel_rfl) (bne_iff_ne.mpr c39) ?_
      refine condT (by kernel_rfl) ?_
      refine wp_seq_k (fun K40 hK41 => ?_)
      refine wp_region_lit ?_
      refine seqS1 (a' := ⟨#[.agg #[.int .i64 s1.W, .int .i64 s1.H, .slice A2 s1.Bias.length c3, .slice A5 s1.Dark.length c6, .slice A8 s1.Flat.length c9, .int .i64 s1.Full, .int .i64 s1.Gain, .int .i64 s1.Noise], .int .i64 n11, .pointer (some ⟨b14, 0, none⟩), undef, .int .i64 3, .int .i64 vt22, .agg #[.int .i64 s1.W, .int .i64 s1.H, .slice A2 s1.Bias.length c3, .slice A5 s1.Dark.length c6, .slice A8 s1.Flat.length c9, .int .i64 s1.Full, .int .i64 s1.Gain, .int .i64 s1.Noise], .int .i64 vt22, .int .i64 vt22, .bool false, undef, .int .i64 n11, .pointer (some ⟨b14, 0, none⟩), .int .i64 s1.W, .pointer (some ⟨b14, 1, none⟩), .int .i64 s1.H, .int .i64 (w64 (s1.W * s1.H)), .bool true], []⟩) (by kernel_rfl) ?_
      refine wpList_nil ?_
      refine hK41 _ _ ?_
      refine wp_ret ?_
      refine hret _ _ ?_
      refine ends_still (v := Value.int .i64 3) (by kernel_rfl) (by kernel_rfl) ?_
      have HS45 := HS27.drop
      injection h with h
      subst h
      exact ⟨f24, rfl, L25, HS45⟩
    · have c39 : ¬ (n11 ≠ (w64 (s1.W * s1.H))) := c39
      refine wpRwI 17 (x := (n11 != (w64 (s1.W * s1.H)))) (v := false) (by kernel_rfl) (bne_eq_false_iff_eq.mpr (Decidable.of_not_not c39)) ?_
      refine condF (by kernel_rfl) ?_
      refine wp_skip ?_
      refine hK35 _ _ ?_
      refine wp_seq_k (fun K42 hK43 => ?_)
      refine wp_region_lit ?_
      refine seqS1 (a' := ⟨#[.agg #[.int .i64 s1.W, .int .i64 s1.H, .slice A2 s1.Bias.length c3, .slice A5 s1.Dark.length c6, .slice A8 s1.Flat.length c9, .int .i64 s1.Full, .int .i64 s1.Gain, .int .i64 s1.Noise], .int .i64 n11, .pointer (some ⟨b14, 0, none⟩), undef, .int .i64 0, .int .i64 vt22, .agg #[.int .i64 s1.W, .int .i64 s1.H, .slice A2 s1.Bias.length c3, .slice A5 s1.Dark.length c6, .slice A8 s1.Flat.length c9, .int .i64 s1.Full, .int .i64 s1.Gain, .int .i64 s1.Noise], .int .i64 vt22, .int .i64 vt22, .bool false, undef, .int .i64 n11, .pointer (some ⟨b14, 0, none⟩), .int .i64 s1.W, .pointer (some ⟨b14, 1, none⟩), .int .i64 s1.H, .int .i64 (w64 (s1.W * s1.H)), .bool false], []⟩) (by kernel_rfl) ?_
      refine wpList_nil ?_
      refine hK43 _ _ ?_
      refine wp_ret ?_
      refine hret _ _ ?_
      refine ends_still (v := Value.int .i64 0) (by kernel_rfl) (by kernel_rfl) ?_
      have HS46 := HS27.drop
      injection h with h
      subst h
      exact ⟨f24, rfl, L25, HS46⟩

set_option maxRecDepth 100000 in
set_option maxHeartbeats 4000000 in
theorem sensor_outside_Quanta_1.calls (k : Nat) (b1 : Nat) (v3 : Int) (x4 : Int) {t w : World} {f : FM} {H : List Seg} (HS : St t w f ([(b1, .cells #[.int .i64 v3] 22 (0, 0))] :: H)) (r1 : Bool) (h : sensor_outside_Quanta_1 k v3 x4 = some r1) :
    Calls Try.prog 61 #[.int .i64 x4, .pointer (some ⟨b1, 0, none⟩)] w (fun e w' => ∃ (g : FM), e = .returned (Value.bool r1) ∧ FM.le f g ∧ St t w' g ([(b1, .cells #[.int .i64 v3] 22 (0, 0))] :: H)) := by
  unfold sensor_outside_Quanta_1 at h
  refine enter Try.func61 rfl (tm := #[.int .i64 x4, .pointer (some ⟨b1, 0, none⟩), undef, undef, undef, undef, undef, undef, undef, undef, undef]) (by kernel_rfl) ?_
  intro B hret hnor hnp
  refine wp_seq_k (fun K5 hK6 => ?_)
  refine wp_region_lit ?_
  refine seqS1 (a' := ⟨#[.int .i64 x4, .pointer (some ⟨b1, 0, none⟩), undef, .bool false, undef, undef, undef, undef, undef, undef, undef], []⟩) (by kernel_rfl) ?_
  refine wpList_nil ?_
  refine hK6 _ _ ?_
  refine wp_seq_k (fun K7 hK8 => ?_)
  refine wp_region_lit ?_
  refine seqS3 (a' := ⟨#[.int .i64 x4, .pointer (some ⟨b1, 0, none⟩), undef, .bool false, .int .i64 x4, .bool (decide (x4 < 0)), .bool (decide (x4 < 0)), undef, undef, undef, undef], []⟩) (by kernel_rfl) ?_
  have hq_ := ite_some h; clear h; rcases hq_ with ⟨c9, h⟩ | ⟨c9, h⟩
  · have c9 : x4 < 0 := c9
    refine seqRwI 5 (x := (decide (x4 < 0))) (v := true) (by kernel_rfl) (decide_eq_true c9) ?_
    refine seqRwI 6 (x := (decide (x4 < 0))) (v := true) (by kernel_rfl) (decide_eq_true c9) ?_
    refine seqS5 (a' := ⟨#[.int .i64 x4, .pointer (some ⟨b1, 0, none⟩), undef, .bool true, .int .i64 x4, .bool true, .bool true, undef, undef, undef, .bool true], []⟩) (by kernel_rfl) ?_
    refine wpList_nil ?_
    refine hK8 _ _ ?_
    refine wp_ret ?_
    refine hret _ _ ?_
    refine ends_still (v := Value.bool true) (by kernel_rfl) (by kernel_rfl) ?_
    injection h with h
    subst h
    exact ⟨f, rfl, FM.le.refl _, HS⟩
  · have c9 : ¬ (x4 < 0) := c9
    refine seqRwI 5 (x := (decide (x4 < 0))) (v := false) (by kernel_rfl) (decide_eq_false c9) ?_
    refine seqRwI 6 (x := (decide (x4 < 0))) (v := false) (by kernel_rfl) (decide_eq_false c9) ?_
    refine seqL1 (by kernel_rfl) ?_
    refine seqG (by kernel_rfl) (does_run (run_load rfl Try.underlying22 rfl (by kernel_rfl : _ = Value.pointer (some ⟨b1, 0, none⟩)) (HS.cell 0)) ?_)
    refine seqS3 (a' := ⟨#[.int .i64 x4, .pointer (some ⟨b1, 0, none⟩), undef, .bool (decide (x4 > v3)), .int .i64 x4, .bool false, .bool false, .int .i64 x4, .int .i64 v3, .bool (decide (x4 > v3)), .bool (decide (x4 > v3))], []⟩) (by kernel_rfl) ?_
    refine wpList_nil ?_
    refine hK8 _ _ ?_
    refine wp_ret ?_
    refine hret _ _ ?_
    refine ends_still (v := Value.bool (decide (x4 > v3))) (by kernel_rfl) (by kernel_rfl) ?_
    injection h with h
    subst h
    exact ⟨f, rfl, FM.le.refl _, HS⟩

set_option maxRecDepth 100000 in
set_option maxHeartbeats 4000000 in
theorem slices_IndexFunc_Quanta__sensor_outside_Quanta_1.calls (k : Nat) (b1 : Nat) (A5 : Option Addr) (c6 : Nat) (v3 : Int) (s4 : List Int) {t w : World} {f : FM} {H : List Seg} (HS : St t w f ([(b1, .cells #[.int .i64 v3] 22 (0, 0))] :: H)) (HR7 : SlR (tInt .i64) f A5 c6 s4) (r1 : Int) (h : slices_IndexFunc_Quanta__sensor_outside_Quanta_1 k v3 s4 = some r1) :
    Calls Try.prog 79 #[.slice A5 s4.length c6, .func (.func 61) #[] #[.pointer (some ⟨b1, 0, none⟩)]] w (fun e w' => ∃ (g : FM), e = .returned (Value.int .i64 r1) ∧ FM.le f g ∧ St t w' g ([(b1, .cells #[.int .i64 v3] 22 (0, 0))] :: H)) := by
  unfold slices_IndexFunc_Quanta__sensor_outside_Quanta_1 at h
  refine enter Try.func79 rfl (tm := #[.slice A5 s4.length c6, .func (.func 61) #[] #[.pointer (some ⟨b1, 0, none⟩)], undef, undef, undef, undef, undef, undef, undef, undef, undef, undef, undef, undef, undef, undef, undef, undef, undef]) (by kernel_rfl) ?_
  intro B hret hnor hnp
  refine wp_seq_k (fun K8 hK9 => ?_)
  refine wp_region_lit ?_
  refine seqS1 (a' := ⟨#[.slice A5 s4.length c6, .func (.func 61) #[] #[.pointer (some ⟨b1, 0, none⟩)], undef, undef, .int .i64 0, undef, undef, undef, undef, undef, undef, undef, undef, undef, undef, undef, undef, undef, undef], []⟩) (by kernel_rfl) ?_
  refine wpList_nil ?_
  refine hK9 _ _ ?_
  refine wp_seq_k (fun K10 hK11 => ?_)
  refine wp_seq_k (fun K12 hK13 => ?_)
  refine wp_region_lit ?_
  refine seqS3 (a' := ⟨#[.slice A5 s4.length c6, .func (.func 61) #[] #[.pointer (some ⟨b1, 0, none⟩)], undef, undef, .int .i64 0, undef, .slice A5 s4.length c6, .int .i64 (s4.length : Int), .int .i64 0, undef, undef, undef, undef, undef, undef, undef, undef, undef, undef], []⟩) (by kernel_rfl) ?_
  refine wpList_nil ?_
  refine hK13 _ _ ?_
  refine blockK (fun B14 hx15 hn16 hr17 ho18 hp19 => ?_)
  have hq_ := bind_some h; clear h; obtain ⟨o20, hv70, h⟩ := hq_
  have JR72 : ∀ z_, some (Sum.inl z_) = some o20 → some z_ = some r1 := by
    intro z_ e_; injection e_ with e_; subst e_; exact h
  have J71 : ∀ (f65 : FM) (j69 : Nat → Value) (W67 : World) (a_ : Act), FM.le f f65 → some (Sum.inr ()) = some o20 → St t W67 f65 ([(b1, .cells #[.int .i64 v3] 22 (0, 0))] :: H) → a_ = ⟨#[.slice A5 s4.length c6, .func (.func 61) #[] #[.pointer (some ⟨b1, 0, none⟩)], undef, undef, (j69 0), (j69 1), .slice A5 s4.length c6, .int .i64 (s4.length : Int), (j69 2), (j69 3), (j69 4), (j69 5), (j69 6), (j69 7), (j69 8), (j69 9), (j69 10), (j69 11), (j69 12)], []⟩ → K10 a_ W67 := by
    intro f65 j69 W67 a_ L66 hj73 HS68  hfr_; subst hfr_
    injection hj73 with hj73; subst hj73; try dsimp only at h
    simp only [Sum.elim_inr] at h
    refine hK11 _ _ ?_
    refine wp_seq_k (fun K74 hK75 => ?_)
    refine wp_region_lit ?_
    refine seqS1 (a' := ⟨#[.slice A5 s4.length c6, .func (.func 61) #[] #[.pointer (some ⟨b1, 0, none⟩)], undef, undef, .int .i64 (-1), (j69 1), .slice A5 s4.length c6, .int .i64 (s4.length : Int), (j69 2), (j69 3), (j69 4), (j69 5), (j69 6), (j69 7), (j69 8), (j69 9), (j69 10), (j69 11), (j69 12)], []⟩) (by kernel_rfl) ?_
    refine wpList_nil ?_
    refine hK75 _ _ ?_
    refine wp_ret ?_
    refine hret _ _ ?_
    refine ends_still (v := Value.int .i64 (-1)) (by kernel_rfl) (by kernel_rfl) ?_
    injection h with h
    subst h
    exact ⟨f65, rfl, L66, HS68⟩
  clear h; have h := hv70; clear hv70
  refine loopK (fun n_ a_ w_ => ∃ (f24 : FM) (x29 : Int) (j28 : Nat → Value), FM.le f f24 ∧ St t w_ f24 ([(b1, .cells #[.int .i64 v3] 22 (0, 0))] :: H) ∧ slices_IndexFunc_Quanta__sensor_outside_Quanta_1.l0 k s4 v3 n_ x29 = some o20 ∧ a_ = ⟨#[.slice A5 s4.length c6, .func (.func 61) #[] #[.pointer (some ⟨b1, 0, none⟩)], undef, undef, (j28 0), (j28 1), .slice A5 s4.length c6, .int .i64 (s4.length : Int), .int .i64 x29, (j28 2), (j28 3), (j28 4), (j28 5), (j28 6), (j28 7), (j28 8), (j28 9), (j28 10), (j28 11)], []⟩) k ⟨f, 0, (fun i_ => [Value.int .i64 0, undef, undef, undef, undef, undef, undef, undef, undef, undef, undef, undef].getD i_ undef), (FM.le.refl _), HS, h, (by kernel_rfl)⟩ ?_
  clear h
  rintro n23 _ W26 ⟨f24, x29, j28, L25, HS27, h, rfl⟩ K21 hK22
  obtain _ | n23 := n23
  · exact nomatch h
  simp only [slices_IndexFunc_Quanta__sensor_outside_Quanta_1.l0] at h
  refine wp_seq_k (fun K30 hK31 => ?_)
  refine wp_region_lit ?_
  refine seqS1 (a' := ⟨#[.slice A5 s4.length c6, .func (.func 61) #[] #[.pointer (some ⟨b1, 0, none⟩)], undef, undef, (j28 0), (j28 1), .slice A5 s4.length c6, .int .i64 (s4.length : Int), .int .i64 x29, .bool (decide (x29 < (s4.length : Int))), (j28 3), (j28 4), (j28 5), (j28 6), (j28 7), (j28 8), (j28 9), (j28 10), (j28 11)], []⟩) (by kernel_rfl) ?_
  refine wpList_nil ?_
  refine hK31 _ _ ?_
  refine wp_seq_k (fun K32 hK33 => ?_)
  have hq_ := ite_some h; clear h; rcases hq_ with ⟨c35, h⟩ | ⟨c35, h⟩
  · have c35 : x29 < (s4.length : Int) := c35
    refine wpRwI 9 (x := (decide (x29 < (s4.length : Int)))) (v := true) (by kernel_rfl) (decide_eq_true c35) ?_
    refine condT (by kernel_rfl) ?_
    refine wp_skip ?_
    refine hK33 _ _ ?_
    refine wp_seq_k (fun K36 hK37 => ?_)
    refine blockK (fun B38 hx39 hn40 hr41 ho42 hp43 => ?_)
    refine wp_seq_k (fun K45 hK46 => ?_)
    refine wp_region_lit ?_
    refine seqS2 (a' := ⟨#[.slice A5 s4.length c6, .func (.func 61) #[] #[.pointer (some ⟨b1, 0, none⟩)], undef, undef, (j28 0), .int .i64 x29, .slice A5 s4.length c6, .int .i64 (s4.length : Int), .int .i64 x29, .bool true, .int .i64 x29, (j28 4), (j28 5), (j28 6), (j28 7), (j28 8), (j28 9), (j28 10), (j28 11)], []⟩) (by kernel_rfl) ?_
    refine wpList_nil ?_
    refine hK46 _ _ ?_
    refine wp_seq_k (fun K47 hK48 => ?_)
    refine wp_region_lit ?_
    have hq_ := guard_some h; clear h; obtain ⟨c49, h⟩ := hq_
    have c49 : 0 ≤ x29 := c49
    obtain ⟨b53, of54, cs50, rfl, hr51, hc52⟩ := (HR7.mono L25).at (i := x29) c49 c35
    obtain rfl := hr51
    refine seqL3 (by kernel_rfl) ?_
    refine seqK rfl (does_run (run_index (sz := 1) rfl Try.underlying48 (by kernel_rfl) (by kernel_rfl : _ = Value.slice (some ⟨b53, of54, none⟩) s4.length c6) (by kernel_rfl : _ = Value.int .i64 x29) c49 c35 W26) ?_)
    refine seqK rfl (does_run (run_load rfl Try.underlying22 rfl (by kernel_rfl : _ = Value.pointer (some ⟨b53, of54 + (x29 : Int).toNat * 1, none⟩)) ((hc52 (FM.le.refl _) HS27) 0 (by decide))) ?_)
    have hq_ := bind_some h; clear h; obtain ⟨vt55, hc56, h⟩ := hq_
    refine seqK rfl (does_call (f := 61) (args := #[.int .i64 (rd s4 x29), .pointer (some ⟨b1, 0, none⟩)]) (by kernel_rfl) (sensor_outside_Quanta_1.calls k b1 v3 (rd s4 x29) HS27 vt55 hc56) ?_)
    rintro _ W59 ⟨f57, rfl, L58, HS60⟩
    refine ⟨_, rfl, ?_⟩
    refine wpList_nil ?_
    refine hK48 _ _ ?_
    have hq_ := ite_some h; clear h; rcases hq_ with ⟨c62, h⟩ | ⟨c62, h⟩
    · have c62 : vt55 = true := c62
      refine wpRwI 16 (x := vt55) (v := true) (by kernel_rfl) c62 ?_
      refine condT (by kernel_rfl) ?_
      refine wp_seq_k (fun K63 hK64 => ?_)
      refine wp_region_lit ?_
      refine seqS2 (a' := ⟨#[.slice (some ⟨b53, of54, none⟩) s4.length c6, .func (.func 61) #[] #[.pointer (some ⟨b1, 0, none⟩)], undef, undef, .int .i64 x29, .int .i64 x29, .slice (some ⟨b53, of54, none⟩) s4.length c6, .int .i64 (s4.length : Int), .int .i64 x29, .bool true, .int .i64 x29, .func (.func 61) #[] #[.pointer (some ⟨b1, 0, none⟩)], .slice (some ⟨b53, of54, none⟩) s4.length c6, .int .i64 x29, .pointer (some ⟨b53, of54 + (x29 : Int).toNat * 1, none⟩), .int .i64 (rd s4 x29), .bool true, .int .i64 x29, (j28 11)], []⟩) (by kernel_rfl) ?_
      refine wpList_nil ?_
      refine hK64 _ _ ?_
      refine wp_ret ?_
      refine hr41 _ _ ?_
      refine hr17 _ _ ?_
      refine hret _ _ ?_
      refine ends_still (v := Value.int .i64 x29) (by kernel_rfl) (by kernel_rfl) ?_
      replace h := JR72 _ h
      injection h with h
      subst h
      exact ⟨f57, rfl, (L25.trans L58), HS60⟩
    · have c62 : ¬ (vt55 = true) := c62
      refine wpRwI 16 (x := vt55) (v := false) (by kernel_rfl) (Bool.eq_false_iff.mpr c62) ?_
      refine condF (by kernel_rfl) ?_
      refine wp_skip ?_
      refine hn40 _ _ ?_
      refine hK37 _ _ ?_
      refine wp_region_lit ?_
      refine seqS2 (a' := ⟨#[.slice (some ⟨b53, of54, none⟩) s4.length c6, .func (.func 61) #[] #[.pointer (some ⟨b1, 0, none⟩)], undef, undef, (j28 0), .int .i64 x29, .slice (some ⟨b53, of54, none⟩) s4.length c6, .int .i64 (s4.length : Int), .int .i64 (w64 (x29 + 1)), .bool true, .int .i64 x29, .func (.func 61) #[] #[.pointer (some ⟨b1, 0, none⟩)], .slice (some ⟨b53, of54, none⟩) s4.length c6, .int .i64 x29, .pointer (some ⟨b53, of54 + (x29 : Int).toNat * 1, none⟩), .int .i64 (rd s4 x29), .bool false, (j28 10), .int .i64 (w64 (x29 + 1))], []⟩) (by kernel_rfl) ?_
      refine wpList_nil ?_
      refine hK22 n23 _ _ (Nat.lt_succ_self _) ?_
      exact ⟨f57, (w64 (x29 + 1)), (fun i_ => [(j28 0), Value.int .i64 x29, Value.bool true, Value.int .i64 x29, Value.func (.func 61) #[] #[.pointer (some ⟨b1, 0, none⟩)], Value.slice (some ⟨b53, of54, none⟩) s4.length c6, Value.int .i64 x29, Value.pointer (some ⟨b53, of54 + (x29 : Int).toNat * 1, none⟩), Value.int .i64 (rd s4 x29), Value.bool false, (j28 10), Value.int .i64 (w64 (x29 + 1))].getD i_ undef), (L25.trans L58), HS60, h, (by kernel_rfl)⟩
  · have c35 : ¬ (x29 < (s4.length : Int)) := c35
    refine wpRwI 9 (x := (decide (x29 < (s4.length : Int)))) (v := false) (by kernel_rfl) (decide_eq_false c35) ?_
    refine condF (by kernel_rfl) ?_
    refine wp_exit ?_
    refine hx15 _ _ ?_
    exact J71 f24 (fun i_ => [(j28 0), (j28 1), Value.int .i64 x29, Value.bool false, (j28 3), (j28 4), (j28 5), (j28 6), (j28 7), (j28 8), (j28 9), (j28 10), (j28 11)].getD i_ undef) W26 _ L25 h HS27 (by kernel_rfl)

set_option maxRecDepth 100000 in
set_option maxHeartbeats 4000000 in
theorem slices_ContainsFunc_Quanta__sensor_outside_Quanta_1.calls (k : Nat) (b1 : Nat) (A5 : Option Addr) (c6 : Nat) (v3 : Int) (s4 : List Int) {t w : World} {f : FM} {H : List Seg} (HS : St t w f ([(b1, .cells #[.int .i64 v3] 22 (0, 0))] :: H)) (HR7 : SlR (tInt .i64) f A5 c6 s4) (r1 : Bool) (h : slices_ContainsFunc_Quanta__sensor_outside_Quanta_1 k v3 s4 = some r1) :
    Calls Try.prog 60 #[.slice A5 s4.length c6, .func (.func 61) #[] #[.pointer (some ⟨b1, 0, none⟩)]] w (fun e w' => ∃ (g : FM), e = .returned (Value.bool r1) ∧ FM.le f g ∧ St t w' g ([(b1, .cells #[.int .i64 v3] 22 (0, 0))] :: H)) := by
  unfold slices_ContainsFunc_Quanta__sensor_outside_Quanta_1 at h
  refine enter Try.func60 rfl (tm := #[.slice A5 s4.length c6, .func (.func 61) #[] #[.pointer (some ⟨b1, 0, none⟩)], undef, undef, undef, undef, undef, undef, undef]) (by kernel_rfl) ?_
  intro B hret hnor hnp
  refine wp_seq_k (fun K8 hK9 => ?_)
  refine wp_region_lit ?_
  refine seqS1 (a' := ⟨#[.slice A5 s4.length c6, .func (.func 61) #[] #[.pointer (some ⟨b1, 0, none⟩)], undef, undef, .bool false, undef, undef, undef, undef], []⟩) (by kernel_rfl) ?_
  refine wpList_nil ?_
  refine hK9 _ _ ?_
  refine wp_seq_k (fun K10 hK11 => ?_)
  refine wp_region_lit ?_
  have hq_ := bind_some h; clear h; obtain ⟨vt12, hc13, h⟩ := hq_
  refine seqL2 (by kernel_rfl) ?_
  refine seqK rfl (does_call (f := 79) (args := #[.slice A5 s4.length c6, .func (.func 61) #[] #[.pointer (some ⟨b1, 0, none⟩)]]) (by kernel_rfl) (slices_IndexFunc_Quanta__sensor_outside_Quanta_1.calls k b1 A5 c6 v3 s4 HS HR7 vt12 hc13) ?_)
  rintro _ W16 ⟨f14, rfl, L15, HS17⟩
  refine ⟨_, rfl, ?_⟩
  refine seqS2 (a' := ⟨#[.slice A5 s4.length c6, .func (.func 61) #[] #[.pointer (some ⟨b1, 0, none⟩)], undef, undef, .bool (decide (vt12 ≥ 0)), .slice A5 s4.length c6, .func (.func 61) #[] #[.pointer (some ⟨b1, 0, none⟩)], .int .i64 vt12, .bool (decide (vt12 ≥ 0))], []⟩) (by kernel_rfl) ?_
  refine wpList_nil ?_
  refine hK11 _ _ ?_
  refine wp_ret ?_
  refine hret _ _ ?_
  refine ends_still (v := Value.bool (decide (vt12 ≥ 0))) (by kernel_rfl) (by kernel_rfl) ?_
  injection h with h
  subst h
  exact ⟨f14, rfl, L15, HS17⟩

set_option maxRecDepth 100000 in
set_option maxHeartbeats 4000000 in
theorem sensor_outside_Quanta.calls (k : Nat) (A2 : Option Addr) (c3 : Nat) (l1 : List Int) (most5 : Int) {t w : World} {f : FM} {H : List Seg} (HS : St t w f (H)) (HR4 : SlR (tInt .i64) f A2 c3 l1) (r1 : Bool) (h : sensor_outside_Quanta k l1 most5 = some r1) :
    Calls Try.prog 45 #[.slice A2 l1.length c3, .int .i64 most5] w (fun e w' => ∃ (g : FM), e = .returned (Value.bool r1) ∧ FM.le f g ∧ St t w' g (H)) := by
  unfold sensor_outside_Quanta at h
  refine enter Try.func45 rfl (tm := #[.slice A2 l1.length c3, .int .i64 most5, undef, undef, undef, undef, undef, undef]) (by kernel_rfl) ?_
  intro B hret hnor hnp
  refine wp_seq_k (fun K6 hK7 => ?_)
  refine wp_region_lit ?_
  refine seqK rfl (does_box (cs := #[.int .i64 most5]) rfl (by kernel_rfl : _ = Value.int .i64 most5) rfl HS ?_)
  intro b8 W9 HS10
  refine seqS1 (a' := ⟨#[.slice A2 l1.length c3, .int .i64 most5, undef, .pointer (some ⟨b8, 0, none⟩), .bool false, undef, undef, undef], []⟩) (by kernel_rfl) ?_
  refine wpList_nil ?_
  refine hK7 _ _ ?_
  refine wp_seq_k (fun K12 hK13 => ?_)
  refine wp_region_lit ?_
  have hq_ := bind_some h; clear h; obtain ⟨vt14, hc15, h⟩ := hq_
  refine seqL2 (by kernel_rfl) ?_
  refine seqK rfl (does_call (f := 60) (args := #[.slice A2 l1.length c3, .func (.func 61) #[] #[.pointer (some ⟨b8, 0, none⟩)]]) (by kernel_rfl) (slices_ContainsFunc_Quanta__sensor_outside_Quanta_1.calls k b8 A2 c3 most5 l1 HS10 HR4 vt14 hc15) ?_)
  rintro _ W18 ⟨f16, rfl, L17, HS19⟩
  refine ⟨_, rfl, ?_⟩
  refine seqS1 (a' := ⟨#[.slice A2 l1.length c3, .int .i64 most5, undef, .pointer (some ⟨b8, 0, none⟩), .bool vt14, .slice A2 l1.length c3, .func (.func 61) #[] #[.pointer (some ⟨b8, 0, none⟩)], .bool vt14], []⟩) (by kernel_rfl) ?_
  refine wpList_nil ?_
  refine hK13 _ _ ?_
  refine wp_ret ?_
  refine hret _ _ ?_
  refine ends_still (v := Value.bool vt14) (by kernel_rfl) (by kernel_rfl) ?_
  have HS20 := HS19.drop
  injection h with h
  subst h
  exact ⟨f16, rfl, L17, HS20⟩

set_option maxRecDepth 100000 in
set_option maxHeartbeats 4000000 in
theorem quanta_Mix.calls (k : Nat)  (seed1 : Int) (n2 : Int) {t w : World} {f : FM} {H : List Seg} (HS : St t w f (H)) (r1 : Int) (h : quanta_Mix k seed1 n2 = some r1) :
    Calls Try.prog 40 #[.int .u64 seed1, .int .i64 n2] w (fun e w' => ∃ (g : FM), e = .returned (Value.int .u64 r1) ∧ FM.le f g ∧ St t w' g (H)) := by
  unfold quanta_Mix at h
  refine enter Try.func40 rfl (tm := #[.int .u64 seed1, .int .i64 n2, undef, undef, undef, undef, undef, undef, undef, undef, undef, undef, undef, undef, undef, undef, undef, undef, undef, undef, undef, undef, undef, undef, undef, undef]) (by kernel_rfl) ?_
  intro B hret hnor hnp
  refine wp_seq_k (fun K3 hK4 => ?_)
  refine wp_region_lit ?_
  refine seqS1 (a' := ⟨#[.int .u64 seed1, .int .i64 n2, undef, undef, .int .u64 0, undef, undef, undef, undef, undef, undef, undef, undef, undef, undef, undef, undef, undef, undef, undef, undef, undef, undef, undef, undef, undef], []⟩) (by kernel_rfl) ?_
  refine wpList_nil ?_
  refine hK4 _ _ ?_
  refine wp_seq_k (fun K5 hK6 => ?_)
  refine wp_region_lit ?_
  refine seqS7 (a' := ⟨#[.int .u64 seed1, .int .i64 n2, undef, undef, .int .u64 0, .int .u64 (u64 (seed1 + (u64 ((u64 (w64 (n2 + 1))) * 11400714819323198485)))), .int .u64 seed1, .int .i64 n2, .int .i64 (w64 (n2 + 1)), .int .u64 (u64 (w64 (n2 + 1))), .int .u64 (u64 ((u64 (w64 (n2 + 1))) * 11400714819323198485)), .int .u64 (u64 (seed1 + (u64 ((u64 (w64 (n2 + 1))) * 11400714819323198485)))), undef, undef, undef, undef, undef, undef, undef, undef, undef, undef, undef, undef, undef, undef], []⟩) (by kernel_rfl) ?_
  refine wpList_nil ?_
  refine hK6 _ _ ?_
  refine wp_seq_k (fun K7 hK8 => ?_)
  refine wp_region_lit ?_
  refine seqS6 (a' := ⟨#[.int .u64 seed1, .int .i64 n2, undef, undef, .int .u64 0, .int .u64 (u64 ((Go.bits .xor .u64 (u64 (seed1 + (u64 ((u64 (w64 (n2 + 1))) * 11400714819323198485)))) (shr (u64 (seed1 + (u64 ((u64 (w64 (n2 + 1))) * 11400714819323198485)))) 30)) * 13787848793156543929)), .int .u64 seed1, .int .i64 n2, .int .i64 (w64 (n2 + 1)), .int .u64 (u64 (w64 (n2 + 1))), .int .u64 (u64 ((u64 (w64 (n2 + 1))) * 11400714819323198485)), .int .u64 (u64 (seed1 + (u64 ((u64 (w64 (n2 + 1))) * 11400714819323198485)))), .int .u64 (u64 (seed1 + (u64 ((u64 (w64 (n2 + 1))) * 11400714819323198485)))), .int .u64 (u64 (seed1 + (u64 ((u64 (w64 (n2 + 1))) * 11400714819323198485)))), .int .u64 (shr (u64 (seed1 + (u64 ((u64 (w64 (n2 + 1))) * 11400714819323198485)))) 30), .int .u64 (Go.bits .xor .u64 (u64 (seed1 + (u64 ((u64 (w64 (n2 + 1))) * 11400714819323198485)))) (shr (u64 (seed1 + (u64 ((u64 (w64 (n2 + 1))) * 11400714819323198485)))) 30)), .int .u64 (u64 ((Go.bits .xor .u64 (u64 (seed1 + (u64 ((u64 (w64 (n2 + 1))) * 11400714819323198485)))) (shr (u64 (seed1 + (u64 ((u64 (w64 (n2 + 1))) * 11400714819323198485)))) 30)) * 13787848793156543929)), undef, undef, undef, undef, undef, undef, undef, undef, undef], []⟩) (by kernel_rfl) ?_
  refine wpList_nil ?_
  refine hK8 _ _ ?_
  refine wp_seq_k (fun K9 hK10 => ?_)
  refine wp_region_lit ?_
  refine seqS6 (a' := ⟨#[.int .u64 seed1, .int .i64 n2, undef, undef, .int .u64 0, .int .u64 (u64 ((Go.bits .xor .u64 (u64 ((Go.bits .xor .u64 (u64 (seed1 + (u64 ((u64 (w64 (n2 + 1))) * 11400714819323198485)))) (shr (u64 (seed1 + (u64 ((u64 (w64 (n2 + 1))) * 11400714819323198485)))) 30)) * 13787848793156543929)) (shr (u64 ((Go.bits .xor .u64 (u64 (seed1 + (u64 ((u64 (w64 (n2 + 1))) * 11400714819323198485)))) (shr (u64 (seed1 + (u64 ((u64 (w64 (n2 + 1))) * 11400714819323198485)))) 30)) * 13787848793156543929)) 27)) * 10723151780598845931)), .int .u64 seed1, .int .i64 n2, .int .i64 (w64 (n2 + 1)), .int .u64 (u64 (w64 (n2 + 1))), .int .u64 (u64 ((u64 (w64 (n2 + 1))) * 11400714819323198485)), .int .u64 (u64 (seed1 + (u64 ((u64 (w64 (n2 + 1))) * 11400714819323198485)))), .int .u64 (u64 (seed1 + (u64 ((u64 (w64 (n2 + 1))) * 11400714819323198485)))), .int .u64 (u64 (seed1 + (u64 ((u64 (w64 (n2 + 1))) * 11400714819323198485)))), .int .u64 (shr (u64 (seed1 + (u64 ((u64 (w64 (n2 + 1))) * 11400714819323198485)))) 30), .int .u64 (Go.bits .xor .u64 (u64 (seed1 + (u64 ((u64 (w64 (n2 + 1))) * 11400714819323198485)))) (shr (u64 (seed1 + (u64 ((u64 (w64 (n2 + 1))) * 11400714819323198485)))) 30)), .int .u64 (u64 ((Go.bits .xor .u64 (u64 (seed1 + (u64 ((u64 (w64 (n2 + 1))) * 11400714819323198485)))) (shr (u64 (seed1 + (u64 ((u64 (w64 (n2 + 1))) * 11400714819323198485)))) 30)) * 13787848793156543929)), .int .u64 (u64 ((Go.bits .xor .u64 (u64 (seed1 + (u64 ((u64 (w64 (n2 + 1))) * 11400714819323198485)))) (shr (u64 (seed1 + (u64 ((u64 (w64 (n2 + 1))) * 11400714819323198485)))) 30)) * 13787848793156543929)), .int .u64 (u64 ((Go.bits .xor .u64 (u64 (seed1 + (u64 ((u64 (w64 (n2 + 1))) * 11400714819323198485)))) (shr (u64 (seed1 + (u64 ((u64 (w64 (n2 + 1))) * 11400714819323198485)))) 30)) * 13787848793156543929)), .int .u64 (shr (u64 ((Go.bits .xor .u64 (u64 (seed1 + (u64 ((u64 (w64 (n2 + 1))) * 11400714819323198485)))) (shr (u64 (seed1 + (u64 ((u64 (w64 (n2 + 1))) * 11400714819323198485)))) 30)) * 13787848793156543929)) 27), .int .u64 (Go.bits .xor .u64 (u64 ((Go.bits .xor .u64 (u64 (seed1 + (u64 ((u64 (w64 (n2 + 1))) * 11400714819323198485)))) (shr (u64 (seed1 + (u64 ((u64 (w64 (n2 + 1))) * 11400714819323198485)))) 30)) * 13787848793156543929)) (shr (u64 ((Go.bits .xor .u64 (u64 (seed1 + (u64 ((u64 (w64 (n2 + 1))) * 11400714819323198485)))) (shr (u64 (seed1 + (u64 ((u64 (w64 (n2 + 1))) * 11400714819323198485)))) 30)) * 13787848793156543929)) 27)), .int .u64 (u64 ((Go.bits .xor .u64 (u64 ((Go.bits .xor .u64 (u64 (seed1 + (u64 ((u64 (w64 (n2 + 1))) * 11400714819323198485)))) (shr (u64 (seed1 + (u64 ((u64 (w64 (n2 + 1))) * 11400714819323198485)))) 30)) * 13787848793156543929)) (shr (u64 ((Go.bits .xor .u64 (u64 (seed1 + (u64 ((u64 (w64 (n2 + 1))) * 11400714819323198485)))) (shr (u64 (seed1 + (u64 ((u64 (w64 (n2 + 1))) * 11400714819323198485)))) 30)) * 13787848793156543929)) 27)) * 10723151780598845931)), undef, undef, undef, undef], []⟩) (by kernel_rfl) ?_
  refine wpList_nil ?_
  refine hK10 _ _ ?_
  refine wp_seq_k (fun K11 hK12 => ?_)
  refine wp_region_lit ?_
  refine seqS5 (a' := ⟨#[.int .u64 seed1, .int .i64 n2, undef, undef, .int .u64 (Go.bits .xor .u64 (u64 ((Go.bits .xor .u64 (u64 ((Go.bits .xor .u64 (u64 (seed1 + (u64 ((u64 (w64 (n2 + 1))) * 11400714819323198485)))) (shr (u64 (seed1 + (u64 ((u64 (w64 (n2 + 1))) * 11400714819323198485)))) 30)) * 13787848793156543929)) (shr (u64 ((Go.bits .xor .u64 (u64 (seed1 + (u64 ((u64 (w64 (n2 + 1))) * 11400714819323198485)))) (shr (u64 (seed1 + (u64 ((u64 (w64 (n2 + 1))) * 11400714819323198485)))) 30)) * 13787848793156543929)) 27)) * 10723151780598845931)) (shr (u64 ((Go.bits .xor .u64 (u64 ((Go.bits .xor .u64 (u64 (seed1 + (u64 ((u64 (w64 (n2 + 1))) * 11400714819323198485)))) (shr (u64 (seed1 + (u64 ((u64 (w64 (n2 + 1))) * 11400714819323198485)))) 30)) * 13787848793156543929)) (shr (u64 ((Go.bits .xor .u64 (u64 (seed1 + (u64 ((u64 (w64 (n2 + 1))) * 11400714819323198485)))) (shr (u64 (seed1 + (u64 ((u64 (w64 (n2 + 1))) * 11400714819323198485)))) 30)) * 13787848793156543929)) 27)) * 10723151780598845931)) 31)), .int .u64 (u64 ((Go.bits .xor .u64 (u64 ((Go.bits .xor .u64 (u64 (seed1 + (u64 ((u64 (w64 (n2 + 1))) * 11400714819323198485)))) (shr (u64 (seed1 + (u64 ((u64 (w64 (n2 + 1))) * 11400714819323198485)))) 30)) * 13787848793156543929)) (shr (u64 ((Go.bits .xor .u64 (u64 (seed1 + (u64 ((u64 (w64 (n2 + 1))) * 11400714819323198485)))) (shr (u64 (seed1 + (u64 ((u64 (w64 (n2 + 1))) * 11400714819323198485)))) 30)) * 13787848793156543929)) 27)) * 10723151780598845931)), .int .u64 seed1, .int .i64 n2, .int .i64 (w64 (n2 + 1)), .int .u64 (u64 (w64 (n2 + 1))), .int .u64 (u64 ((u64 (w64 (n2 + 1))) * 11400714819323198485)), .int .u64 (u64 (seed1 + (u64 ((u64 (w64 (n2 + 1))) * 11400714819323198485)))), .int .u64 (u64 (seed1 + (u64 ((u64 (w64 (n2 + 1))) * 11400714819323198485)))), .int .u64 (u64 (seed1 + (u64 ((u64 (w64 (n2 + 1))) * 11400714819323198485)))), .int .u64 (shr (u64 (seed1 + (u64 ((u64 (w64 (n2 + 1))) * 11400714819323198485)))) 30), .int .u64 (Go.bits .xor .u64 (u64 (seed1 + (u64 ((u64 (w64 (n2 + 1))) * 11400714819323198485)))) (shr (u64 (seed1 + (u64 ((u64 (w64 (n2 + 1))) * 11400714819323198485)))) 30)), .int .u64 (u64 ((Go.bits .xor .u64 (u64 (seed1 + (u64 ((u64 (w64 (n2 + 1))) * 11400714819323198485)))) (shr (u64 (seed1 + (u64 ((u64 (w64 (n2 + 1))) * 11400714819323198485)))) 30)) * 13787848793156543929)), .int .u64 (u64 ((Go.bits .xor .u64 (u64 (seed1 + (u64 ((u64 (w64 (n2 + 1))) * 11400714819323198485)))) (shr (u64 (seed1 + (u64 ((u64 (w64 (n2 + 1))) * 11400714819323198485)))) 30)) * 13787848793156543929)), .int .u64 (u64 ((Go.bits .xor .u64 (u64 (seed1 + (u64 ((u64 (w64 (n2 + 1))) * 11400714819323198485)))) (shr (u64 (seed1 + (u64 ((u64 (w64 (n2 + 1))) * 11400714819323198485)))) 30)) * 13787848793156543929)), .int .u64 (shr (u64 ((Go.bits .xor .u64 (u64 (seed1 + (u64 ((u64 (w64 (n2 + 1))) * 11400714819323198485)))) (shr (u64 (seed1 + (u64 ((u64 (w64 (n2 + 1))) * 11400714819323198485)))) 30)) * 13787848793156543929)) 27), .int .u64 (Go.bits .xor .u64 (u64 ((Go.bits .xor .u64 (u64 (seed1 + (u64 ((u64 (w64 (n2 + 1))) * 11400714819323198485)))) (shr (u64 (seed1 + (u64 ((u64 (w64 (n2 + 1))) * 11400714819323198485)))) 30)) * 13787848793156543929)) (shr (u64 ((Go.bits .xor .u64 (u64 (seed1 + (u64 ((u64 (w64 (n2 + 1))) * 11400714819323198485)))) (shr (u64 (seed1 + (u64 ((u64 (w64 (n2 + 1))) * 11400714819323198485)))) 30)) * 13787848793156543929)) 27)), .int .u64 (u64 ((Go.bits .xor .u64 (u64 ((Go.bits .xor .u64 (u64 (seed1 + (u64 ((u64 (w64 (n2 + 1))) * 11400714819323198485)))) (shr (u64 (seed1 + (u64 ((u64 (w64 (n2 + 1))) * 11400714819323198485)))) 30)) * 13787848793156543929)) (shr (u64 ((Go.bits .xor .u64 (u64 (seed1 + (u64 ((u64 (w64 (n2 + 1))) * 11400714819323198485)))) (shr (u64 (seed1 + (u64 ((u64 (w64 (n2 + 1))) * 11400714819323198485)))) 30)) * 13787848793156543929)) 27)) * 10723151780598845931)), .int .u64 (u64 ((Go.bits .xor .u64 (u64 ((Go.bits .xor .u64 (u64 (seed1 + (u64 ((u64 (w64 (n2 + 1))) * 11400714819323198485)))) (shr (u64 (seed1 + (u64 ((u64 (w64 (n2 + 1))) * 11400714819323198485)))) 30)) * 13787848793156543929)) (shr (u64 ((Go.bits .xor .u64 (u64 (seed1 + (u64 ((u64 (w64 (n2 + 1))) * 11400714819323198485)))) (shr (u64 (seed1 + (u64 ((u64 (w64 (n2 + 1))) * 11400714819323198485)))) 30)) * 13787848793156543929)) 27)) * 10723151780598845931)), .int .u64 (u64 ((Go.bits .xor .u64 (u64 ((Go.bits .xor .u64 (u64 (seed1 + (u64 ((u64 (w64 (n2 + 1))) * 11400714819323198485)))) (shr (u64 (seed1 + (u64 ((u64 (w64 (n2 + 1))) * 11400714819323198485)))) 30)) * 13787848793156543929)) (shr (u64 ((Go.bits .xor .u64 (u64 (seed1 + (u64 ((u64 (w64 (n2 + 1))) * 11400714819323198485)))) (shr (u64 (seed1 + (u64 ((u64 (w64 (n2 + 1))) * 11400714819323198485)))) 30)) * 13787848793156543929)) 27)) * 10723151780598845931)), .int .u64 (shr (u64 ((Go.bits .xor .u64 (u64 ((Go.bits .xor .u64 (u64 (seed1 + (u64 ((u64 (w64 (n2 + 1))) * 11400714819323198485)))) (shr (u64 (seed1 + (u64 ((u64 (w64 (n2 + 1))) * 11400714819323198485)))) 30)) * 13787848793156543929)) (shr (u64 ((Go.bits .xor .u64 (u64 (seed1 + (u64 ((u64 (w64 (n2 + 1))) * 11400714819323198485)))) (shr (u64 (seed1 + (u64 ((u64 (w64 (n2 + 1))) * 11400714819323198485)))) 30)) * 13787848793156543929)) 27)) * 10723151780598845931)) 31), .int .u64 (Go.bits .xor .u64 (u64 ((Go.bits .xor .u64 (u64 ((Go.bits .xor .u64 (u64 (seed1 + (u64 ((u64 (w64 (n2 + 1))) * 11400714819323198485)))) (shr (u64 (seed1 + (u64 ((u64 (w64 (n2 + 1))) * 11400714819323198485)))) 30)) * 13787848793156543929)) (shr (u64 ((Go.bits .xor .u64 (u64 (seed1 + (u64 ((u64 (w64 (n2 + 1))) * 11400714819323198485)))) (shr (u64 (seed1 + (u64 ((u64 (w64 (n2 + 1))) * 11400714819323198485)))) 30)) * 13787848793156543929)) 27)) * 10723151780598845931)) (shr (u64 ((Go.bits .xor .u64 (u64 ((Go.bits .xor .u64 (u64 (seed1 + (u64 ((u64 (w64 (n2 + 1))) * 11400714819323198485)))) (shr (u64 (seed1 + (u64 ((u64 (w64 (n2 + 1))) * 11400714819323198485)))) 30)) * 13787848793156543929)) (shr (u64 ((Go.bits .xor .u64 (u64 (seed1 + (u64 ((u64 (w64 (n2 + 1))) * 11400714819323198485)))) (shr (u64 (seed1 + (u64 ((u64 (w64 (n2 + 1))) * 11400714819323198485)))) 30)) * 13787848793156543929)) 27)) * 10723151780598845931)) 31))], []⟩) (by kernel_rfl) ?_
  refine wpList_nil ?_
  refine hK12 _ _ ?_
  refine wp_ret ?_
  refine hret _ _ ?_
  refine ends_still (v := Value.int .u64 (Go.bits .xor .u64 (u64 ((Go.bits .xor .u64 (u64 ((Go.bits .xor .u64 (u64 (seed1 + (u64 ((u64 (w64 (n2 + 1))) * 11400714819323198485)))) (shr (u64 (seed1 + (u64 ((u64 (w64 (n2 + 1))) * 11400714819323198485)))) 30)) * 13787848793156543929)) (shr (u64 ((Go.bits .xor .u64 (u64 (seed1 + (u64 ((u64 (w64 (n2 + 1))) * 11400714819323198485)))) (shr (u64 (seed1 + (u64 ((u64 (w64 (n2 + 1))) * 11400714819323198485)))) 30)) * 13787848793156543929)) 27)) * 10723151780598845931)) (shr (u64 ((Go.bits .xor .u64 (u64 ((Go.bits .xor .u64 (u64 (seed1 + (u64 ((u64 (w64 (n2 + 1))) * 11400714819323198485)))) (shr (u64 (seed1 + (u64 ((u64 (w64 (n2 + 1))) * 11400714819323198485)))) 30)) * 13787848793156543929)) (shr (u64 ((Go.bits .xor .u64 (u64 (seed1 + (u64 ((u64 (w64 (n2 + 1))) * 11400714819323198485)))) (shr (u64 (seed1 + (u64 ((u64 (w64 (n2 + 1))) * 11400714819323198485)))) 30)) * 13787848793156543929)) 27)) * 10723151780598845931)) 31))) (by kernel_rfl) (by kernel_rfl) ?_
  injection h with h
  subst h
  exact ⟨f, rfl, FM.le.refl _, HS⟩

set_option maxRecDepth 100000 in
set_option maxHeartbeats 4000000 in
theorem bits_Mul64.calls (k : Nat)  (x1 : Int) (y2 : Int) {t w : World} {f : FM} {H : List Seg} (HS : St t w f (H)) (r1 : Int) (r2 : Int) (h : bits_Mul64 k x1 y2 = some (r1, r2)) :
    Calls Try.prog 58 #[.int .u64 x1, .int .u64 y2] w (fun e w' => ∃ (g : FM), e = .returned (Value.tuple #[.int .u64 r1, .int .u64 r2]) ∧ FM.le f g ∧ St t w' g (H)) := by
  unfold bits_Mul64 at h
  refine enter Try.func58 rfl (tm := #[.int .u64 x1, .int .u64 y2, undef, undef, undef, undef, undef, undef, undef, undef, undef, undef, undef, undef, undef, undef, undef, undef, undef, undef, undef, undef, undef, undef, undef, undef, undef, undef, undef, undef, undef, undef, undef, undef, undef, undef, undef, undef, undef, undef, undef, undef, undef, undef, undef, undef, undef, undef, undef, undef, undef]) (by kernel_rfl) ?_
  intro B hret hnor hnp
  refine wp_seq_k (fun K3 hK4 => ?_)
  refine wp_region_lit ?_
  refine seqS2 (a' := ⟨#[.int .u64 x1, .int .u64 y2, undef, undef, .int .u64 0, .int .u64 0, undef, undef, undef, undef, undef, undef, undef, undef, undef, undef, undef, undef, undef, undef, undef, undef, undef, undef, undef, undef, undef, undef, undef, undef, undef, undef, undef, undef, undef, undef, undef, undef, undef, undef, undef, undef, undef, undef, undef, undef, undef, undef, undef, undef, undef], []⟩) (by kernel_rfl) ?_
  refine wpList_nil ?_
  refine hK4 _ _ ?_
  refine wp_seq_k (fun K5 hK6 => ?_)
  refine wp_region_lit ?_
  refine seqS3 (a' := ⟨#[.int .u64 x1, .int .u64 y2, undef, undef, .int .u64 0, .int .u64 0, .int .u64 (Go.bits .and .u64 x1 4294967295), undef, undef, undef, undef, undef, undef, undef, .int .u64 x1, .int .u64 (Go.bits .and .u64 x1 4294967295), undef, undef, undef, undef, undef, undef, undef, undef, undef, undef, undef, undef, undef, undef, undef, undef, undef, undef, undef, undef, undef, undef, undef, undef, undef, undef, undef, undef, undef, undef, undef, undef, undef, undef, undef], []⟩) (by kernel_rfl) ?_
  refine wpList_nil ?_
  refine hK6 _ _ ?_
  refine wp_seq_k (fun K7 hK8 => ?_)
  refine wp_region_lit ?_
  refine seqS3 (a' := ⟨#[.int .u64 x1, .int .u64 y2, undef, undef, .int .u64 0, .int .u64 0, .int .u64 (Go.bits .and .u64 x1 4294967295), .int .u64 (shr x1 32), undef, undef, undef, undef, undef, undef, .int .u64 x1, .int .u64 (Go.bits .and .u64 x1 4294967295), .int .u64 x1, .int .u64 (shr x1 32), undef, undef, undef, undef, undef, undef, undef, undef, undef, undef, undef, undef, undef, undef, undef, undef, undef, undef, undef, undef, undef, undef, undef, undef, undef, undef, undef, undef, undef, undef, undef, undef, undef], []⟩) (by kernel_rfl) ?_
  refine wpList_nil ?_
  refine hK8 _ _ ?_
  refine wp_seq_k (fun K9 hK10 => ?_)
  refine wp_region_lit ?_
  refine seqS3 (a' := ⟨#[.int .u64 x1, .int .u64 y2, undef, undef, .int .u64 0, .int .u64 0, .int .u64 (Go.bits .and .u64 x1 4294967295), .int .u64 (shr x1 32), .int .u64 (Go.bits .and .u64 y2 4294967295), undef, undef, undef, undef, undef, .int .u64 x1, .int .u64 (Go.bits .and .u64 x1 4294967295), .int .u64 x1, .int .u64 (shr x1 32), .int .u64 y2, .int .u64 (Go.bits .and .u64 y2 4294967295), undef, undef, undef, undef, undef, undef, undef, undef, undef, undef, undef, undef, undef, undef, undef, undef, undef, undef, undef, undef, undef, undef, undef, undef, undef, undef, undef, undef, undef, undef, undef], []⟩) (by kernel_rfl) ?_
  refine wpList_nil ?_
  refine hK10 _ _ ?_
  refine wp_seq_k (fun K11 hK12 => ?_)
  refine wp_region_lit ?_
  refine seqS3 (a' := ⟨#[.int .u64 x1, .int .u64 y2, undef, undef, .int .u64 0, .int .u64 0, .int .u64 (Go.bits .and .u64 x1 4294967295), .int .u64 (shr x1 32), .int .u64 (Go.bits .and .u64 y2 4294967295), .int .u64 (shr y2 32), undef, undef, undef, undef, .int .u64 x1, .int .u64 (Go.bits .and .u64 x1 4294967295), .int .u64 x1, .int .u64 (shr x1 32), .int .u64 y2, .int .u64 (Go.bits .and .u64 y2 4294967295), .int .u64 y2, .int .u64 (shr y2 32), undef, undef, undef, undef, undef, undef, undef, undef, undef, undef, undef, undef, undef, undef, undef, undef, undef, undef, undef, undef, undef, undef, undef, undef, undef, undef, undef, undef, undef], []⟩) (by kernel_rfl) ?_
  refine wpList_nil ?_
  refine hK12 _ _ ?_
  refine wp_seq_k (fun K13 hK14 => ?_)
  refine wp_region_lit ?_
  refine seqS4 (a' := ⟨#[.int .u64 x1, .int .u64 y2, undef, undef, .int .u64 0, .int .u64 0, .int .u64 (Go.bits .and .u64 x1 4294967295), .int .u64 (shr x1 32), .int .u64 (Go.bits .and .u64 y2 4294967295), .int .u64 (shr y2 32), .int .u64 (u64 ((Go.bits .and .u64 x1 4294967295) * (Go.bits .and .u64 y2 4294967295))), undef, undef, undef, .int .u64 x1, .int .u64 (Go.bits .and .u64 x1 4294967295), .int .u64 x1, .int .u64 (shr x1 32), .int .u64 y2, .int .u64 (Go.bits .and .u64 y2 4294967295), .int .u64 y2, .int .u64 (shr y2 32), .int .u64 (Go.bits .and .u64 x1 4294967295), .int .u64 (Go.bits .and .u64 y2 4294967295), .int .u64 (u64 ((Go.bits .and .u64 x1 4294967295) * (Go.bits .and .u64 y2 4294967295))), undef, undef, undef, undef, undef, undef, undef, undef, undef, undef, undef, undef, undef, undef, undef, undef, undef, undef, undef, undef, undef, undef, undef, undef, undef, undef], []⟩) (by kernel_rfl) ?_
  refine wpList_nil ?_
  refine hK14 _ _ ?_
  refine wp_seq_k (fun K15 hK16 => ?_)
  refine wp_region_lit ?_
  refine seqS7 (a' := ⟨#[.int .u64 x1, .int .u64 y2, undef, undef, .int .u64 0, .int .u64 0, .int .u64 (Go.bits .and .u64 x1 4294967295), .int .u64 (shr x1 32), .int .u64 (Go.bits .and .u64 y2 4294967295), .int .u64 (shr y2 32), .int .u64 (u64 ((Go.bits .and .u64 x1 4294967295) * (Go.bits .and .u64 y2 4294967295))), .int .u64 (u64 ((u64 ((shr x1 32) * (Go.bits .and .u64 y2 4294967295))) + (shr (u64 ((Go.bits .and .u64 x1 4294967295) * (Go.bits .and .u64 y2 4294967295))) 32))), undef, undef, .int .u64 x1, .int .u64 (Go.bits .and .u64 x1 4294967295), .int .u64 x1, .int .u64 (shr x1 32), .int .u64 y2, .int .u64 (Go.bits .and .u64 y2 4294967295), .int .u64 y2, .int .u64 (shr y2 32), .int .u64 (Go.bits .and .u64 x1 4294967295), .int .u64 (Go.bits .and .u64 y2 4294967295), .int .u64 (u64 ((Go.bits .and .u64 x1 4294967295) * (Go.bits .and .u64 y2 4294967295))), .int .u64 (shr x1 32), .int .u64 (Go.bits .and .u64 y2 4294967295), .int .u64 (u64 ((shr x1 32) * (Go.bits .and .u64 y2 4294967295))), .int .u64 (u64 ((Go.bits .and .u64 x1 4294967295) * (Go.bits .and .u64 y2 4294967295))), .int .u64 (shr (u64 ((Go.bits .and .u64 x1 4294967295) * (Go.bits .and .u64 y2 4294967295))) 32), .int .u64 (u64 ((u64 ((shr x1 32) * (Go.bits .and .u64 y2 4294967295))) + (shr (u64 ((Go.bits .and .u64 x1 4294967295) * (Go.bits .and .u64 y2 4294967295))) 32))), undef, undef, undef, undef, undef, undef, undef, undef, undef, undef, undef, undef, undef, undef, undef, undef, undef, undef, undef, undef], []⟩) (by kernel_rfl) ?_
  refine wpList_nil ?_
  refine hK16 _ _ ?_
  refine wp_seq_k (fun K17 hK18 => ?_)
  refine wp_region_lit ?_
  refine seqS3 (a' := ⟨#[.int .u64 x1, .int .u64 y2, undef, undef, .int .u64 0, .int .u64 0, .int .u64 (Go.bits .and .u64 x1 4294967295), .int .u64 (shr x1 32), .int .u64 (Go.bits .and .u64 y2 4294967295), .int .u64 (shr y2 32), .int .u64 (u64 ((Go.bits .and .u64 x1 4294967295) * (Go.bits .and .u64 y2 4294967295))), .int .u64 (u64 ((u64 ((shr x1 32) * (Go.bits .and .u64 y2 4294967295))) + (shr (u64 ((Go.bits .and .u64 x1 4294967295) * (Go.bits .and .u64 y2 4294967295))) 32))), .int .u64 (Go.bits .and .u64 (u64 ((u64 ((shr x1 32) * (Go.bits .and .u64 y2 4294967295))) + (shr (u64 ((Go.bits .and .u64 x1 4294967295) * (Go.bits .and .u64 y2 4294967295))) 32))) 4294967295), undef, .int .u64 x1, .int .u64 (Go.bits .and .u64 x1 4294967295), .int .u64 x1, .int .u64 (shr x1 32), .int .u64 y2, .int .u64 (Go.bits .and .u64 y2 4294967295), .int .u64 y2, .int .u64 (shr y2 32), .int .u64 (Go.bits .and .u64 x1 4294967295), .int .u64 (Go.bits .and .u64 y2 4294967295), .int .u64 (u64 ((Go.bits .and .u64 x1 4294967295) * (Go.bits .and .u64 y2 4294967295))), .int .u64 (shr x1 32), .int .u64 (Go.bits .and .u64 y2 4294967295), .int .u64 (u64 ((shr x1 32) * (Go.bits .and .u64 y2 4294967295))), .int .u64 (u64 ((Go.bits .and .u64 x1 4294967295) * (Go.bits .and .u64 y2 4294967295))), .int .u64 (shr (u64 ((Go.bits .and .u64 x1 4294967295) * (Go.bits .and .u64 y2 4294967295))) 32), .int .u64 (u64 ((u64 ((shr x1 32) * (Go.bits .and .u64 y2 4294967295))) + (shr (u64 ((Go.bits .and .u64 x1 4294967295) * (Go.bits .and .u64 y2 4294967295))) 32))), .int .u64 (u64 ((u64 ((shr x1 32) * (Go.bits .and .u64 y2 4294967295))) + (shr (u64 ((Go.bits .and .u64 x1 4294967295) * (Go.bits .and .u64 y2 4294967295))) 32))), .int .u64 (Go.bits .and .u64 (u64 ((u64 ((shr x1 32) * (Go.bits .and .u64 y2 4294967295))) + (shr (u64 ((Go.bits .and .u64 x1 4294967295) * (Go.bits .and .u64 y2 4294967295))) 32))) 4294967295), undef, undef, undef, undef, undef, undef, undef, undef, undef, undef, undef, undef, undef, undef, undef, undef, undef, undef], []⟩) (by kernel_rfl) ?_
  refine wpList_nil ?_
  refine hK18 _ _ ?_
  refine wp_seq_k (fun K19 hK20 => ?_)
  refine wp_region_lit ?_
  refine seqS3 (a' := ⟨#[.int .u64 x1, .int .u64 y2, undef, undef, .int .u64 0, .int .u64 0, .int .u64 (Go.bits .and .u64 x1 4294967295), .int .u64 (shr x1 32), .int .u64 (Go.bits .and .u64 y2 4294967295), .int .u64 (shr y2 32), .int .u64 (u64 ((Go.bits .and .u64 x1 4294967295) * (Go.bits .and .u64 y2 4294967295))), .int .u64 (u64 ((u64 ((shr x1 32) * (Go.bits .and .u64 y2 4294967295))) + (shr (u64 ((Go.bits .and .u64 x1 4294967295) * (Go.bits .and .u64 y2 4294967295))) 32))), .int .u64 (Go.bits .and .u64 (u64 ((u64 ((shr x1 32) * (Go.bits .and .u64 y2 4294967295))) + (shr (u64 ((Go.bits .and .u64 x1 4294967295) * (Go.bits .and .u64 y2 4294967295))) 32))) 4294967295), .int .u64 (shr (u64 ((u64 ((shr x1 32) * (Go.bits .and .u64 y2 4294967295))) + (shr (u64 ((Go.bits .and .u64 x1 4294967295) * (Go.bits .and .u64 y2 4294967295))) 32))) 32), .int .u64 x1, .int .u64 (Go.bits .and .u64 x1 4294967295), .int .u64 x1, .int .u64 (shr x1 32), .int .u64 y2, .int .u64 (Go.bits .and .u64 y2 4294967295), .int .u64 y2, .int .u64 (shr y2 32), .int .u64 (Go.bits .and .u64 x1 4294967295), .int .u64 (Go.bits .and .u64 y2 4294967295), .int .u64 (u64 ((Go.bits .and .u64 x1 4294967295) * (Go.bits .and .u64 y2 4294967295))), .int .u64 (shr x1 32), .int .u64 (Go.bits .and .u64 y2 4294967295), .int .u64 (u64 ((shr x1 32) * (Go.bits .and .u64 y2 4294967295))), .int .u64 (u64 ((Go.bits .and .u64 x1 4294967295) * (Go.bits .and .u64 y2 4294967295))), .int .u64 (shr (u64 ((Go.bits .and .u64 x1 4294967295) * (Go.bits .and .u64 y2 4294967295))) 32), .int .u64 (u64 ((u64 ((shr x1 32) * (Go.bits .and .u64 y2 4294967295))) + (shr (u64 ((Go.bits .and .u64 x1 4294967295) * (Go.bits .and .u64 y2 4294967295))) 32))), .int .u64 (u64 ((u64 ((shr x1 32) * (Go.bits .and .u64 y2 4294967295))) + (shr (u64 ((Go.bits .and .u64 x1 4294967295) * (Go.bits .and .u64 y2 4294967295))) 32))), .int .u64 (Go.bits .and .u64 (u64 ((u64 ((shr x1 32) * (Go.bits .and .u64 y2 4294967295))) + (shr (u64 ((Go.bits .and .u64 x1 4294967295) * (Go.bits .and .u64 y2 4294967295))) 32))) 4294967295), .int .u64 (u64 ((u64 ((shr x1 32) * (Go.bits .and .u64 y2 4294967295))) + (shr (u64 ((Go.bits .and .u64 x1 4294967295) * (Go.bits .and .u64 y2 4294967295))) 32))), .int .u64 (shr (u64 ((u64 ((shr x1 32) * (Go.bits .and .u64 y2 4294967295))) + (shr (u64 ((Go.bits .and .u64 x1 4294967295) * (Go.bits .and .u64 y2 4294967295))) 32))) 32), undef, undef, undef, undef, undef, undef, undef, undef, undef, undef, undef, undef, undef, undef, undef, undef], []⟩) (by kernel_rfl) ?_
  refine wpList_nil ?_
  refine hK20 _ _ ?_
  refine wp_seq_k (fun K21 hK22 => ?_)
  refine wp_region_lit ?_
  refine seqS6 (a' := ⟨#[.int .u64 x1, .int .u64 y2, undef, undef, .int .u64 0, .int .u64 0, .int .u64 (Go.bits .and .u64 x1 4294967295), .int .u64 (shr x1 32), .int .u64 (Go.bits .and .u64 y2 4294967295), .int .u64 (shr y2 32), .int .u64 (u64 ((Go.bits .and .u64 x1 4294967295) * (Go.bits .and .u64 y2 4294967295))), .int .u64 (u64 ((u64 ((shr x1 32) * (Go.bits .and .u64 y2 4294967295))) + (shr (u64 ((Go.bits .and .u64 x1 4294967295) * (Go.bits .and .u64 y2 4294967295))) 32))), .int .u64 (u64 ((Go.bits .and .u64 (u64 ((u64 ((shr x1 32) * (Go.bits .and .u64 y2 4294967295))) + (shr (u64 ((Go.bits .and .u64 x1 4294967295) * (Go.bits .and .u64 y2 4294967295))) 32))) 4294967295) + (u64 ((Go.bits .and .u64 x1 4294967295) * (shr y2 32))))), .int .u64 (shr (u64 ((u64 ((shr x1 32) * (Go.bits .and .u64 y2 4294967295))) + (shr (u64 ((Go.bits .and .u64 x1 4294967295) * (Go.bits .and .u64 y2 4294967295))) 32))) 32), .int .u64 x1, .int .u64 (Go.bits .and .u64 x1 4294967295), .int .u64 x1, .int .u64 (shr x1 32), .int .u64 y2, .int .u64 (Go.bits .and .u64 y2 4294967295), .int .u64 y2, .int .u64 (shr y2 32), .int .u64 (Go.bits .and .u64 x1 4294967295), .int .u64 (Go.bits .and .u64 y2 4294967295), .int .u64 (u64 ((Go.bits .and .u64 x1 4294967295) * (Go.bits .and .u64 y2 4294967295))), .int .u64 (shr x1 32), .int .u64 (Go.bits .and .u64 y2 4294967295), .int .u64 (u64 ((shr x1 32) * (Go.bits .and .u64 y2 4294967295))), .int .u64 (u64 ((Go.bits .and .u64 x1 4294967295) * (Go.bits .and .u64 y2 4294967295))), .int .u64 (shr (u64 ((Go.bits .and .u64 x1 4294967295) * (Go.bits .and .u64 y2 4294967295))) 32), .int .u64 (u64 ((u64 ((shr x1 32) * (Go.bits .and .u64 y2 4294967295))) + (shr (u64 ((Go.bits .and .u64 x1 4294967295) * (Go.bits .and .u64 y2 4294967295))) 32))), .int .u64 (u64 ((u64 ((shr x1 32) * (Go.bits .and .u64 y2 4294967295))) + (shr (u64 ((Go.bits .and .u64 x1 4294967295) * (Go.bits .and .u64 y2 4294967295))) 32))), .int .u64 (Go.bits .and .u64 (u64 ((u64 ((shr x1 32) * (Go.bits .and .u64 y2 4294967295))) + (shr (u64 ((Go.bits .and .u64 x1 4294967295) * (Go.bits .and .u64 y2 4294967295))) 32))) 4294967295), .int .u64 (u64 ((u64 ((shr x1 32) * (Go.bits .and .u64 y2 4294967295))) + (shr (u64 ((Go.bits .and .u64 x1 4294967295) * (Go.bits .and .u64 y2 4294967295))) 32))), .int .u64 (shr (u64 ((u64 ((shr x1 32) * (Go.bits .and .u64 y2 4294967295))) + (shr (u64 ((Go.bits .and .u64 x1 4294967295) * (Go.bits .and .u64 y2 4294967295))) 32))) 32), .int .u64 (Go.bits .and .u64 (u64 ((u64 ((shr x1 32) * (Go.bits .and .u64 y2 4294967295))) + (shr (u64 ((Go.bits .and .u64 x1 4294967295) * (Go.bits .and .u64 y2 4294967295))) 32))) 4294967295), .int .u64 (Go.bits .and .u64 x1 4294967295), .int .u64 (shr y2 32), .int .u64 (u64 ((Go.bits .and .u64 x1 4294967295) * (shr y2 32))), .int .u64 (u64 ((Go.bits .and .u64 (u64 ((u64 ((shr x1 32) * (Go.bits .and .u64 y2 4294967295))) + (shr (u64 ((Go.bits .and .u64 x1 4294967295) * (Go.bits .and .u64 y2 4294967295))) 32))) 4294967295) + (u64 ((Go.bits .and .u64 x1 4294967295) * (shr y2 32))))), undef, undef, undef, undef, undef, undef, undef, undef, undef, undef, undef], []⟩) (by kernel_rfl) ?_
  refine wpList_nil ?_
  refine hK22 _ _ ?_
  refine wp_seq_k (fun K23 hK24 => ?_)
  refine wp_region_lit ?_
  refine seqS9 (a' := ⟨#[.int .u64 x1, .int .u64 y2, undef, undef, .int .u64 (u64 ((u64 ((u64 ((shr x1 32) * (shr y2 32))) + (shr (u64 ((u64 ((shr x1 32) * (Go.bits .and .u64 y2 4294967295))) + (shr (u64 ((Go.bits .and .u64 x1 4294967295) * (Go.bits .and .u64 y2 4294967295))) 32))) 32))) + (shr (u64 ((Go.bits .and .u64 (u64 ((u64 ((shr x1 32) * (Go.bits .and .u64 y2 4294967295))) + (shr (u64 ((Go.bits .and .u64 x1 4294967295) * (Go.bits .and .u64 y2 4294967295))) 32))) 4294967295) + (u64 ((Go.bits .and .u64 x1 4294967295) * (shr y2 32))))) 32))), .int .u64 0, .int .u64 (Go.bits .and .u64 x1 4294967295), .int .u64 (shr x1 32), .int .u64 (Go.bits .and .u64 y2 4294967295), .int .u64 (shr y2 32), .int .u64 (u64 ((Go.bits .and .u64 x1 4294967295) * (Go.bits .and .u64 y2 4294967295))), .int .u64 (u64 ((u64 ((shr x1 32) * (Go.bits .and .u64 y2 4294967295))) + (shr (u64 ((Go.bits .and .u64 x1 4294967295) * (Go.bits .and .u64 y2 4294967295))) 32))), .int .u64 (u64 ((Go.bits .and .u64 (u64 ((u64 ((shr x1 32) * (Go.bits .and .u64 y2 4294967295))) + (shr (u64 ((Go.bits .and .u64 x1 4294967295) * (Go.bits .and .u64 y2 4294967295))) 32))) 4294967295) + (u64 ((Go.bits .and .u64 x1 4294967295) * (shr y2 32))))), .int .u64 (shr (u64 ((u64 ((shr x1 32) * (Go.bits .and .u64 y2 4294967295))) + (shr (u64 ((Go.bits .and .u64 x1 4294967295) * (Go.bits .and .u64 y2 4294967295))) 32))) 32), .int .u64 x1, .int .u64 (Go.bits .and .u64 x1 4294967295), .int .u64 x1, .int .u64 (shr x1 32), .int .u64 y2, .int .u64 (Go.bits .and .u64 y2 4294967295), .int .u64 y2, .int .u64 (shr y2 32), .int .u64 (Go.bits .and .u64 x1 4294967295), .int .u64 (Go.bits .and .u64 y2 4294967295), .int .u64 (u64 ((Go.bits .and .u64 x1 4294967295) * (Go.bits .and .u64 y2 4294967295))), .int .u64 (shr x1 32), .int .u64 (Go.bits .and .u64 y2 4294967295), .int .u64 (u64 ((shr x1 32) * (Go.bits .and .u64 y2 4294967295))), .int .u64 (u64 ((Go.bits .and .u64 x1 4294967295) * (Go.bits .and .u64 y2 4294967295))), .int .u64 (shr (u64 ((Go.bits .and .u64 x1 4294967295) * (Go.bits .and .u64 y2 4294967295))) 32), .int .u64 (u64 ((u64 ((shr x1 32) * (Go.bits .and .u64 y2 4294967295))) + (shr (u64 ((Go.bits .and .u64 x1 4294967295) * (Go.bits .and .u64 y2 4294967295))) 32))), .int .u64 (u64 ((u64 ((shr x1 32) * (Go.bits .and .u64 y2 4294967295))) + (shr (u64 ((Go.bits .and .u64 x1 4294967295) * (Go.bits .and .u64 y2 4294967295))) 32))), .int .u64 (Go.bits .and .u64 (u64 ((u64 ((shr x1 32) * (Go.bits .and .u64 y2 4294967295))) + (shr (u64 ((Go.bits .and .u64 x1 4294967295) * (Go.bits .and .u64 y2 4294967295))) 32))) 4294967295), .int .u64 (u64 ((u64 ((shr x1 32) * (Go.bits .and .u64 y2 4294967295))) + (shr (u64 ((Go.bits .and .u64 x1 4294967295) * (Go.bits .and .u64 y2 4294967295))) 32))), .int .u64 (shr (u64 ((u64 ((shr x1 32) * (Go.bits .and .u64 y2 4294967295))) + (shr (u64 ((Go.bits .and .u64 x1 4294967295) * (Go.bits .and .u64 y2 4294967295))) 32))) 32), .int .u64 (Go.bits .and .u64 (u64 ((u64 ((shr x1 32) * (Go.bits .and .u64 y2 4294967295))) + (shr (u64 ((Go.bits .and .u64 x1 4294967295) * (Go.bits .and .u64 y2 4294967295))) 32))) 4294967295), .int .u64 (Go.bits .and .u64 x1 4294967295), .int .u64 (shr y2 32), .int .u64 (u64 ((Go.bits .and .u64 x1 4294967295) * (shr y2 32))), .int .u64 (u64 ((Go.bits .and .u64 (u64 ((u64 ((shr x1 32) * (Go.bits .and .u64 y2 4294967295))) + (shr (u64 ((Go.bits .and .u64 x1 4294967295) * (Go.bits .and .u64 y2 4294967295))) 32))) 4294967295) + (u64 ((Go.bits .and .u64 x1 4294967295) * (shr y2 32))))), .int .u64 (shr x1 32), .int .u64 (shr y2 32), .int .u64 (u64 ((shr x1 32) * (shr y2 32))), .int .u64 (shr (u64 ((u64 ((shr x1 32) * (Go.bits .and .u64 y2 4294967295))) + (shr (u64 ((Go.bits .and .u64 x1 4294967295) * (Go.bits .and .u64 y2 4294967295))) 32))) 32), .int .u64 (u64 ((u64 ((shr x1 32) * (shr y2 32))) + (shr (u64 ((u64 ((shr x1 32) * (Go.bits .and .u64 y2 4294967295))) + (shr (u64 ((Go.bits .and .u64 x1 4294967295) * (Go.bits .and .u64 y2 4294967295))) 32))) 32))), .int .u64 (u64 ((Go.bits .and .u64 (u64 ((u64 ((shr x1 32) * (Go.bits .and .u64 y2 4294967295))) + (shr (u64 ((Go.bits .and .u64 x1 4294967295) * (Go.bits .and .u64 y2 4294967295))) 32))) 4294967295) + (u64 ((Go.bits .and .u64 x1 4294967295) * (shr y2 32))))), .int .u64 (shr (u64 ((Go.bits .and .u64 (u64 ((u64 ((shr x1 32) * (Go.bits .and .u64 y2 4294967295))) + (shr (u64 ((Go.bits .and .u64 x1 4294967295) * (Go.bits .and .u64 y2 4294967295))) 32))) 4294967295) + (u64 ((Go.bits .and .u64 x1 4294967295) * (shr y2 32))))) 32), .int .u64 (u64 ((u64 ((u64 ((shr x1 32) * (shr y2 32))) + (shr (u64 ((u64 ((shr x1 32) * (Go.bits .and .u64 y2 4294967295))) + (shr (u64 ((Go.bits .and .u64 x1 4294967295) * (Go.bits .and .u64 y2 4294967295))) 32))) 32))) + (shr (u64 ((Go.bits .and .u64 (u64 ((u64 ((shr x1 32) * (Go.bits .and .u64 y2 4294967295))) + (shr (u64 ((Go.bits .and .u64 x1 4294967295) * (Go.bits .and .u64 y2 4294967295))) 32))) 4294967295) + (u64 ((Go.bits .and .u64 x1 4294967295) * (shr y2 32))))) 32))), undef, undef, undef], []⟩) (by kernel_rfl) ?_
  refine wpList_nil ?_
  refine hK24 _ _ ?_
  refine wp_seq_k (fun K25 hK26 => ?_)
  refine wp_region_lit ?_
  refine seqS4 (a' := ⟨#[.int .u64 x1, .int .u64 y2, undef, undef, .int .u64 (u64 ((u64 ((u64 ((shr x1 32) * (shr y2 32))) + (shr (u64 ((u64 ((shr x1 32) * (Go.bits .and .u64 y2 4294967295))) + (shr (u64 ((Go.bits .and .u64 x1 4294967295) * (Go.bits .and .u64 y2 4294967295))) 32))) 32))) + (shr (u64 ((Go.bits .and .u64 (u64 ((u64 ((shr x1 32) * (Go.bits .and .u64 y2 4294967295))) + (shr (u64 ((Go.bits .and .u64 x1 4294967295) * (Go.bits .and .u64 y2 4294967295))) 32))) 4294967295) + (u64 ((Go.bits .and .u64 x1 4294967295) * (shr y2 32))))) 32))), .int .u64 (u64 (x1 * y2)), .int .u64 (Go.bits .and .u64 x1 4294967295), .int .u64 (shr x1 32), .int .u64 (Go.bits .and .u64 y2 4294967295), .int .u64 (shr y2 32), .int .u64 (u64 ((Go.bits .and .u64 x1 4294967295) * (Go.bits .and .u64 y2 4294967295))), .int .u64 (u64 ((u64 ((shr x1 32) * (Go.bits .and .u64 y2 4294967295))) + (shr (u64 ((Go.bits .and .u64 x1 4294967295) * (Go.bits .and .u64 y2 4294967295))) 32))), .int .u64 (u64 ((Go.bits .and .u64 (u64 ((u64 ((shr x1 32) * (Go.bits .and .u64 y2 4294967295))) + (shr (u64 ((Go.bits .and .u64 x1 4294967295) * (Go.bits .and .u64 y2 4294967295))) 32))) 4294967295) + (u64 ((Go.bits .and .u64 x1 4294967295) * (shr y2 32))))), .int .u64 (shr (u64 ((u64 ((shr x1 32) * (Go.bits .and .u64 y2 4294967295))) + (shr (u64 ((Go.bits .and .u64 x1 4294967295) * (Go.bits .and .u64 y2 4294967295))) 32))) 32), .int .u64 x1, .int .u64 (Go.bits .and .u64 x1 4294967295), .int .u64 x1, .int .u64 (shr x1 32), .int .u64 y2, .int .u64 (Go.bits .and .u64 y2 4294967295), .int .u64 y2, .int .u64 (shr y2 32), .int .u64 (Go.bits .and .u64 x1 4294967295), .int .u64 (Go.bits .and .u64 y2 4294967295), .int .u64 (u64 ((Go.bits .and .u64 x1 4294967295) * (Go.bits .and .u64 y2 4294967295))), .int .u64 (shr x1 32), .int .u64 (Go.bits .and .u64 y2 4294967295), .int .u64 (u64 ((shr x1 32) * (Go.bits .and .u64 y2 4294967295))), .int .u64 (u64 ((Go.bits .and .u64 x1 4294967295) * (Go.bits .and .u64 y2 4294967295))), .int .u64 (shr (u64 ((Go.bits .and .u64 x1 4294967295) * (Go.bits .and .u64 y2 4294967295))) 32), .int .u64 (u64 ((u64 ((shr x1 32) * (Go.bits .and .u64 y2 4294967295))) + (shr (u64 ((Go.bits .and .u64 x1 4294967295) * (Go.bits .and .u64 y2 4294967295))) 32))), .int .u64 (u64 ((u64 ((shr x1 32) * (Go.bits .and .u64 y2 4294967295))) + (shr (u64 ((Go.bits .and .u64 x1 4294967295) * (Go.bits .and .u64 y2 4294967295))) 32))), .int .u64 (Go.bits .and .u64 (u64 ((u64 ((shr x1 32) * (Go.bits .and .u64 y2 4294967295))) + (shr (u64 ((Go.bits .and .u64 x1 4294967295) * (Go.bits .and .u64 y2 4294967295))) 32))) 4294967295), .int .u64 (u64 ((u64 ((shr x1 32) * (Go.bits .and .u64 y2 4294967295))) + (shr (u64 ((Go.bits .and .u64 x1 4294967295) * (Go.bits .and .u64 y2 4294967295))) 32))), .int .u64 (shr (u64 ((u64 ((shr x1 32) * (Go.bits .and .u64 y2 4294967295))) + (shr (u64 ((Go.bits .and .u64 x1 4294967295) * (Go.bits .and .u64 y2 4294967295))) 32))) 32), .int .u64 (Go.bits .and .u64 (u64 ((u64 ((shr x1 32) * (Go.bits .and .u64 y2 4294967295))) + (shr (u64 ((Go.bits .and .u64 x1 4294967295) * (Go.bits .and .u64 y2 4294967295))) 32))) 4294967295), .int .u64 (Go.bits .and .u64 x1 4294967295), .int .u64 (shr y2 32), .int .u64 (u64 ((Go.bits .and .u64 x1 4294967295) * (shr y2 32))), .int .u64 (u64 ((Go.bits .and .u64 (u64 ((u64 ((shr x1 32) * (Go.bits .and .u64 y2 4294967295))) + (shr (u64 ((Go.bits .and .u64 x1 4294967295) * (Go.bits .and .u64 y2 4294967295))) 32))) 4294967295) + (u64 ((Go.bits .and .u64 x1 4294967295) * (shr y2 32))))), .int .u64 (shr x1 32), .int .u64 (shr y2 32), .int .u64 (u64 ((shr x1 32) * (shr y2 32))), .int .u64 (shr (u64 ((u64 ((shr x1 32) * (Go.bits .and .u64 y2 4294967295))) + (shr (u64 ((Go.bits .and .u64 x1 4294967295) * (Go.bits .and .u64 y2 4294967295))) 32))) 32), .int .u64 (u64 ((u64 ((shr x1 32) * (shr y2 32))) + (shr (u64 ((u64 ((shr x1 32) * (Go.bits .and .u64 y2 4294967295))) + (shr (u64 ((Go.bits .and .u64 x1 4294967295) * (Go.bits .and .u64 y2 4294967295))) 32))) 32))), .int .u64 (u64 ((Go.bits .and .u64 (u64 ((u64 ((shr x1 32) * (Go.bits .and .u64 y2 4294967295))) + (shr (u64 ((Go.bits .and .u64 x1 4294967295) * (Go.bits .and .u64 y2 4294967295))) 32))) 4294967295) + (u64 ((Go.bits .and .u64 x1 4294967295) * (shr y2 32))))), .int .u64 (shr (u64 ((Go.bits .and .u64 (u64 ((u64 ((shr x1 32) * (Go.bits .and .u64 y2 4294967295))) + (shr (u64 ((Go.bits .and .u64 x1 4294967295) * (Go.bits .and .u64 y2 4294967295))) 32))) 4294967295) + (u64 ((Go.bits .and .u64 x1 4294967295) * (shr y2 32))))) 32), .int .u64 (u64 ((u64 ((u64 ((shr x1 32) * (shr y2 32))) + (shr (u64 ((u64 ((shr x1 32) * (Go.bits .and .u64 y2 4294967295))) + (shr (u64 ((Go.bits .and .u64 x1 4294967295) * (Go.bits .and .u64 y2 4294967295))) 32))) 32))) + (shr (u64 ((Go.bits .and .u64 (u64 ((u64 ((shr x1 32) * (Go.bits .and .u64 y2 4294967295))) + (shr (u64 ((Go.bits .and .u64 x1 4294967295) * (Go.bits .and .u64 y2 4294967295))) 32))) 4294967295) + (u64 ((Go.bits .and .u64 x1 4294967295) * (shr y2 32))))) 32))), .int .u64 x1, .int .u64 y2, .int .u64 (u64 (x1 * y2))], []⟩) (by kernel_rfl) ?_
  refine wpList_nil ?_
  refine hK26 _ _ ?_
  refine wp_ret ?_
  refine hret _ _ ?_
  refine ends_still (v := Value.tuple #[.int .u64 (u64 ((u64 ((u64 ((shr x1 32) * (shr y2 32))) + (shr (u64 ((u64 ((shr x1 32) * (Go.bits .and .u64 y2 4294967295))) + (shr (u64 ((Go.bits .and .u64 x1 4294967295) * (Go.bits .and .u64 y2 4294967295))) 32))) 32))) + (shr (u64 ((Go.bits .and .u64 (u64 ((u64 ((shr x1 32) * (Go.bits .and .u64 y2 4294967295))) + (shr (u64 ((Go.bits .and .u64 x1 4294967295) * (Go.bits .and .u64 y2 4294967295))) 32))) 4294967295) + (u64 ((Go.bits .and .u64 x1 4294967295) * (shr y2 32))))) 32))), .int .u64 (u64 (x1 * y2))]) (by kernel_rfl) (by kernel_rfl) ?_
  injection h with h
  injection h with h0_ h
  subst h0_ h
  exact ⟨f, rfl, FM.le.refl _, HS⟩

set_option maxRecDepth 100000 in
set_option maxHeartbeats 4000000 in
theorem quanta_Below.calls (k : Nat)  (x1 : Int) (n2 : Int) {t w : World} {f : FM} {H : List Seg} (HS : St t w f (H)) (r1 : Int) (h : quanta_Below k x1 n2 = some r1) :
    Calls Try.prog 39 #[.int .u64 x1, .int .i64 n2] w (fun e w' => ∃ (g : FM), e = .returned (Value.int .i64 r1) ∧ FM.le f g ∧ St t w' g (H)) := by
  unfold quanta_Below at h
  refine enter Try.func39 rfl (tm := #[.int .u64 x1, .int .i64 n2, undef, undef, undef, undef, undef, undef, undef, undef, undef, undef, undef, undef, undef, undef, undef, undef]) (by kernel_rfl) ?_
  intro B hret hnor hnp
  refine wp_seq_k (fun K3 hK4 => ?_)
  refine wp_region_lit ?_
  refine seqS1 (a' := ⟨#[.int .u64 x1, .int .i64 n2, undef, undef, .int .i64 0, undef, undef, undef, undef, undef, undef, undef, undef, undef, undef, undef, undef, undef], []⟩) (by kernel_rfl) ?_
  refine wpList_nil ?_
  refine hK4 _ _ ?_
  refine wp_seq_k (fun K5 hK6 => ?_)
  refine wp_seq_k (fun K7 hK8 => ?_)
  refine wp_region_lit ?_
  refine seqS2 (a' := ⟨#[.int .u64 x1, .int .i64 n2, undef, undef, .int .i64 0, undef, undef, .int .i64 n2, .bool (decide (n2 < 1)), undef, undef, undef, undef, undef, undef, undef, undef, undef], []⟩) (by kernel_rfl) ?_
  refine wpList_nil ?_
  refine hK8 _ _ ?_
  have hq_ := ite_some h; clear h; rcases hq_ with ⟨c10, h⟩ | ⟨c10, h⟩
  · have c10 : n2 < 1 := c10
    refine wpRwI 8 (x := (decide (n2 < 1))) (v := true) (by kernel_rfl) (decide_eq_true c10) ?_
    refine condT (by kernel_rfl) ?_
    refine wp_seq_k (fun K11 hK12 => ?_)
    refine wp_region_lit ?_
    refine seqS1 (a' := ⟨#[.int .u64 x1, .int .i64 n2, undef, undef, .int .i64 0, undef, undef, .int .i64 n2, .bool true, undef, undef, undef, undef, undef, undef, undef, undef, undef], []⟩) (by kernel_rfl) ?_
    refine wpList_nil ?_
    refine hK12 _ _ ?_
    refine wp_ret ?_
    refine hret _ _ ?_
    refine ends_still (v := Value.int .i64 0) (by kernel_rfl) (by kernel_rfl) ?_
    injection h with h
    subst h
    exact ⟨f, rfl, FM.le.refl _, HS⟩
  · have c10 : ¬ (n2 < 1) := c10
    refine wpRwI 8 (x := (decide (n2 < 1))) (v := false) (by kernel_rfl) (decide_eq_false c10) ?_
    refine condF (by kernel_rfl) ?_
    refine wp_skip ?_
    refine hK6 _ _ ?_
    refine wp_seq_k (fun K13 hK14 => ?_)
    refine wp_region_lit ?_
    have hq_ := bind_some h; clear h; obtain ⟨⟨vt15, vt16⟩, hc17, h⟩ := hq_
    refine seqL3 (by kernel_rfl) ?_
    refine seqK rfl (does_call (f := 58) (args := #[.int .u64 x1, .int .u64 (u64 (n2))]) (by kernel_rfl) (bits_Mul64.calls k x1 (u64 (n2)) HS vt15 vt16 hc17) ?_)
    rintro _ W20 ⟨f18, rfl, L19, HS21⟩
    refine ⟨_, rfl, ?_⟩
    refine seqS5 (a' := ⟨#[.int .u64 x1, .int .i64 n2, undef, undef, .int .i64 0, .int .u64 vt15, .int .u64 vt16, .int .i64 n2, .bool false, .tuple #[.int .u64 vt15, .int .u64 vt16], .int .u64 x1, .int .i64 n2, .int .u64 (u64 (n2)), .tuple #[.int .u64 vt15, .int .u64 vt16], .int .u64 vt15, .int .u64 vt16, undef, undef], []⟩) (by kernel_rfl) ?_
    refine wpList_nil ?_
    refine hK14 _ _ ?_
    refine wp_seq_k (fun K22 hK23 => ?_)
    refine wp_region_lit ?_
    refine seqS3 (a' := ⟨#[.int .u64 x1, .int .i64 n2, undef, undef, .int .i64 (w64 (vt15)), .int .u64 vt15, .int .u64 vt16, .int .i64 n2, .bool false, .tuple #[.int .u64 vt15, .int .u64 vt16], .int .u64 x1, .int .i64 n2, .int .u64 (u64 (n2)), .tuple #[.int .u64 vt15, .int .u64 vt16], .int .u64 vt15, .int .u64 vt16, .int .u64 vt15, .int .i64 (w64 (vt15))], []⟩) (by kernel_rfl) ?_
    refine wpList_nil ?_
    refine hK23 _ _ ?_
    refine wp_ret ?_
    refine hret _ _ ?_
    refine ends_still (v := Value.int .i64 (w64 (vt15))) (by kernel_rfl) (by kernel_rfl) ?_
    injection h with h
    subst h
    exact ⟨f18, rfl, L19, HS21⟩

end Go.Sp.X8
