import Derived.Test.YtaddopcbneggiaaProg
import Derived.Test.YtaddopcbneggiaaSpTwo
import Derived.Test.YtaddopcbneggiaaFZ5
import Derived.Test.YtaddopcbneggiaaKZ5n0
namespace Go.Sp.Z5
open Go Go.Sp Go.Proofs
set_option linter.unusedVariables false
attribute [local irreducible] wpList AnyL Code.wp Calls Does
set_option maxRecDepth 100000 in
set_option maxHeartbeats 4000000 in
theorem bits_Len64.calls (k : Nat)  (x1 : Int) {t w : World} {f : FM} {H : List Seg} (HS : St t w f (H)) (r1 : Int) (h : bits_Len64 k x1 = some r1) :
    Calls Try.prog 68 #[.int .u64 x1] w (fun e w' => ∃ (g : FM), e = .returned (Value.int .i64 r1) ∧ FM.le f g ∧ St t w' g (H)) := by
  unfold bits_Len64 at h
  refine enter Try.func68 rfl (tm := #[.int .u64 x1, undef, undef, undef, undef, undef, undef, undef, undef, undef, undef, undef, undef, undef, undef, undef, undef, undef, undef, undef, undef, undef, undef, undef, undef]) (by kernel_rfl) ?_
  intro B hret hnor hnp
  refine wp_seq_k (fun K2 hK3 => ?_)
  refine wp_region_lit ?_
  refine seqS1 (a' := ⟨#[.int .u64 x1, undef, .int .i64 0, undef, undef, undef, undef, undef, undef, undef, undef, undef, undef, undef, undef, undef, undef, undef, undef, undef, undef, undef, undef, undef, undef], []⟩) (by kernel_rfl) ?_
  refine wpList_nil ?_
  refine hK3 _ _ ?_
  refine wp_seq_k (fun K4 hK5 => ?_)
  refine wp_seq_k (fun K6 hK7 => ?_)
  refine wp_region_lit ?_
  refine seqS2 (a' := ⟨#[.int .u64 x1, undef, .int .i64 0, .int .u64 x1, .bool (decide (x1 ≥ 4294967296)), undef, undef, undef, undef, undef, undef, undef, undef, undef, undef, undef, undef, undef, undef, undef, undef, undef, undef, undef, undef], []⟩) (by kernel_rfl) ?_
  refine wpList_nil ?_
  refine hK7 _ _ ?_
  have hq_ := bind_some h; clear h; obtain ⟨v8, hv19, h⟩ := hq_
  have J20 : ∀ (f12 : FM) (x17 : Int) (n18 : Int) (j16 : Nat → Value) (W14 : World) (a_ : Act), FM.le f f12 → some ((x17, n18)) = some v8 → St t W14 f12 (H) → a_ = ⟨#[.int .u64 x17, undef, .int .i64 n18, .int .u64 x1, (j16 0), (j16 1), (j16 2), undef, undef, undef, undef, undef, undef, undef, undef, undef, undef, undef, undef, undef, undef, undef, undef, undef, undef], []⟩ → K4 a_ W14 := by
    intro f12 x17 n18 j16 W14 a_ L13 hj21 HS15  hfr_; subst hfr_
    injection hj21 with hj21; subst hj21; try dsimp only at h
    refine hK5 _ _ ?_
    refine wp_seq_k (fun K22 hK23 => ?_)
    refine wp_seq_k (fun K24 hK25 => ?_)
    refine wp_region_lit ?_
    refine seqS2 (a' := ⟨#[.int .u64 x17, undef, .int .i64 n18, .int .u64 x1, (j16 0), (j16 1), (j16 2), .int .u64 x17, .bool (decide (x17 ≥ 65536)), undef, undef, undef, undef, undef, undef, undef, undef, undef, undef, undef, undef, undef, undef, undef, undef], []⟩) (by kernel_rfl) ?_
    refine wpList_nil ?_
    refine hK25 _ _ ?_
    have hq_ := bind_some h; clear h; obtain ⟨v26, hv37, h⟩ := hq_
    have J38 : ∀ (f30 : FM) (x35 : Int) (n36 : Int) (j34 : Nat → Value) (W32 : World) (a_ : Act), FM.le f12 f30 → some ((x35, n36)) = some v26 → St t W32 f30 (H) → a_ = ⟨#[.int .u64 x35, undef, .int .i64 n36, .int .u64 x1, (j16 0), (j16 1), (j16 2), .int .u64 x17, (j34 0), (j34 1), (j34 2), (j34 3), (j34 4), undef, undef, undef, undef, undef, undef, undef, undef, undef, undef, undef, undef], []⟩ → K22 a_ W32 := by
      intro f30 x35 n36 j34 W32 a_ L31 hj39 HS33  hfr_; subst hfr_
      injection hj39 with hj39; subst hj39; try dsimp only at h
      refine hK23 _ _ ?_
      refine wp_seq_k (fun K40 hK41 => ?_)
      refine wp_seq_k (fun K42 hK43 => ?_)
      refine wp_region_lit ?_
      refine seqS2 (a' := ⟨#[.int .u64 x35, undef, .int .i64 n36, .int .u64 x1, (j16 0), (j16 1), (j16 2), .int .u64 x17, (j34 0), (j34 1), (j34 2), (j34 3), (j34 4), .int .u64 x35, .bool (decide (x35 ≥ 256)), undef, undef, undef, undef, undef, undef, undef, undef, undef, undef], []⟩) (by kernel_rfl) ?_
      refine wpList_nil ?_
      refine hK43 _ _ ?_
      have hq_ := ite_some h; clear h; rcases hq_ with ⟨c45, h⟩ | ⟨c45, h⟩
      · have c45 : x35 ≥ 256 := c45
        refine wpRwI 14 (x := (decide (x35 ≥ 256))) (v := true) (by kernel_rfl) (decide_eq_true c45) ?_
        refine condT (by kernel_rfl) ?_
        refine wp_seq_k (fun K46 hK47 => ?_)
        refine wp_region_lit ?_
        refine seqS3 (a' := ⟨#[.int .u64 (shr x35 8), undef, .int .i64 n36, .int .u64 x1, (j16 0), (j16 1), (j16 2), .int .u64 x17, (j34 0), (j34 1), (j34 2), (j34 3), (j34 4), .int .u64 x35, .bool true, .int .u64 x35, .int .u64 (shr x35 8), undef, undef, undef, undef, undef, undef, undef, undef], []⟩) (by kernel_rfl) ?_
        refine wpList_nil ?_
        refine hK47 _ _ ?_
        refine wp_region_lit ?_
        refine seqS3 (a' := ⟨#[.int .u64 (shr x35 8), undef, .int .i64 (w64 (n36 + 8)), .int .u64 x1, (j16 0), (j16 1), (j16 2), .int .u64 x17, (j34 0), (j34 1), (j34 2), (j34 3), (j34 4), .int .u64 x35, .bool true, .int .u64 x35, .int .u64 (shr x35 8), .int .i64 n36, .int .i64 (w64 (n36 + 8)), undef, undef, undef, undef, undef, undef], []⟩) (by kernel_rfl) ?_
        refine wpList_nil ?_
        refine hK41 _ _ ?_
        refine wp_seq_k (fun K48 hK49 => ?_)
        refine wp_region_lit ?_
        have hq_ := guard_some h; clear h; obtain ⟨c50, h⟩ := hq_
        have c50 : 0 ≤ (u8 (shr x35 8)) := c50
        have hq_ := guard_some h; clear h; obtain ⟨c51, h⟩ := hq_
        have c51 : (u8 (shr x35 8)) < (str0.size : Int) := c51
        refine seqL3 (by kernel_rfl) ?_
        refine seqK rfl (does_run (run_byte rfl Try.underlying9 (by kernel_rfl : _ = Value.string str0) (by kernel_rfl : _ = Value.int .u8 (u8 (shr x35 8))) c50 c51 W32) ?_)
        refine seqS3 (a' := ⟨#[.int .u64 (shr x35 8), undef, .int .i64 (w64 ((w64 (n36 + 8)) + (w64 ((bt str0 (u8 (shr x35 8))))))), .int .u64 x1, (j16 0), (j16 1), (j16 2), .int .u64 x17, (j34 0), (j34 1), (j34 2), (j34 3), (j34 4), .int .u64 x35, .bool true, .int .u64 x35, .int .u64 (shr x35 8), .int .i64 n36, .int .i64 (w64 (n36 + 8)), .int .i64 (w64 (n36 + 8)), .int .u64 (shr x35 8), .int .u8 (u8 (shr x35 8)), .int .u8 (bt str0 (u8 (shr x35 8))), .int .i64 (w64 ((bt str0 (u8 (shr x35 8))))), .int .i64 (w64 ((w64 (n36 + 8)) + (w64 ((bt str0 (u8 (shr x35 8)))))))], []⟩) (by kernel_rfl) ?_
        refine wpList_nil ?_
        refine hK49 _ _ ?_
        refine wp_ret ?_
        refine hret _ _ ?_
        refine ends_still (v := Value.int .i64 (w64 ((w64 (n36 + 8)) + (w64 ((bt str0 (u8 (shr x35 8)))))))) (by kernel_rfl) (by kernel_rfl) ?_
        injection h with h
        subst h
        exact ⟨f30, rfl, (L13.trans L31), HS33⟩
      · have c45 : ¬ (x35 ≥ 256) := c45
        refine wpRwI 14 (x := (decide (x35 ≥ 256))) (v := false) (by kernel_rfl) (decide_eq_false c45) ?_
        refine condF (by kernel_rfl) ?_
        refine wp_skip ?_
        refine hK41 _ _ ?_
        refine wp_seq_k (fun K52 hK53 => ?_)
        refine wp_region_lit ?_
        have hq_ := guard_some h; clear h; obtain ⟨c54, h⟩ := hq_
        have c54 : 0 ≤ (u8 (x35)) := c54
        have hq_ := guard_some h; clear h; obtain ⟨c55, h⟩ := hq_
        have c55 : (u8 (x35)) < (str0.size : Int) := c55
        refine seqL3 (by kernel_rfl) ?_
        refine seqK rfl (does_run (run_byte rfl Try.underlying9 (by kernel_rfl : _ = Value.string str0) (by kernel_rfl : _ = Value.int .u8 (u8 (x35))) c54 c55 W32) ?_)
        refine seqS3 (a' := ⟨#[.int .u64 x35, undef, .int .i64 (w64 (n36 + (w64 ((bt str0 (u8 (x35))))))), .int .u64 x1, (j16 0), (j16 1), (j16 2), .int .u64 x17, (j34 0), (j34 1), (j34 2), (j34 3), (j34 4), .int .u64 x35, .bool false, undef, undef, undef, undef, .int .i64 n36, .int .u64 x35, .int .u8 (u8 (x35)), .int .u8 (bt str0 (u8 (x35))), .int .i64 (w64 ((bt str0 (u8 (x35))))), .int .i64 (w64 (n36 + (w64 ((bt str0 (u8 (x35)))))))], []⟩) (by kernel_rfl) ?_
        refine wpList_nil ?_
        refine hK53 _ _ ?_
        refine wp_ret ?_
        refine hret _ _ ?_
        refine ends_still (v := Value.int .i64 (w64 (n36 + (w64 ((bt str0 (u8 (x35)))))))) (by kernel_rfl) (by kernel_rfl) ?_
        injection h with h
        subst h
        exact ⟨f30, rfl, (L13.trans L31), HS33⟩
    clear h; have h := hv37; clear hv37
    have hq_ := ite_some h; clear h; rcases hq_ with ⟨c27, h⟩ | ⟨c27, h⟩
    · have c27 : x17 ≥ 65536 := c27
      refine wpRwI 8 (x := (decide (x17 ≥ 65536))) (v := true) (by kernel_rfl) (decide_eq_true c27) ?_
      refine condT (by kernel_rfl) ?_
      refine wp_seq_k (fun K28 hK29 => ?_)
      refine wp_region_lit ?_
      refine seqS3 (a' := ⟨#[.int .u64 (shr x17 16), undef, .int .i64 n18, .int .u64 x1, (j16 0), (j16 1), (j16 2), .int .u64 x17, .bool true, .int .u64 x17, .int .u64 (shr x17 16), undef, undef, undef, undef, undef, undef, undef, undef, undef, undef, undef, undef, undef, undef], []⟩) (by kernel_rfl) ?_
      refine wpList_nil ?_
      refine hK29 _ _ ?_
      refine wp_region_lit ?_
      refine seqS3 (a' := ⟨#[.int .u64 (shr x17 16), undef, .int .i64 (w64 (n18 + 16)), .int .u64 x1, (j16 0), (j16 1), (j16 2), .int .u64 x17, .bool true, .int .u64 x17, .int .u64 (shr x17 16), .int .i64 n18, .int .i64 (w64 (n18 + 16)), undef, undef, undef, undef, undef, undef, undef, undef, undef, undef, undef, undef], []⟩) (by kernel_rfl) ?_
      refine wpList_nil ?_
      exact J38 f12 (shr x17 16) (w64 (n18 + 16)) (fun i_ => [Value.bool true, Value.int .u64 x17, Value.int .u64 (shr x17 16), Value.int .i64 n18, Value.int .i64 (w64 (n18 + 16))].getD i_ undef) W14 _ (FM.le.refl _) h HS15 (by kernel_rfl)
    · have c27 : ¬ (x17 ≥ 65536) := c27
      refine wpRwI 8 (x := (decide (x17 ≥ 65536))) (v := false) (by kernel_rfl) (decide_eq_false c27) ?_
      refine condF (by kernel_rfl) ?_
      refine wp_skip ?_
      exact J38 f12 x17 n18 (fun i_ => [Value.bool false, undef, undef, undef, undef].getD i_ undef) W14 _ (FM.le.refl _) h HS15 (by kernel_rfl)
  clear h; have h := hv19; clear hv19
  have hq_ := ite_some h; clear h; rcases hq_ with ⟨c9, h⟩ | ⟨c9, h⟩
  · have c9 : x1 ≥ 4294967296 := c9
    refine wpRwI 4 (x := (decide (x1 ≥ 4294967296))) (v := true) (by kernel_rfl) (decide_eq_true c9) ?_
    refine condT (by kernel_rfl) ?_
    refine wp_seq_k (fun K10 hK11 => ?_)
    refine wp_region_lit ?_
    refine seqS3 (a' := ⟨#[.int .u64 (shr x1 32), undef, .int .i64 0, .int .u64 x1, .bool true, .int .u64 x1, .int .u64 (shr x1 32), undef, undef, undef, undef, undef, undef, undef, undef, undef, undef, undef, undef, undef, undef, undef, undef, undef, undef], []⟩) (by kernel_rfl) ?_
    refine wpList_nil ?_
    refine hK11 _ _ ?_
    refine wp_region_lit ?_
    refine seqS1 (a' := ⟨#[.int .u64 (shr x1 32), undef, .int .i64 32, .int .u64 x1, .bool true, .int .u64 x1, .int .u64 (shr x1 32), undef, undef, undef, undef, undef, undef, undef, undef, undef, undef, undef, undef, undef, undef, undef, undef, undef, undef], []⟩) (by kernel_rfl) ?_
    refine wpList_nil ?_
    exact J20 f (shr x1 32) 32 (fun i_ => [Value.bool true, Value.int .u64 x1, Value.int .u64 (shr x1 32)].getD i_ undef) w _ (FM.le.refl _) h HS (by kernel_rfl)
  · have c9 : ¬ (x1 ≥ 4294967296) := c9
    refine wpRwI 4 (x := (decide (x1 ≥ 4294967296))) (v := false) (by kernel_rfl) (decide_eq_false c9) ?_
    refine condF (by kernel_rfl) ?_
    refine wp_skip ?_
    exact J20 f x1 0 (fun i_ => [Value.bool false, undef, undef].getD i_ undef) w _ (FM.le.refl _) h HS (by kernel_rfl)

set_option maxRecDepth 100000 in
set_option maxHeartbeats 4000000 in
theorem bits_LeadingZeros64.calls (k : Nat)  (x1 : Int) {t w : World} {f : FM} {H : List Seg} (HS : St t w f (H)) (r1 : Int) (h : bits_LeadingZeros64 k x1 = some r1) :
    Calls Try.prog 64 #[.int .u64 x1] w (fun e w' => ∃ (g : FM), e = .returned (Value.int .i64 r1) ∧ FM.le f g ∧ St t w' g (H)) := by
  unfold bits_LeadingZeros64 at h
  refine enter Try.func64 rfl (tm := #[.int .u64 x1, undef, undef, undef, undef, undef]) (by kernel_rfl) ?_
  intro B hret hnor hnp
  refine wp_seq_k (fun K2 hK3 => ?_)
  refine wp_region_lit ?_
  refine seqS1 (a' := ⟨#[.int .u64 x1, undef, .int .i64 0, undef, undef, undef], []⟩) (by kernel_rfl) ?_
  refine wpList_nil ?_
  refine hK3 _ _ ?_
  refine wp_seq_k (fun K4 hK5 => ?_)
  refine wp_region_lit ?_
  have hq_ := bind_some h; clear h; obtain ⟨vt6, hc7, h⟩ := hq_
  refine seqL1 (by kernel_rfl) ?_
  refine seqK rfl (does_call (f := 68) (args := #[.int .u64 x1]) (by kernel_rfl) (bits_Len64.calls k x1 HS vt6 hc7) ?_)
  rintro _ W10 ⟨f8, rfl, L9, HS11⟩
  refine ⟨_, rfl, ?_⟩
  refine seqS2 (a' := ⟨#[.int .u64 x1, undef, .int .i64 (w64 (64 - vt6)), .int .u64 x1, .int .i64 vt6, .int .i64 (w64 (64 - vt6))], []⟩) (by kernel_rfl) ?_
  refine wpList_nil ?_
  refine hK5 _ _ ?_
  refine wp_ret ?_
  refine hret _ _ ?_
  refine ends_still (v := Value.int .i64 (w64 (64 - vt6))) (by kernel_rfl) (by kernel_rfl) ?_
  injection h with h
  subst h
  exact ⟨f8, rfl, L9, HS11⟩

end Go.Sp.Z5
