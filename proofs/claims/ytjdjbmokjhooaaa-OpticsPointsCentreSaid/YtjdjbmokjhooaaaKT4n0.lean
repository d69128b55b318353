import Derived.Test.YtjdjbmokjhooaaaProg
import Derived.Test.YtjdjbmokjhooaaaSpTwo
import Derived.Test.YtjdjbmokjhooaaaFT4
namespace Go.Sp.T4
open Go Go.Sp Go.Proofs
set_option linter.unusedVariables false
attribute [local irreducible] wpList AnyL Code.wp Calls Does
def ty_Point : Ty S_Point where
  sz := 2
  rep := fun f cs x => cs = [.int .i64 x.X, .int .i64 x.Y]
  pos := by decide
  len := by rintro f cs x rfl; rfl
  mono := by rintro f g cs x hl rfl; exact rfl
  one := by
    rintro f cs x rfl v hv
    simp only [List.mem_cons, List.not_mem_nil, or_false] at hv
    rcases hv with rfl | rfl <;> rfl
def ty_Spot : Ty S_Spot where
  sz := 3
  rep := fun f cs x => cs = [.int .i64 x.X, .int .i64 x.Y, .int .i64 x.Light]
  pos := by decide
  len := by rintro f cs x rfl; rfl
  mono := by rintro f g cs x hl rfl; exact rfl
  one := by
    rintro f cs x rfl v hv
    simp only [List.mem_cons, List.not_mem_nil, or_false] at hv
    rcases hv with rfl | rfl | rfl <;> rfl
def ty_Part : Ty S_Part where
  sz := 2
  rep := fun f cs x => cs = [.int .i64 x.Cell, .int .i64 x.Weight]
  pos := by decide
  len := by rintro f cs x rfl; rfl
  mono := by rintro f g cs x hl rfl; exact rfl
  one := by
    rintro f cs x rfl v hv
    simp only [List.mem_cons, List.not_mem_nil, or_false] at hv
    rcases hv with rfl | rfl <;> rfl
def ty_Frac : Ty S_Frac where
  sz := 2
  rep := fun f cs x => cs = [.int .i64 x.Num, .int .i64 x.Den]
  pos := by decide
  len := by rintro f cs x rfl; rfl
  mono := by rintro f g cs x hl rfl; exact rfl
  one := by
    rintro f cs x rfl v hv
    simp only [List.mem_cons, List.not_mem_nil, or_false] at hv
    rcases hv with rfl | rfl <;> rfl
def ty_Wide : Ty S_Wide where
  sz := 2
  rep := fun f cs x => cs = [.int .i64 x.Hi, .int .u64 x.Lo]
  pos := by decide
  len := by rintro f cs x rfl; rfl
  mono := by rintro f g cs x hl rfl; exact rfl
  one := by
    rintro f cs x rfl v hv
    simp only [List.mem_cons, List.not_mem_nil, or_false] at hv
    rcases hv with rfl | rfl <;> rfl
theorem inf32 : Inf Try.prog 32 2 16 (.agg #[.int .i64 0, .int .i64 0]) := .mk' (by kernel_rfl) rfl
theorem inf45 : Inf Try.prog 45 3 24 (.agg #[.int .i64 0, .int .i64 0, .int .i64 0]) := .mk' (by kernel_rfl) rfl

set_option maxRecDepth 100000 in
set_option maxHeartbeats 4000000 in
theorem spymake_Below.calls (k : Nat)  (x1 : Int) (n2 : Int) {t w : World} {f : FM} {H : List Seg} (HS : St t w f (H)) (r1 : Int) (h : spymake_Below k x1 n2 = some r1) :
    Calls Try.prog 10 #[.int .i64 x1, .int .i64 n2] w (fun e w' => ∃ (g : FM), e = .returned (Value.int .i64 r1) ∧ FM.le f g ∧ St t w' g (H)) := by
  unfold spymake_Below at h
  refine enter Try.func10 rfl (tm := #[.int .i64 x1, .int .i64 n2, undef, undef, undef, undef, undef, undef, undef, undef, undef, undef, undef, undef, undef, undef]) (by kernel_rfl) ?_
  intro B hret hnor hnp
  refine wp_seq_k (fun K3 hK4 => ?_)
  refine wp_region_lit ?_
  refine seqS1 (a' := ⟨#[.int .i64 x1, .int .i64 n2, undef, undef, .int .i64 0, undef, undef, undef, undef, undef, undef, undef, undef, undef, undef, undef], []⟩) (by kernel_rfl) ?_
  refine wpList_nil ?_
  refine hK4 _ _ ?_
  refine wp_seq_k (fun K5 hK6 => ?_)
  refine wp_seq_k (fun K7 hK8 => ?_)
  refine wp_region_lit ?_
  refine seqS2 (a' := ⟨#[.int .i64 x1, .int .i64 n2, undef, undef, .int .i64 0, .int .i64 n2, .bool (decide (n2 < 1)), undef, undef, undef, undef, undef, undef, undef, undef, undef], []⟩) (by kernel_rfl) ?_
  refine wpList_nil ?_
  refine hK8 _ _ ?_
  have hq_ := ite_some h; clear h; rcases hq_ with ⟨c10, h⟩ | ⟨c10, h⟩
  · have c10 : n2 < 1 := c10
    refine wpRwI 6 (x := (decide (n2 < 1))) (v := true) (by kernel_rfl) (decide_eq_true c10) ?_
    refine condT (by kernel_rfl) ?_
    refine wp_seq_k (fun K11 hK12 => ?_)
    refine wp_region_lit ?_
    refine seqS1 (a' := ⟨#[.int .i64 x1, .int .i64 n2, undef, undef, .int .i64 0, .int .i64 n2, .bool true, undef, undef, undef, undef, undef, undef, undef, undef, undef], []⟩) (by kernel_rfl) ?_
    refine wpList_nil ?_
    refine hK12 _ _ ?_
    refine wp_ret ?_
    refine hret _ _ ?_
    refine ends_still (v := Value.int .i64 0) (by kernel_rfl) (by kernel_rfl) ?_
    injection h with h
    subst h
    exact ⟨f, rfl, FM.le.refl _, HS⟩
  · have c10 : ¬ (n2 < 1) := c10
    refine wpRwI 6 (x := (decide (n2 < 1))) (v := false) (by kernel_rfl) (decide_eq_false c10) ?_
    refine condF (by kernel_rfl) ?_
    refine wp_skip ?_
    refine hK6 _ _ ?_
    refine wp_seq_k (fun K13 hK14 => ?_)
    refine wp_region_lit ?_
    have hq_ := guard_some h; clear h; obtain ⟨c15, h⟩ := hq_
    have c15 : ¬ (n2 = 0) := c15
    refine seqL2 (by kernel_rfl) ?_
    refine seqK rfl (does_run (run_rem rfl (by kernel_rfl : _ = Value.int .i64 x1) (by kernel_rfl : _ = Value.int .i64 n2) c15 w) ?_)
    refine seqS1 (a' := ⟨#[.int .i64 (Int.tmod x1 n2), .int .i64 n2, undef, undef, .int .i64 0, .int .i64 n2, .bool false, .int .i64 x1, .int .i64 n2, .int .i64 (Int.tmod x1 n2), undef, undef, undef, undef, undef, undef], []⟩) (by kernel_rfl) ?_
    refine wpList_nil ?_
    refine hK14 _ _ ?_
    refine wp_seq_k (fun K16 hK17 => ?_)
    refine wp_seq_k (fun K18 hK19 => ?_)
    refine wp_region_lit ?_
    refine seqS2 (a' := ⟨#[.int .i64 (Int.tmod x1 n2), .int .i64 n2, undef, undef, .int .i64 0, .int .i64 n2, .bool false, .int .i64 x1, .int .i64 n2, .int .i64 (Int.tmod x1 n2), .int .i64 (Int.tmod x1 n2), .bool (decide ((Int.tmod x1 n2) < 0)), undef, undef, undef, undef], []⟩) (by kernel_rfl) ?_
    refine wpList_nil ?_
    refine hK19 _ _ ?_
    have hq_ := ite_some h; clear h; rcases hq_ with ⟨c21, h⟩ | ⟨c21, h⟩
    · have c21 : (Int.tmod x1 n2) < 0 := c21
      refine wpRwI 11 (x := (decide ((Int.tmod x1 n2) < 0))) (v := true) (by kernel_rfl) (decide_eq_true c21) ?_
      refine condT (by kernel_rfl) ?_
      refine wp_region_lit ?_
      refine seqS4 (a' := ⟨#[.int .i64 (w64 ((Int.tmod x1 n2) + n2)), .int .i64 n2, undef, undef, .int .i64 0, .int .i64 n2, .bool false, .int .i64 x1, .int .i64 n2, .int .i64 (Int.tmod x1 n2), .int .i64 (Int.tmod x1 n2), .bool true, .int .i64 (Int.tmod x1 n2), .int .i64 n2, .int .i64 (w64 ((Int.tmod x1 n2) + n2)), undef], []⟩) (by kernel_rfl) ?_
      refine wpList_nil ?_
      refine hK17 _ _ ?_
      refine wp_seq_k (fun K22 hK23 => ?_)
      refine wp_region_lit ?_
      refine seqS2 (a' := ⟨#[.int .i64 (w64 ((Int.tmod x1 n2) + n2)), .int .i64 n2, undef, undef, .int .i64 (w64 ((Int.tmod x1 n2) + n2)), .int .i64 n2, .bool false, .int .i64 x1, .int .i64 n2, .int .i64 (Int.tmod x1 n2), .int .i64 (Int.tmod x1 n2), .bool true, .int .i64 (Int.tmod x1 n2), .int .i64 n2, .int .i64 (w64 ((Int.tmod x1 n2) + n2)), .int .i64 (w64 ((Int.tmod x1 n2) + n2))], []⟩) (by kernel_rfl) ?_
      refine wpList_nil ?_
      refine hK23 _ _ ?_
      refine wp_ret ?_
      refine hret _ _ ?_
      refine ends_still (v := Value.int .i64 (w64 ((Int.tmod x1 n2) + n2))) (by kernel_rfl) (by kernel_rfl) ?_
      injection h with h
      subst h
      exact ⟨f, rfl, FM.le.refl _, HS⟩
    · have c21 : ¬ ((Int.tmod x1 n2) < 0) := c21
      refine wpRwI 11 (x := (decide ((Int.tmod x1 n2) < 0))) (v := false) (by kernel_rfl) (decide_eq_false c21) ?_
      refine condF (by kernel_rfl) ?_
      refine wp_skip ?_
      refine hK17 _ _ ?_
      refine wp_seq_k (fun K24 hK25 => ?_)
      refine wp_region_lit ?_
      refine seqS2 (a' := ⟨#[.int .i64 (Int.tmod x1 n2), .int .i64 n2, undef, undef, .int .i64 (Int.tmod x1 n2), .int .i64 n2, .bool false, .int .i64 x1, .int .i64 n2, .int .i64 (Int.tmod x1 n2), .int .i64 (Int.tmod x1 n2), .bool false, undef, undef, undef, .int .i64 (Int.tmod x1 n2)], []⟩) (by kernel_rfl) ?_
      refine wpList_nil ?_
      refine hK25 _ _ ?_
      refine wp_ret ?_
      refine hret _ _ ?_
      refine ends_still (v := Value.int .i64 (Int.tmod x1 n2)) (by kernel_rfl) (by kernel_rfl) ?_
      injection h with h
      subst h
      exact ⟨f, rfl, FM.le.refl _, HS⟩

set_option maxRecDepth 100000 in
set_option maxHeartbeats 4000000 in
theorem spykeep3_half.calls (k : Nat)  (n1 : Int) {t w : World} {f : FM} {H : List Seg} (HS : St t w f (H)) (r1 : Int) (h : spykeep3_half k n1 = some r1) :
    Calls Try.prog 8 #[.int .i64 n1] w (fun e w' => ∃ (g : FM), e = .returned (Value.int .i64 r1) ∧ FM.le f g ∧ St t w' g (H)) := by
  unfold spykeep3_half at h
  refine enter Try.func8 rfl (tm := #[.int .i64 n1, undef, undef, undef, undef, undef]) (by kernel_rfl) ?_
  intro B hret hnor hnp
  refine wp_seq_k (fun K2 hK3 => ?_)
  refine wp_region_lit ?_
  refine seqS1 (a' := ⟨#[.int .i64 n1, undef, .int .i64 0, undef, undef, undef], []⟩) (by kernel_rfl) ?_
  refine wpList_nil ?_
  refine hK3 _ _ ?_
  refine wp_seq_k (fun K4 hK5 => ?_)
  refine wp_region_lit ?_
  have hq_ := bind_some h; clear h; obtain ⟨vt6, hc7, h⟩ := hq_
  refine seqL1 (by kernel_rfl) ?_
  refine seqK rfl (does_call (f := 10) (args := #[.int .i64 n1, .int .i64 3]) (by kernel_rfl) (spymake_Below.calls k n1 3 HS vt6 hc7) ?_)
  rintro _ W10 ⟨f8, rfl, L9, HS11⟩
  refine ⟨_, rfl, ?_⟩
  have hq_ := guard_some h; clear h; obtain ⟨c12, h⟩ := hq_
  have c12 : ¬ (vt6 < 0) := c12
  refine seqK rfl (does_run (run_shl rfl (by kernel_rfl : _ = Value.int .i64 1) (by kernel_rfl : _ = Value.int .i64 vt6) c12 W10) ?_)
  refine seqS1 (a' := ⟨#[.int .i64 n1, undef, .int .i64 (w64 (1 * 2 ^ (min (vt6).toNat 64))), .int .i64 n1, .int .i64 vt6, .int .i64 (w64 (1 * 2 ^ (min (vt6).toNat 64)))], []⟩) (by kernel_rfl) ?_
  refine wpList_nil ?_
  refine hK5 _ _ ?_
  refine wp_ret ?_
  refine hret _ _ ?_
  refine ends_still (v := Value.int .i64 (w64 (1 * 2 ^ (min (vt6).toNat 64)))) (by kernel_rfl) (by kernel_rfl) ?_
  injection h with h
  subst h
  exact ⟨f8, rfl, L9, HS11⟩

set_option maxRecDepth 100000 in
set_option maxHeartbeats 4000000 in
theorem optics_Reach.calls (k : Nat)  (half1 : Int) {t w : World} {f : FM} {H : List Seg} (HS : St t w f (H)) (r1 : Int) (h : optics_Reach k half1 = some r1) :
    Calls Try.prog 23 #[.int .i64 half1] w (fun e w' => ∃ (g : FM), e = .returned (Value.int .i64 r1) ∧ FM.le f g ∧ St t w' g (H)) := by
  unfold optics_Reach at h
  refine enter Try.func23 rfl (tm := #[.int .i64 half1, undef, undef, undef, undef, undef, undef, undef, undef, undef, undef, undef, undef, undef]) (by kernel_rfl) ?_
  intro B hret hnor hnp
  refine wp_seq_k (fun K2 hK3 => ?_)
  refine wp_region_lit ?_
  refine seqS1 (a' := ⟨#[.int .i64 half1, undef, .int .i64 0, undef, undef, undef, undef, undef, undef, undef, undef, undef, undef, undef], []⟩) (by kernel_rfl) ?_
  refine wpList_nil ?_
  refine hK3 _ _ ?_
  refine wp_seq_k (fun K4 hK5 => ?_)
  refine wp_seq_k (fun K6 hK7 => ?_)
  refine wp_region_lit ?_
  refine seqS3 (a' := ⟨#[.int .i64 half1, undef, .int .i64 0, .int .i64 half1, .bool (half1 != 1), .bool (half1 != 1), undef, undef, undef, undef, undef, undef, undef, undef], []⟩) (by kernel_rfl) ?_
  have hq_ := ite_some h; clear h; rcases hq_ with ⟨c8, h⟩ | ⟨c8, h⟩
  · have c8 : half1 ≠ 1 := c8
    refine seqRwI 4 (x := (half1 != 1)) (v := true) (by kernel_rfl) (bne_iff_ne.mpr c8) ?_
    refine seqRwI 5 (x := (half1 != 1)) (v := true) (by kernel_rfl) (bne_iff_ne.mpr c8) ?_
    refine seqS4 (a' := ⟨#[.int .i64 half1, undef, .int .i64 0, .int .i64 half1, .bool true, .bool true, .int .i64 half1, .bool (half1 != 2), .bool (half1 != 2), .bool (half1 != 2), undef, undef, undef, undef], []⟩) (by kernel_rfl) ?_
    have hq_ := ite_some h; clear h; rcases hq_ with ⟨c9, h⟩ | ⟨c9, h⟩
    · have c9 : half1 ≠ 2 := c9
      refine seqRwI 7 (x := (half1 != 2)) (v := true) (by kernel_rfl) (bne_iff_ne.mpr c9) ?_
      refine seqRwI 8 (x := (half1 != 2)) (v := true) (by kernel_rfl) (bne_iff_ne.mpr c9) ?_
      refine seqRwI 9 (x := (half1 != 2)) (v := true) (by kernel_rfl) (bne_iff_ne.mpr c9) ?_
      refine seqS3 (a' := ⟨#[.int .i64 half1, undef, .int .i64 0, .int .i64 half1, .bool true, .bool true, .int .i64 half1, .bool true, .bool true, .bool true, .int .i64 half1, .bool (half1 != 4), .bool (half1 != 4), undef], []⟩) (by kernel_rfl) ?_
      refine wpList_nil ?_
      refine hK7 _ _ ?_
      have hq_ := ite_some h; clear h; rcases hq_ with ⟨c11, h⟩ | ⟨c11, h⟩
      · have c11 : half1 ≠ 4 := c11
        refine wpRwI 11 (x := (half1 != 4)) (v := true) (by kernel_rfl) (bne_iff_ne.mpr c11) ?_
        refine wpRwI 12 (x := (half1 != 4)) (v := true) (by kernel_rfl) (bne_iff_ne.mpr c11) ?_
        refine condT (by kernel_rfl) ?_
        refine wp_seq_k (fun K12 hK13 => ?_)
        refine wp_region_lit ?_
        refine seqS1 (a' := ⟨#[.int .i64 half1, undef, .int .i64 0, .int .i64 half1, .bool true, .bool true, .int .i64 half1, .bool true, .bool true, .bool true, .int .i64 half1, .bool true, .bool true, undef], []⟩) (by kernel_rfl) ?_
        refine wpList_nil ?_
        refine hK13 _ _ ?_
        refine wp_ret ?_
        refine hret _ _ ?_
        refine ends_still (v := Value.int .i64 0) (by kernel_rfl) (by kernel_rfl) ?_
        injection h with h
        subst h
        exact ⟨f, rfl, FM.le.refl _, HS⟩
      · have c11 : ¬ (half1 ≠ 4) := c11
        refine wpRwI 11 (x := (half1 != 4)) (v := false) (by kernel_rfl) (bne_eq_false_iff_eq.mpr (Decidable.of_not_not c11)) ?_
        refine wpRwI 12 (x := (half1 != 4)) (v := false) (by kernel_rfl) (bne_eq_false_iff_eq.mpr (Decidable.of_not_not c11)) ?_
        refine condF (by kernel_rfl) ?_
        refine wp_skip ?_
        refine hK5 _ _ ?_
        refine wp_seq_k (fun K14 hK15 => ?_)
        refine wp_region_lit ?_
        refine seqS2 (a' := ⟨#[.int .i64 half1, undef, .int .i64 half1, .int .i64 half1, .bool true, .bool true, .int .i64 half1, .bool true, .bool true, .bool true, .int .i64 half1, .bool false, .bool false, .int .i64 half1], []⟩) (by kernel_rfl) ?_
        refine wpList_nil ?_
        refine hK15 _ _ ?_
        refine wp_ret ?_
        refine hret _ _ ?_
        refine ends_still (v := Value.int .i64 half1) (by kernel_rfl) (by kernel_rfl) ?_
        injection h with h
        subst h
        exact ⟨f, rfl, FM.le.refl _, HS⟩
    · have c9 : ¬ (half1 ≠ 2) := c9
      refine seqRwI 7 (x := (half1 != 2)) (v := false) (by kernel_rfl) (bne_eq_false_iff_eq.mpr (Decidable.of_not_not c9)) ?_
      refine seqRwI 8 (x := (half1 != 2)) (v := false) (by kernel_rfl) (bne_eq_false_iff_eq.mpr (Decidable.of_not_not c9)) ?_
      refine seqRwI 9 (x := (half1 != 2)) (v := false) (by kernel_rfl) (bne_eq_false_iff_eq.mpr (Decidable.of_not_not c9)) ?_
      refine seqS3 (a' := ⟨#[.int .i64 half1, undef, .int .i64 0, .int .i64 half1, .bool true, .bool true, .int .i64 half1, .bool false, .bool false, .bool false, undef, undef, .bool false, undef], []⟩) (by kernel_rfl) ?_
      refine wpList_nil ?_
      refine hK7 _ _ ?_
      refine condF (by kernel_rfl) ?_
      refine wp_skip ?_
      refine hK5 _ _ ?_
      refine wp_seq_k (fun K16 hK17 => ?_)
      refine wp_region_lit ?_
      refine seqS2 (a' := ⟨#[.int .i64 half1, undef, .int .i64 half1, .int .i64 half1, .bool true, .bool true, .int .i64 half1, .bool false, .bool false, .bool false, undef, undef, .bool false, .int .i64 half1], []⟩) (by kernel_rfl) ?_
      refine wpList_nil ?_
      refine hK17 _ _ ?_
      refine wp_ret ?_
      refine hret _ _ ?_
      refine ends_still (v := Value.int .i64 half1) (by kernel_rfl) (by kernel_rfl) ?_
      injection h with h
      subst h
      exact ⟨f, rfl, FM.le.refl _, HS⟩
  · have c8 : ¬ (half1 ≠ 1) := c8
    refine seqRwI 4 (x := (half1 != 1)) (v := false) (by kernel_rfl) (bne_eq_false_iff_eq.mpr (Decidable.of_not_not c8)) ?_
    refine seqRwI 5 (x := (half1 != 1)) (v := false) (by kernel_rfl) (bne_eq_false_iff_eq.mpr (Decidable.of_not_not c8)) ?_
    refine seqS7 (a' := ⟨#[.int .i64 half1, undef, .int .i64 0, .int .i64 half1, .bool false, .bool false, undef, undef, .bool false, .bool false, undef, undef, .bool false, undef], []⟩) (by kernel_rfl) ?_
    refine wpList_nil ?_
    refine hK7 _ _ ?_
    refine condF (by kernel_rfl) ?_
    refine wp_skip ?_
    refine hK5 _ _ ?_
    refine wp_seq_k (fun K18 hK19 => ?_)
    refine wp_region_lit ?_
    refine seqS2 (a' := ⟨#[.int .i64 half1, undef, .int .i64 half1, .int .i64 half1, .bool false, .bool false, undef, undef, .bool false, .bool false, undef, undef, .bool false, .int .i64 half1], []⟩) (by kernel_rfl) ?_
    refine wpList_nil ?_
    refine hK19 _ _ ?_
    refine wp_ret ?_
    refine hret _ _ ?_
    refine ends_still (v := Value.int .i64 half1) (by kernel_rfl) (by kernel_rfl) ?_
    injection h with h
    subst h
    exact ⟨f, rfl, FM.le.refl _, HS⟩

set_option maxRecDepth 100000 in
set_option maxHeartbeats 4000000 in
theorem num_FloorDiv.calls (k : Nat)  (a1 : Int) (b2 : Int) {t w : World} {f : FM} {H : List Seg} (HS : St t w f (H)) (r1 : Int) (h : num_FloorDiv k a1 b2 = some r1) :
    Calls Try.prog 24 #[.int .i64 a1, .int .i64 b2] w (fun e w' => ∃ (g : FM), e = .returned (Value.int .i64 r1) ∧ FM.le f g ∧ St t w' g (H)) := by
  unfold num_FloorDiv at h
  refine enter Try.func24 rfl (tm := #[.int .i64 a1, .int .i64 b2, undef, undef, undef, undef, undef, undef, undef, undef, undef, undef, undef, undef, undef, undef, undef, undef]) (by kernel_rfl) ?_
  intro B hret hnor hnp
  refine wp_seq_k (fun K3 hK4 => ?_)
  refine wp_region_lit ?_
  refine seqS1 (a' := ⟨#[.int .i64 a1, .int .i64 b2, undef, undef, .int .i64 0, undef, undef, undef, undef, undef, undef, undef, undef, undef, undef, undef, undef, undef], []⟩) (by kernel_rfl) ?_
  refine wpList_nil ?_
  refine hK4 _ _ ?_
  refine wp_seq_k (fun K5 hK6 => ?_)
  refine wp_seq_k (fun K7 hK8 => ?_)
  refine wp_region_lit ?_
  refine seqS2 (a' := ⟨#[.int .i64 a1, .int .i64 b2, undef, undef, .int .i64 0, undef, .int .i64 b2, .bool (decide (b2 < 1)), undef, undef, undef, undef, undef, undef, undef, undef, undef, undef], []⟩) (by kernel_rfl) ?_
  refine wpList_nil ?_
  refine hK8 _ _ ?_
  have hq_ := ite_some h; clear h; rcases hq_ with ⟨c10, h⟩ | ⟨c10, h⟩
  · have c10 : b2 < 1 := c10
    refine wpRwI 7 (x := (decide (b2 < 1))) (v := true) (by kernel_rfl) (decide_eq_true c10) ?_
    refine condT (by kernel_rfl) ?_
    refine wp_seq_k (fun K11 hK12 => ?_)
    refine wp_region_lit ?_
    refine seqS1 (a' := ⟨#[.int .i64 a1, .int .i64 b2, undef, undef, .int .i64 0, undef, .int .i64 b2, .bool true, undef, undef, undef, undef, undef, undef, undef, undef, undef, undef], []⟩) (by kernel_rfl) ?_
    refine wpList_nil ?_
    refine hK12 _ _ ?_
    refine wp_ret ?_
    refine hret _ _ ?_
    refine ends_still (v := Value.int .i64 0) (by kernel_rfl) (by kernel_rfl) ?_
    injection h with h
    subst h
    exact ⟨f, rfl, FM.le.refl _, HS⟩
  · have c10 : ¬ (b2 < 1) := c10
    refine wpRwI 7 (x := (decide (b2 < 1))) (v := false) (by kernel_rfl) (decide_eq_false c10) ?_
    refine condF (by kernel_rfl) ?_
    refine wp_skip ?_
    refine hK6 _ _ ?_
    refine wp_seq_k (fun K13 hK14 => ?_)
    refine wp_region_lit ?_
    have hq_ := guard_some h; clear h; obtain ⟨c15, h⟩ := hq_
    have c15 : ¬ (b2 = 0) := c15
    refine seqL2 (by kernel_rfl) ?_
    refine seqK rfl (does_run (run_div rfl (by kernel_rfl : _ = Value.int .i64 a1) (by kernel_rfl : _ = Value.int .i64 b2) c15 w) ?_)
    refine seqS1 (a' := ⟨#[.int .i64 a1, .int .i64 b2, undef, undef, .int .i64 0, .int .i64 (w64 (Int.tdiv a1 b2)), .int .i64 b2, .bool false, .int .i64 a1, .int .i64 b2, .int .i64 (w64 (Int.tdiv a1 b2)), undef, undef, undef, undef, undef, undef, undef], []⟩) (by kernel_rfl) ?_
    refine wpList_nil ?_
    refine hK14 _ _ ?_
    refine wp_seq_k (fun K16 hK17 => ?_)
    refine wp_seq_k (fun K18 hK19 => ?_)
    refine wp_region_lit ?_
    refine seqL2 (by kernel_rfl) ?_
    refine seqK rfl (does_run (run_rem rfl (by kernel_rfl : _ = Value.int .i64 a1) (by kernel_rfl : _ = Value.int .i64 b2) c15 w) ?_)
    refine seqS1 (a' := ⟨#[.int .i64 a1, .int .i64 b2, undef, undef, .int .i64 0, .int .i64 (w64 (Int.tdiv a1 b2)), .int .i64 b2, .bool false, .int .i64 a1, .int .i64 b2, .int .i64 (w64 (Int.tdiv a1 b2)), .int .i64 a1, .int .i64 b2, .int .i64 (Int.tmod a1 b2), .bool (decide ((Int.tmod a1 b2) < 0)), undef, undef, undef], []⟩) (by kernel_rfl) ?_
    refine wpList_nil ?_
    refine hK19 _ _ ?_
    have hq_ := ite_some h; clear h; rcases hq_ with ⟨c21, h⟩ | ⟨c21, h⟩
    · have c21 : (Int.tmod a1 b2) < 0 := c21
      refine wpRwI 14 (x := (decide ((Int.tmod a1 b2) < 0))) (v := true) (by kernel_rfl) (decide_eq_true c21) ?_
      refine condT (by kernel_rfl) ?_
      refine wp_region_lit ?_
      refine seqS3 (a' := ⟨#[.int .i64 a1, .int .i64 b2, undef, undef, .int .i64 0, .int .i64 (w64 ((w64 (Int.tdiv a1 b2)) - 1)), .int .i64 b2, .bool false, .int .i64 a1, .int .i64 b2, .int .i64 (w64 (Int.tdiv a1 b2)), .int .i64 a1, .int .i64 b2, .int .i64 (Int.tmod a1 b2), .bool true, .int .i64 (w64 (Int.tdiv a1 b2)), .int .i64 (w64 ((w64 (Int.tdiv a1 b2)) - 1)), undef], []⟩) (by kernel_rfl) ?_
      refine wpList_nil ?_
      refine hK17 _ _ ?_
      refine wp_seq_k (fun K22 hK23 => ?_)
      refine wp_region_lit ?_
      refine seqS2 (a' := ⟨#[.int .i64 a1, .int .i64 b2, undef, undef, .int .i64 (w64 ((w64 (Int.tdiv a1 b2)) - 1)), .int .i64 (w64 ((w64 (Int.tdiv a1 b2)) - 1)), .int .i64 b2, .bool false, .int .i64 a1, .int .i64 b2, .int .i64 (w64 (Int.tdiv a1 b2)), .int .i64 a1, .int .i64 b2, .int .i64 (Int.tmod a1 b2), .bool true, .int .i64 (w64 (Int.tdiv a1 b2)), .int .i64 (w64 ((w64 (Int.tdiv a1 b2)) - 1)), .int .i64 (w64 ((w64 (Int.tdiv a1 b2)) - 1))], []⟩) (by kernel_rfl) ?_
      refine wpList_nil ?_
      refine hK23 _ _ ?_
      refine wp_ret ?_
      refine hret _ _ ?_
      refine ends_still (v := Value.int .i64 (w64 ((w64 (Int.tdiv a1 b2)) - 1))) (by kernel_rfl) (by kernel_rfl) ?_
      injection h with h
      subst h
      exact ⟨f, rfl, FM.le.refl _, HS⟩
    · have c21 : ¬ ((Int.tmod a1 b2) < 0) := c21
      refine wpRwI 14 (x := (decide ((Int.tmod a1 b2) < 0))) (v := false) (by kernel_rfl) (decide_eq_false c21) ?_
      refine condF (by kernel_rfl) ?_
      refine wp_skip ?_
      refine hK17 _ _ ?_
      refine wp_seq_k (fun K24 hK25 => ?_)
      refine wp_region_lit ?_
      refine seqS2 (a' := ⟨#[.int .i64 a1, .int .i64 b2, undef, undef, .int .i64 (w64 (Int.tdiv a1 b2)), .int .i64 (w64 (Int.tdiv a1 b2)), .int .i64 b2, .bool false, .int .i64 a1, .int .i64 b2, .int .i64 (w64 (Int.tdiv a1 b2)), .int .i64 a1, .int .i64 b2, .int .i64 (Int.tmod a1 b2), .bool false, undef, undef, .int .i64 (w64 (Int.tdiv a1 b2))], []⟩) (by kernel_rfl) ?_
      refine wpList_nil ?_
      refine hK25 _ _ ?_
      refine wp_ret ?_
      refine hret _ _ ?_
      refine ends_still (v := Value.int .i64 (w64 (Int.tdiv a1 b2))) (by kernel_rfl) (by kernel_rfl) ?_
      injection h with h
      subst h
      exact ⟨f, rfl, FM.le.refl _, HS⟩

set_option maxRecDepth 100000 in
set_option maxHeartbeats 4000000 in
theorem optics_before.calls (k : Nat)  (d1 : Int) (n2 : Int) {t w : World} {f : FM} {H : List Seg} (HS : St t w f (H)) (r1 : Int) (h : optics_before k d1 n2 = some r1) :
    Calls Try.prog 25 #[.int .i64 d1, .int .i64 n2] w (fun e w' => ∃ (g : FM), e = .returned (Value.int .i64 r1) ∧ FM.le f g ∧ St t w' g (H)) := by
  unfold optics_before at h
  refine enter Try.func25 rfl (tm := #[.int .i64 d1, .int .i64 n2, undef, undef, undef, undef, undef, undef, undef, undef, undef, undef, undef, undef, undef, undef, undef, undef, undef, undef, undef, undef, undef, undef, undef, undef, undef, undef, undef, undef, undef, undef, undef, undef, undef, undef, undef, undef, undef, undef, undef, undef]) (by kernel_rfl) ?_
  intro B hret hnor hnp
  refine wp_seq_k (fun K3 hK4 => ?_)
  refine wp_region_lit ?_
  refine seqS1 (a' := ⟨#[.int .i64 d1, .int .i64 n2, undef, undef, .int .i64 0, undef, undef, undef, undef, undef, undef, undef, undef, undef, undef, undef, undef, undef, undef, undef, undef, undef, undef, undef, undef, undef, undef, undef, undef, undef, undef, undef, undef, undef, undef, undef, undef, undef, undef, undef, undef, undef], []⟩) (by kernel_rfl) ?_
  refine wpList_nil ?_
  refine hK4 _ _ ?_
  refine wp_seq_k (fun K5 hK6 => ?_)
  refine blockK (fun B7 hx8 hn9 hr10 ho11 hp12 => ?_)
  refine wp_seq_k (fun K14 hK15 => ?_)
  refine wp_region_lit ?_
  refine seqS5 (a' := ⟨#[.int .i64 d1, .int .i64 n2, undef, undef, .int .i64 0, .bool (decide (d1 ≤ (w64 (0 - n2)))), .int .i64 d1, .int .i64 n2, .int .i64 (w64 (0 - n2)), .bool (decide (d1 ≤ (w64 (0 - n2)))), undef, undef, undef, undef, undef, undef, undef, undef, undef, undef, undef, undef, undef, undef, undef, undef, undef, undef, undef, undef, undef, undef, undef, undef, undef, undef, undef, undef, undef, undef, undef, undef], []⟩) (by kernel_rfl) ?_
  refine wpList_nil ?_
  refine hK15 _ _ ?_
  have hq_ := ite_some h; clear h; rcases hq_ with ⟨c17, h⟩ | ⟨c17, h⟩
  · have c17 : d1 ≤ (w64 (0 - n2)) := c17
    refine wpRwI 5 (x := (decide (d1 ≤ (w64 (0 - n2))))) (v := true) (by kernel_rfl) (decide_eq_true c17) ?_
    refine wpRwI 9 (x := (decide (d1 ≤ (w64 (0 - n2))))) (v := true) (by kernel_rfl) (decide_eq_true c17) ?_
    refine condT (by kernel_rfl) ?_
    refine wp_seq_k (fun K18 hK19 => ?_)
    refine wp_region_lit ?_
    refine seqS1 (a' := ⟨#[.int .i64 d1, .int .i64 n2, undef, undef, .int .i64 0, .bool true, .int .i64 d1, .int .i64 n2, .int .i64 (w64 (0 - n2)), .bool true, undef, undef, undef, undef, undef, undef, undef, undef, undef, undef, undef, undef, undef, undef, undef, undef, undef, undef, undef, undef, undef, undef, undef, undef, undef, undef, undef, undef, undef, undef, undef, undef], []⟩) (by kernel_rfl) ?_
    refine wpList_nil ?_
    refine hK19 _ _ ?_
    refine wp_ret ?_
    refine hr10 _ _ ?_
    refine hret _ _ ?_
    refine ends_still (v := Value.int .i64 0) (by kernel_rfl) (by kernel_rfl) ?_
    injection h with h
    subst h
    exact ⟨f, rfl, FM.le.refl _, HS⟩
  · have c17 : ¬ (d1 ≤ (w64 (0 - n2))) := c17
    refine wpRwI 5 (x := (decide (d1 ≤ (w64 (0 - n2))))) (v := false) (by kernel_rfl) (decide_eq_false c17) ?_
    refine wpRwI 9 (x := (decide (d1 ≤ (w64 (0 - n2))))) (v := false) (by kernel_rfl) (decide_eq_false c17) ?_
    refine condF (by kernel_rfl) ?_
    refine wp_seq_k (fun K20 hK21 => ?_)
    refine wp_region_lit ?_
    refine seqS3 (a' := ⟨#[.int .i64 d1, .int .i64 n2, undef, undef, .int .i64 0, .bool false, .int .i64 d1, .int .i64 n2, .int .i64 (w64 (0 - n2)), .bool false, .bool (decide (d1 ≤ 0)), .int .i64 d1, .bool (decide (d1 ≤ 0)), undef, undef, undef, undef, undef, undef, undef, undef, undef, undef, undef, undef, undef, undef, undef, undef, undef, undef, undef, undef, undef, undef, undef, undef, undef, undef, undef, undef, undef], []⟩) (by kernel_rfl) ?_
    refine wpList_nil ?_
    refine hK21 _ _ ?_
    have hq_ := ite_some h; clear h; rcases hq_ with ⟨c23, h⟩ | ⟨c23, h⟩
    · have c23 : d1 ≤ 0 := c23
      refine wpRwI 10 (x := (decide (d1 ≤ 0))) (v := true) (by kernel_rfl) (decide_eq_true c23) ?_
      refine wpRwI 12 (x := (decide (d1 ≤ 0))) (v := true) (by kernel_rfl) (decide_eq_true c23) ?_
      refine condT (by kernel_rfl) ?_
      refine wp_seq_k (fun K24 hK25 => ?_)
      refine wp_region_lit ?_
      refine seqS10 (a' := ⟨#[.int .i64 d1, .int .i64 n2, undef, undef, .int .i64 (w64 (Int.tdiv (w64 ((w64 (n2 + d1)) * (w64 ((w64 (n2 + d1)) - 1)))) 2)), .bool false, .int .i64 d1, .int .i64 n2, .int .i64 (w64 (0 - n2)), .bool false, .bool true, .int .i64 d1, .bool true, .int .i64 n2, .int .i64 d1, .int .i64 (w64 (n2 + d1)), .int .i64 n2, .int .i64 d1, .int .i64 (w64 (n2 + d1)), .int .i64 (w64 ((w64 (n2 + d1)) - 1)), .int .i64 (w64 ((w64 (n2 + d1)) * (w64 ((w64 (n2 + d1)) - 1)))), .int .i64 (w64 (Int.tdiv (w64 ((w64 (n2 + d1)) * (w64 ((w64 (n2 + d1)) - 1)))) 2)), undef, undef, undef, undef, undef, undef, undef, undef, undef, undef, undef, undef, undef, undef, undef, undef, undef, undef, undef, undef], []⟩) (by kernel_rfl) ?_
      refine wpList_nil ?_
      refine hK25 _ _ ?_
      refine wp_ret ?_
      refine hr10 _ _ ?_
      refine hret _ _ ?_
      refine ends_still (v := Value.int .i64 (w64 (Int.tdiv (w64 ((w64 (n2 + d1)) * (w64 ((w64 (n2 + d1)) - 1)))) 2))) (by kernel_rfl) (by kernel_rfl) ?_
      injection h with h
      subst h
      exact ⟨f, rfl, FM.le.refl _, HS⟩
    · have c23 : ¬ (d1 ≤ 0) := c23
      refine wpRwI 10 (x := (decide (d1 ≤ 0))) (v := false) (by kernel_rfl) (decide_eq_false c23) ?_
      refine wpRwI 12 (x := (decide (d1 ≤ 0))) (v := false) (by kernel_rfl) (decide_eq_false c23) ?_
      refine condF (by kernel_rfl) ?_
      refine wp_seq_k (fun K26 hK27 => ?_)
      refine wp_region_lit ?_
      refine seqS4 (a' := ⟨#[.int .i64 d1, .int .i64 n2, undef, undef, .int .i64 0, .bool false, .int .i64 d1, .int .i64 n2, .int .i64 (w64 (0 - n2)), .bool false, .bool false, .int .i64 d1, .bool false, undef, undef, undef, undef, undef, undef, undef, undef, undef, .bool (decide (d1 < n2)), .int .i64 d1, .int .i64 n2, .bool (decide (d1 < n2)), undef, undef, undef, undef, undef, undef, undef, undef, undef, undef, undef, undef, undef, undef, undef, undef], []⟩) (by kernel_rfl) ?_
      refine wpList_nil ?_
      refine hK27 _ _ ?_
      have hq_ := ite_some h; clear h; rcases hq_ with ⟨c29, h⟩ | ⟨c29, h⟩
      · have c29 : d1 < n2 := c29
        refine wpRwI 22 (x := (decide (d1 < n2))) (v := true) (by kernel_rfl) (decide_eq_true c29) ?_
        refine wpRwI 25 (x := (decide (d1 < n2))) (v := true) (by kernel_rfl) (decide_eq_true c29) ?_
        refine condT (by kernel_rfl) ?_
        refine wp_seq_k (fun K30 hK31 => ?_)
        refine wp_region_lit ?_
        refine seqS14 (a' := ⟨#[.int .i64 d1, .int .i64 n2, undef, undef, .int .i64 (w64 ((w64 (n2 * n2)) - (w64 (Int.tdiv (w64 ((w64 (n2 - d1)) * (w64 ((w64 (n2 - d1)) + 1)))) 2)))), .bool false, .int .i64 d1, .int .i64 n2, .int .i64 (w64 (0 - n2)), .bool false, .bool false, .int .i64 d1, .bool false, undef, undef, undef, undef, undef, undef, undef, undef, undef, .bool true, .int .i64 d1, .int .i64 n2, .bool true, .int .i64 n2, .int .i64 n2, .int .i64 (w64 (n2 * n2)), .int .i64 n2, .int .i64 d1, .int .i64 (w64 (n2 - d1)), .int .i64 n2, .int .i64 d1, .int .i64 (w64 (n2 - d1)), .int .i64 (w64 ((w64 (n2 - d1)) + 1)), .int .i64 (w64 ((w64 (n2 - d1)) * (w64 ((w64 (n2 - d1)) + 1)))), .int .i64 (w64 (Int.tdiv (w64 ((w64 (n2 - d1)) * (w64 ((w64 (n2 - d1)) + 1)))) 2)), .int .i64 (w64 ((w64 (n2 * n2)) - (w64 (Int.tdiv (w64 ((w64 (n2 - d1)) * (w64 ((w64 (n2 - d1)) + 1)))) 2)))), undef, undef, undef], []⟩) (by kernel_rfl) ?_
        refine wpList_nil ?_
        refine hK31 _ _ ?_
        refine wp_ret ?_
        refine hr10 _ _ ?_
        refine hret _ _ ?_
        refine ends_still (v := Value.int .i64 (w64 ((w64 (n2 * n2)) - (w64 (Int.tdiv (w64 ((w64 (n2 - d1)) * (w64 ((w64 (n2 - d1)) + 1)))) 2))))) (by kernel_rfl) (by kernel_rfl) ?_
        injection h with h
        subst h
        exact ⟨f, rfl, FM.le.refl _, HS⟩
      · have c29 : ¬ (d1 < n2) := c29
        refine wpRwI 22 (x := (decide (d1 < n2))) (v := false) (by kernel_rfl) (decide_eq_false c29) ?_
        refine wpRwI 25 (x := (decide (d1 < n2))) (v := false) (by kernel_rfl) (decide_eq_false c29) ?_
        refine condF (by kernel_rfl) ?_
        refine wp_skip ?_
        refine hn9 _ _ ?_
        refine hK6 _ _ ?_
        refine wp_seq_k (fun K32 hK33 => ?_)
        refine wp_region_lit ?_
        refine seqS4 (a' := ⟨#[.int .i64 d1, .int .i64 n2, undef, undef, .int .i64 (w64 (n2 * n2)), .bool false, .int .i64 d1, .int .i64 n2, .int .i64 (w64 (0 - n2)), .bool false, .bool false, .int .i64 d1, .bool false, undef, undef, undef, undef, undef, undef, undef, undef, undef, .bool false, .int .i64 d1, .int .i64 n2, .bool false, undef, undef, undef, undef, undef, undef, undef, undef, undef, undef, undef, undef, undef, .int .i64 n2, .int .i64 n2, .int .i64 (w64 (n2 * n2))], []⟩) (by kernel_rfl) ?_
        refine wpList_nil ?_
        refine hK33 _ _ ?_
        refine wp_ret ?_
        refine hret _ _ ?_
        refine ends_still (v := Value.int .i64 (w64 (n2 * n2))) (by kernel_rfl) (by kernel_rfl) ?_
        injection h with h
        subst h
        exact ⟨f, rfl, FM.le.refl _, HS⟩

set_option maxRecDepth 100000 in
set_option maxHeartbeats 4000000 in
theorem optics_Axis.calls (k : Nat)  (vat1 : Int) (half2 : Int) {t w : World} {f : FM} {H : List Seg} (HS : St t w f (H)) (r1 : List S_Part) (r2 : Int) (h : optics_Axis k vat1 half2 = some (r1, r2)) :
    Calls Try.prog 7 #[.int .i64 vat1, .int .i64 half2] w (fun e w' => ∃ (g : FM) (A158 : Option Addr) (c159 : Nat) (s160 : Seg), e = .returned (Value.tuple #[.slice A158 r1.length c159, .int .i64 r2]) ∧ FM.le f g ∧ St t w' g (s160 :: H) ∧ Own ty_Part 32 g A158 c159 s160 r1) := by
  unfold optics_Axis at h
  refine enter Try.func7 rfl (tm := #[.int .i64 vat1, .int .i64 half2, undef, undef, undef, undef, undef, undef, undef, undef, undef, undef, undef, undef, undef, undef, undef, undef, undef, undef, undef, undef, undef, undef, undef, undef, undef, undef, undef, undef, undef, undef, undef, undef, undef, undef, undef, undef, undef, undef, undef, undef, undef, undef, undef, undef, undef, undef, undef, undef, undef, undef, undef, undef, undef, undef, undef, undef, undef, undef, undef, undef, undef, undef, undef, undef, undef, undef, undef, undef]) (by kernel_rfl) ?_
  intro B hret hnor hnp
  refine wp_seq_k (fun K3 hK4 => ?_)
  refine wp_region_lit ?_
  refine seqS2 (a' := ⟨#[.int .i64 vat1, .int .i64 half2, undef, undef, .slice none 0 0, .int .i64 0, undef, undef, undef, undef, undef, undef, undef, undef, undef, undef, undef, undef, undef, undef, undef, undef, undef, undef, undef, undef, undef, undef, undef, undef, undef, undef, undef, undef, undef, undef, undef, undef, undef, undef, undef, undef, undef, undef, undef, undef, undef, undef, undef, undef, undef, undef, undef, undef, undef, undef, undef, undef, undef, undef, undef, undef, undef, undef, undef, undef, undef, undef, undef, undef], []⟩) (by kernel_rfl) ?_
  refine wpList_nil ?_
  refine hK4 _ _ ?_
  refine wp_seq_k (fun K5 hK6 => ?_)
  refine blockK (fun B7 hx8 hn9 hr10 ho11 hp12 => ?_)
  refine wp_seq_k (fun K14 hK15 => ?_)
  refine wp_region_lit ?_
  refine seqS3 (a' := ⟨#[.int .i64 vat1, .int .i64 half2, undef, undef, .slice none 0 0, .int .i64 0, undef, undef, undef, undef, undef, undef, undef, undef, undef, .int .i64 vat1, .bool (decide (vat1 < (-65536))), .bool (decide (vat1 < (-65536))), undef, undef, undef, undef, undef, undef, undef, undef, undef, undef, undef, undef, undef, undef, undef, undef, undef, undef, undef, undef, undef, undef, undef, undef, undef, undef, undef, undef, undef, undef, undef, undef, undef, undef, undef, undef, undef, undef, undef, undef, undef, undef, undef, undef, undef, undef, undef, undef, undef, undef, undef, undef], []⟩) (by kernel_rfl) ?_
  have hq_ := ite_some h; clear h; rcases hq_ with ⟨c16, h⟩ | ⟨c16, h⟩
  · have c16 : vat1 < (-65536) := c16
    refine seqRwI 16 (x := (decide (vat1 < (-65536)))) (v := true) (by kernel_rfl) (decide_eq_true c16) ?_
    refine seqRwI 17 (x := (decide (vat1 < (-65536)))) (v := true) (by kernel_rfl) (decide_eq_true c16) ?_
    refine seqS4 (a' := ⟨#[.int .i64 vat1, .int .i64 half2, undef, undef, .slice none 0 0, .int .i64 0, undef, undef, undef, undef, undef, undef, undef, undef, .bool true, .int .i64 vat1, .bool true, .bool true, undef, undef, .bool true, undef, undef, undef, undef, undef, undef, undef, undef, undef, undef, undef, undef, undef, undef, undef, undef, undef, undef, undef, undef, undef, undef, undef, undef, undef, undef, undef, undef, undef, undef, undef, undef, undef, undef, undef, undef, undef, undef, undef, undef, undef, undef, undef, undef, undef, undef, undef, undef, undef], []⟩) (by kernel_rfl) ?_
    refine wpList_nil ?_
    refine hK15 _ _ ?_
    refine condT (by kernel_rfl) ?_
    refine wp_seq_k (fun K17 hK18 => ?_)
    refine wp_region_lit ?_
    refine seqS2 (a' := ⟨#[.int .i64 vat1, .int .i64 half2, undef, undef, .slice none 0 0, .int .i64 4, undef, undef, undef, undef, undef, undef, undef, undef, .bool true, .int .i64 vat1, .bool true, .bool true, undef, undef, .bool true, undef, undef, undef, undef, undef, undef, undef, undef, undef, undef, undef, undef, undef, undef, undef, undef, undef, undef, undef, undef, undef, undef, undef, undef, undef, undef, undef, undef, undef, undef, undef, undef, undef, undef, undef, undef, undef, undef, undef, undef, undef, undef, undef, undef, undef, undef, undef, undef, undef], []⟩) (by kernel_rfl) ?_
    refine wpList_nil ?_
    refine hK18 _ _ ?_
    refine wp_ret ?_
    refine hr10 _ _ ?_
    refine hret _ _ ?_
    have HS152 := HS.cons_nil
    refine ends_still (v := Value.tuple #[.slice none 0 0, .int .i64 4]) (by kernel_rfl) (by kernel_rfl) ?_
    injection h with h
    injection h with h0_ h
    subst h0_ h
    exact ⟨f, none, 0, [], rfl, FM.le.refl _, HS152, (Own.nil _)⟩
  · have c16 : ¬ (vat1 < (-65536)) := c16
    refine seqRwI 16 (x := (decide (vat1 < (-65536)))) (v := false) (by kernel_rfl) (decide_eq_false c16) ?_
    refine seqRwI 17 (x := (decide (vat1 < (-65536)))) (v := false) (by kernel_rfl) (decide_eq_false c16) ?_
    refine seqS4 (a' := ⟨#[.int .i64 vat1, .int .i64 half2, undef, undef, .slice none 0 0, .int .i64 0, undef, undef, undef, undef, undef, undef, undef, undef, .bool (decide (vat1 > 65536)), .int .i64 vat1, .bool false, .bool false, .int .i64 vat1, .bool (decide (vat1 > 65536)), .bool (decide (vat1 > 65536)), undef, undef, undef, undef, undef, undef, undef, undef, undef, undef, undef, undef, undef, undef, undef, undef, undef, undef, undef, undef, undef, undef, undef, undef, undef, undef, undef, undef, undef, undef, undef, undef, undef, undef, undef, undef, undef, undef, undef, undef, undef, undef, undef, undef, undef, undef, undef, undef, undef], []⟩) (by kernel_rfl) ?_
    refine wpList_nil ?_
    refine hK15 _ _ ?_
    have hq_ := ite_some h; clear h; rcases hq_ with ⟨c20, h⟩ | ⟨c20, h⟩
    · have c20 : vat1 > 65536 := c20
      refine wpRwI 14 (x := (decide (vat1 > 65536))) (v := true) (by kernel_rfl) (decide_eq_true c20) ?_
      refine wpRwI 19 (x := (decide (vat1 > 65536))) (v := true) (by kernel_rfl) (decide_eq_true c20) ?_
      refine wpRwI 20 (x := (decide (vat1 > 65536))) (v := true) (by kernel_rfl) (decide_eq_true c20) ?_
      refine condT (by kernel_rfl) ?_
      refine wp_seq_k (fun K21 hK22 => ?_)
      refine wp_region_lit ?_
      refine seqS2 (a' := ⟨#[.int .i64 vat1, .int .i64 half2, undef, undef, .slice none 0 0, .int .i64 4, undef, undef, undef, undef, undef, undef, undef, undef, .bool true, .int .i64 vat1, .bool false, .bool false, .int .i64 vat1, .bool true, .bool true, undef, undef, undef, undef, undef, undef, undef, undef, undef, undef, undef, undef, undef, undef, undef, undef, undef, undef, undef, undef, undef, undef, undef, undef, undef, undef, undef, undef, undef, undef, undef, undef, undef, undef, undef, undef, undef, undef, undef, undef, undef, undef, undef, undef, undef, undef, undef, undef, undef], []⟩) (by kernel_rfl) ?_
      refine wpList_nil ?_
      refine hK22 _ _ ?_
      refine wp_ret ?_
      refine hr10 _ _ ?_
      refine hret _ _ ?_
      have HS154 := HS.cons_nil
      refine ends_still (v := Value.tuple #[.slice none 0 0, .int .i64 4]) (by kernel_rfl) (by kernel_rfl) ?_
      injection h with h
      injection h with h0_ h
      subst h0_ h
      exact ⟨f, none, 0, [], rfl, FM.le.refl _, HS154, (Own.nil _)⟩
    · have c20 : ¬ (vat1 > 65536) := c20
      refine wpRwI 14 (x := (decide (vat1 > 65536))) (v := false) (by kernel_rfl) (decide_eq_false c20) ?_
      refine wpRwI 19 (x := (decide (vat1 > 65536))) (v := false) (by kernel_rfl) (decide_eq_false c20) ?_
      refine wpRwI 20 (x := (decide (vat1 > 65536))) (v := false) (by kernel_rfl) (decide_eq_false c20) ?_
      refine condF (by kernel_rfl) ?_
      refine wp_seq_k (fun K23 hK24 => ?_)
      refine wp_region_lit ?_
      have hq_ := bind_some h; clear h; obtain ⟨vt25, hc26, h⟩ := hq_
      refine seqL1 (by kernel_rfl) ?_
      refine seqK rfl (does_call (f := 23) (args := #[.int .i64 half2]) (by kernel_rfl) (optics_Reach.calls k half2 HS vt25 hc26) ?_)
      rintro _ W29 ⟨f27, rfl, L28, HS30⟩
      refine ⟨_, rfl, ?_⟩
      refine seqS2 (a' := ⟨#[.int .i64 vat1, .int .i64 half2, undef, undef, .slice none 0 0, .int .i64 0, undef, undef, undef, undef, undef, undef, undef, undef, .bool false, .int .i64 vat1, .bool false, .bool false, .int .i64 vat1, .bool false, .bool false, .bool (vt25 == 0), .int .i64 half2, .int .i64 vt25, .bool (vt25 == 0), undef, undef, undef, undef, undef, undef, undef, undef, undef, undef, undef, undef, undef, undef, undef, undef, undef, undef, undef, undef, undef, undef, undef, undef, undef, undef, undef, undef, undef, undef, undef, undef, undef, undef, undef, undef, undef, undef, undef, undef, undef, undef, undef, undef, undef], []⟩) (by kernel_rfl) ?_
      refine wpList_nil ?_
      refine hK24 _ _ ?_
      have hq_ := ite_some h; clear h; rcases hq_ with ⟨c32, h⟩ | ⟨c32, h⟩
      · have c32 : vt25 = 0 := c32
        refine wpRwI 21 (x := (vt25 == 0)) (v := true) (by kernel_rfl) (beq_iff_eq.mpr c32) ?_
        refine wpRwI 24 (x := (vt25 == 0)) (v := true) (by kernel_rfl) (beq_iff_eq.mpr c32) ?_
        refine condT (by kernel_rfl) ?_
        refine wp_seq_k (fun K33 hK34 => ?_)
        refine wp_region_lit ?_
        refine seqS2 (a' := ⟨#[.int .i64 vat1, .int .i64 half2, undef, undef, .slice none 0 0, .int .i64 1, undef, undef, undef, undef, undef, undef, undef, undef, .bool false, .int .i64 vat1, .bool false, .bool false, .int .i64 vat1, .bool false, .bool false, .bool true, .int .i64 half2, .int .i64 vt25, .bool true, undef, undef, undef, undef, undef, undef, undef, undef, undef, undef, undef, undef, undef, undef, undef, undef, undef, undef, undef, undef, undef, undef, undef, undef, undef, undef, undef, undef, undef, undef, undef, undef, undef, undef, undef, undef, undef, undef, undef, undef, undef, undef, undef, undef, undef], []⟩) (by kernel_rfl) ?_
        refine wpList_nil ?_
        refine hK34 _ _ ?_
        refine wp_ret ?_
        refine hr10 _ _ ?_
        refine hret _ _ ?_
        have HS156 := HS30.cons_nil
        refine ends_still (v := Value.tuple #[.slice none 0 0, .int .i64 1]) (by kernel_rfl) (by kernel_rfl) ?_
        injection h with h
        injection h with h0_ h
        subst h0_ h
        exact ⟨f27, none, 0, [], rfl, L28, HS156, (Own.nil _)⟩
      · have c32 : ¬ (vt25 = 0) := c32
        refine wpRwI 21 (x := (vt25 == 0)) (v := false) (by kernel_rfl) (beq_eq_false_iff_ne.mpr c32) ?_
        refine wpRwI 24 (x := (vt25 == 0)) (v := false) (by kernel_rfl) (beq_eq_false_iff_ne.mpr c32) ?_
        refine condF (by kernel_rfl) ?_
        refine wp_skip ?_
        refine hn9 _ _ ?_
        refine hK6 _ _ ?_
        refine wp_seq_k (fun K35 hK36 => ?_)
        refine wp_region_lit ?_
        have hq_ := bind_some h; clear h; obtain ⟨vt37, hc38, h⟩ := hq_
        refine seqL1 (by kernel_rfl) ?_
        refine seqK rfl (does_call (f := 24) (args := #[.int .i64 vat1, .int .i64 16]) (by kernel_rfl) (num_FloorDiv.calls k vat1 16 HS30 vt37 hc38) ?_)
        rintro _ W41 ⟨f39, rfl, L40, HS42⟩
        refine ⟨_, rfl, ?_⟩
        refine seqS1 (a' := ⟨#[.int .i64 vat1, .int .i64 half2, undef, undef, .slice none 0 0, .int .i64 0, .int .i64 vt37, undef, undef, undef, undef, undef, undef, undef, .bool false, .int .i64 vat1, .bool false, .bool false, .int .i64 vat1, .bool false, .bool false, .bool false, .int .i64 half2, .int .i64 vt25, .bool false, .int .i64 vat1, .int .i64 vt37, undef, undef, undef, undef, undef, undef, undef, undef, undef, undef, undef, undef, undef, undef, undef, undef, undef, undef, undef, undef, undef, undef, undef, undef, undef, undef, undef, undef, undef, undef, undef, undef, undef, undef, undef, undef, undef, undef, undef, undef, undef, undef, undef], []⟩) (by kernel_rfl) ?_
        refine wpList_nil ?_
        refine hK36 _ _ ?_
        refine wp_seq_k (fun K43 hK44 => ?_)
        refine wp_region_lit ?_
        have hq_ := bind_some h; clear h; obtain ⟨vt45, hc46, h⟩ := hq_
        refine seqL1 (by kernel_rfl) ?_
        refine seqK rfl (does_call (f := 24) (args := #[.int .i64 vt37, .int .i64 16]) (by kernel_rfl) (num_FloorDiv.calls k vt37 16 HS42 vt45 hc46) ?_)
        rintro _ W49 ⟨f47, rfl, L48, HS50⟩
        refine ⟨_, rfl, ?_⟩
        refine seqS1 (a' := ⟨#[.int .i64 vat1, .int .i64 half2, undef, undef, .slice none 0 0, .int .i64 0, .int .i64 vt37, .int .i64 vt45, undef, undef, undef, undef, undef, undef, .bool false, .int .i64 vat1, .bool false, .bool false, .int .i64 vat1, .bool false, .bool false, .bool false, .int .i64 half2, .int .i64 vt25, .bool false, .int .i64 vat1, .int .i64 vt37, .int .i64 vt37, .int .i64 vt45, undef, undef, undef, undef, undef, undef, undef, undef, undef, undef, undef, undef, undef, undef, undef, undef, undef, undef, undef, undef, undef, undef, undef, undef, undef, undef, undef, undef, undef, undef, undef, undef, undef, undef, undef, undef, undef, undef, undef, undef, undef], []⟩) (by kernel_rfl) ?_
        refine wpList_nil ?_
        refine hK44 _ _ ?_
        refine wp_seq_k (fun K51 hK52 => ?_)
        refine heldG (S := Sg t f47 (H) []) (n := 8) (by kernel_rfl) rfl HS50 ?_
        intro W53 HS54
        have hq_ := guard_some h; clear h; obtain ⟨c55, h⟩ := hq_
        have c55 : ¬ ((w64 (half2 * half2)) = 0) := c55
        refine takeG [0, 1, 2, 3, 4] (n := 8) (fuel := 3) (l' := #[true, true, true, true, true, false, false, false]) (a' := ⟨#[.int .i64 vat1, .int .i64 half2, undef, undef, .slice none 0 0, .int .i64 0, .int .i64 vt37, .int .i64 vt45, undef, undef, undef, undef, undef, undef, .bool false, .int .i64 vat1, .bool false, .bool false, .int .i64 vat1, .bool false, .bool false, .bool false, .int .i64 half2, .int .i64 vt25, .bool false, .int .i64 vat1, .int .i64 vt37, .int .i64 vt37, .int .i64 vt45, .int .i64 half2, .int .i64 (w64 (16 * half2)), .int .i64 half2, .int .i64 half2, .int .i64 (w64 (half2 * half2)), undef, undef, undef, undef, undef, undef, undef, undef, undef, undef, undef, undef, undef, undef, undef, undef, undef, undef, undef, undef, undef, undef, undef, undef, undef, undef, undef, undef, undef, undef, undef, undef, undef, undef, undef, undef], []⟩) rfl (by kernel_rfl) (by kernel_rfl) (by kernel_rfl) hnp (Sg.g0 (Sx.of [] (FM.le.refl _) HS54)) ?_
        refine takeGQ 5 [] rfl (by kernel_rfl) (by kernel_rfl) (by kernel_rfl) (by kernel_rfl) (by kernel_rfl) (by kernel_rfl) hnp (Sg.g0 (Sx.of [] (FM.le.refl _) HS54)) (fun w_ hw_ => by obtain ⟨g_, hl_, hS_⟩ := hw_.st; exact run_div rfl (by kernel_rfl : _ = Value.int .i64 16) (by kernel_rfl : _ = Value.int .i64 (w64 (half2 * half2))) c55 w_) ?_
        refine takeG [6, 7] (n := 2) (fuel := 0) (l' := #[true, true, true, true, true, true, true, true]) (a' := ⟨#[.int .i64 vat1, .int .i64 half2, undef, undef, .slice none 0 0, .int .i64 0, .int .i64 vt37, .int .i64 vt45, .int .i64 (w64 (16 * half2)), .int .i64 (w64 (Int.tdiv 16 (w64 (half2 * half2)))), undef, undef, undef, undef, .bool false, .int .i64 vat1, .bool false, .bool false, .int .i64 vat1, .bool false, .bool false, .bool false, .int .i64 half2, .int .i64 vt25, .bool false, .int .i64 vat1, .int .i64 vt37, .int .i64 vt37, .int .i64 vt45, .int .i64 half2, .int .i64 (w64 (16 * half2)), .int .i64 half2, .int .i64 half2, .int .i64 (w64 (half2 * half2)), .int .i64 (w64 (Int.tdiv 16 (w64 (half2 * half2)))), undef, undef, undef, undef, undef, undef, undef, undef, undef, undef, undef, undef, undef, undef, undef, undef, undef, undef, undef, undef, undef, undef, undef, undef, undef, undef, undef, undef, undef, undef, undef, undef, undef, undef, undef], []⟩) rfl (by kernel_rfl) (by kernel_rfl) (by kernel_rfl) hnp (Sg.g0 (Sx.of [] (FM.le.refl _) HS54)) ?_
        refine doneG (by kernel_rfl) ?_ _
        refine hK52 _ _ ?_
        refine wp_seq_k (fun K56 hK57 => ?_)
        refine wp_region_lit ?_
        refine seqS1 (a' := ⟨#[.int .i64 vat1, .int .i64 half2, undef, undef, .slice none 0 0, .int .i64 0, .int .i64 vt37, .int .i64 vt45, .int .i64 (w64 (16 * half2)), .int .i64 (w64 (Int.tdiv 16 (w64 (half2 * half2)))), .slice none 0 0, undef, undef, undef, .bool false, .int .i64 vat1, .bool false, .bool false, .int .i64 vat1, .bool false, .bool false, .bool false, .int .i64 half2, .int .i64 vt25, .bool false, .int .i64 vat1, .int .i64 vt37, .int .i64 vt37, .int .i64 vt45, .int .i64 half2, .int .i64 (w64 (16 * half2)), .int .i64 half2, .int .i64 half2, .int .i64 (w64 (half2 * half2)), .int .i64 (w64 (Int.tdiv 16 (w64 (half2 * half2)))), undef, undef, undef, undef, undef, undef, undef, undef, undef, undef, undef, undef, undef, undef, undef, undef, undef, undef, undef, undef, undef, undef, undef, undef, undef, undef, undef, undef, undef, undef, undef, undef, undef, undef, undef], []⟩) (by kernel_rfl) ?_
        refine wpList_nil ?_
        refine hK57 _ _ ?_
        refine wp_seq_k (fun K58 hK59 => ?_)
        refine wp_seq_k (fun K60 hK61 => ?_)
        refine wp_region_lit ?_
        refine seqS5 (a' := ⟨#[.int .i64 vat1, .int .i64 half2, undef, undef, .slice none 0 0, .int .i64 0, .int .i64 vt37, .int .i64 vt45, .int .i64 (w64 (16 * half2)), .int .i64 (w64 (Int.tdiv 16 (w64 (half2 * half2)))), .slice none 0 0, .int .i64 (w64 ((w64 (vt45 - half2)) - 1)), undef, undef, .bool false, .int .i64 vat1, .bool false, .bool false, .int .i64 vat1, .bool false, .bool false, .bool false, .int .i64 half2, .int .i64 vt25, .bool false, .int .i64 vat1, .int .i64 vt37, .int .i64 vt37, .int .i64 vt45, .int .i64 half2, .int .i64 (w64 (16 * half2)), .int .i64 half2, .int .i64 half2, .int .i64 (w64 (half2 * half2)), .int .i64 (w64 (Int.tdiv 16 (w64 (half2 * half2)))), .int .i64 vt45, .int .i64 half2, .int .i64 (w64 (vt45 - half2)), .int .i64 (w64 ((w64 (vt45 - half2)) - 1)), undef, undef, undef, undef, undef, undef, undef, undef, undef, undef, undef, undef, undef, undef, undef, undef, undef, undef, undef, undef, undef, undef, undef, undef, undef, undef, undef, undef, undef, undef, undef], []⟩) (by kernel_rfl) ?_
        refine wpList_nil ?_
        refine hK61 _ _ ?_
        refine blockK (fun B62 hx63 hn64 hr65 ho66 hp67 => ?_)
        have hq_ := bind_some h; clear h; obtain ⟨o68, hv145, h⟩ := hq_
        have J146 : ∀ (f134 : FM) (A140 : Option Addr) (c141 : Nat) (s142 : Seg) (out139 : List S_Part) (j138 : Nat → Value) (W136 : World) (a_ : Act), FM.le f47 f134 → some (out139) = some o68 → St t W136 f134 (s142 :: H) → Own ty_Part 32 f134 A140 c141 s142 out139 → a_ = ⟨#[.int .i64 vat1, .int .i64 half2, undef, undef, .slice none 0 0, .int .i64 0, .int .i64 vt37, .int .i64 vt45, .int .i64 (w64 (16 * half2)), .int .i64 (w64 (Int.tdiv 16 (w64 (half2 * half2)))), .slice A140 out139.length c141, (j138 0), (j138 1), (j138 2), .bool false, .int .i64 vat1, .bool false, .bool false, .int .i64 vat1, .bool false, .bool false, .bool false, .int .i64 half2, .int .i64 vt25, .bool false, .int .i64 vat1, .int .i64 vt37, .int .i64 vt37, .int .i64 vt45, .int .i64 half2, .int .i64 (w64 (16 * half2)), .int .i64 half2, .int .i64 half2, .int .i64 (w64 (half2 * half2)), .int .i64 (w64 (Int.tdiv 16 (w64 (half2 * half2)))), .int .i64 vt45, .int .i64 half2, .int .i64 (w64 (vt45 - half2)), .int .i64 (w64 ((w64 (vt45 - half2)) - 1)), (j138 3), (j138 4), (j138 5), (j138 6), (j138 7), (j138 8), (j138 9), (j138 10), (j138 11), (j138 12), (j138 13), (j138 14), (j138 15), (j138 16), (j138 17), (j138 18), (j138 19), (j138 20), (j138 21), (j138 22), (j138 23), (j138 24), (j138 25), (j138 26), (j138 27), (j138 28), (j138 29), (j138 30), (j138 31), (j138 32), undef], []⟩ → K58 a_ W136 := by
          intro f134 A140 c141 s142 out139 j138 W136 a_ L135 hj147 HS137 HO143 hfr_; subst hfr_
          injection hj147 with hj147; subst hj147; try dsimp only at h
          refine hK59 _ _ ?_
          refine wp_seq_k (fun K150 hK151 => ?_)
          refine wp_region_lit ?_
          refine seqS3 (a' := ⟨#[.int .i64 vat1, .int .i64 half2, undef, undef, .slice A140 out139.length c141, .int .i64 0, .int .i64 vt37, .int .i64 vt45, .int .i64 (w64 (16 * half2)), .int .i64 (w64 (Int.tdiv 16 (w64 (half2 * half2)))), .slice A140 out139.length c141, (j138 0), (j138 1), (j138 2), .bool false, .int .i64 vat1, .bool false, .bool false, .int .i64 vat1, .bool false, .bool false, .bool false, .int .i64 half2, .int .i64 vt25, .bool false, .int .i64 vat1, .int .i64 vt37, .int .i64 vt37, .int .i64 vt45, .int .i64 half2, .int .i64 (w64 (16 * half2)), .int .i64 half2, .int .i64 half2, .int .i64 (w64 (half2 * half2)), .int .i64 (w64 (Int.tdiv 16 (w64 (half2 * half2)))), .int .i64 vt45, .int .i64 half2, .int .i64 (w64 (vt45 - half2)), .int .i64 (w64 ((w64 (vt45 - half2)) - 1)), (j138 3), (j138 4), (j138 5), (j138 6), (j138 7), (j138 8), (j138 9), (j138 10), (j138 11), (j138 12), (j138 13), (j138 14), (j138 15), (j138 16), (j138 17), (j138 18), (j138 19), (j138 20), (j138 21), (j138 22), (j138 23), (j138 24), (j138 25), (j138 26), (j138 27), (j138 28), (j138 29), (j138 30), (j138 31), (j138 32), .slice A140 out139.length c141], []⟩) (by kernel_rfl) ?_
          refine wpList_nil ?_
          refine hK151 _ _ ?_
          refine wp_ret ?_
          refine hret _ _ ?_
          refine ends_still (v := Value.tuple #[.slice A140 out139.length c141, .int .i64 0]) (by kernel_rfl) (by kernel_rfl) ?_
          injection h with h
          injection h with h0_ h
          subst h0_ h
          exact ⟨f134, A140, c141, s142, rfl, (L28.trans (L40.trans (L48.trans L135))), HS137, HO143⟩
        clear h; have h := hv145; clear hv145
        have HS148 := HS54.cons_nil
        refine loopK (fun n_ a_ w_ => ∃ (f72 : FM) (A78 : Option Addr) (c79 : Nat) (s80 : Seg) (out77 : List S_Part) (cell83 : Int) (j76 : Nat → Value), FM.le f47 f72 ∧ St t w_ f72 (s80 :: H) ∧ Own ty_Part 32 f72 A78 c79 s80 out77 ∧ optics_Axis.l0 k vt45 half2 vt37 n_ out77 cell83 = some o68 ∧ a_ = ⟨#[.int .i64 vat1, .int .i64 half2, undef, undef, .slice none 0 0, .int .i64 0, .int .i64 vt37, .int .i64 vt45, .int .i64 (w64 (16 * half2)), .int .i64 (w64 (Int.tdiv 16 (w64 (half2 * half2)))), .slice A78 out77.length c79, .int .i64 cell83, (j76 0), (j76 1), .bool false, .int .i64 vat1, .bool false, .bool false, .int .i64 vat1, .bool false, .bool false, .bool false, .int .i64 half2, .int .i64 vt25, .bool false, .int .i64 vat1, .int .i64 vt37, .int .i64 vt37, .int .i64 vt45, .int .i64 half2, .int .i64 (w64 (16 * half2)), .int .i64 half2, .int .i64 half2, .int .i64 (w64 (half2 * half2)), .int .i64 (w64 (Int.tdiv 16 (w64 (half2 * half2)))), .int .i64 vt45, .int .i64 half2, .int .i64 (w64 (vt45 - half2)), .int .i64 (w64 ((w64 (vt45 - half2)) - 1)), (j76 2), (j76 3), (j76 4), (j76 5), (j76 6), (j76 7), (j76 8), (j76 9), (j76 10), (j76 11), (j76 12), (j76 13), (j76 14), (j76 15), (j76 16), (j76 17), (j76 18), (j76 19), (j76 20), (j76 21), (j76 22), (j76 23), (j76 24), (j76 25), (j76 26), (j76 27), (j76 28), (j76 29), (j76 30), (j76 31), undef], []⟩) k ⟨f47, none, 0, [], ([] : List S_Part), (w64 ((w64 (vt45 - half2)) - 1)), (fun i_ => [undef, undef, undef, undef, undef, undef, undef, undef, undef, undef, undef, undef, undef, undef, undef, undef, undef, undef, undef, undef, undef, undef, undef, undef, undef, undef, undef, undef, undef, undef, undef, undef].getD i_ undef), (FM.le.refl _), HS148, (Own.nil _), h, (by kernel_rfl)⟩ ?_
        clear h
        rintro n71 _ W74 ⟨f72, A78, c79, s80, out77, cell83, j76, L73, HS75, HO81, h, rfl⟩ K69 hK70
        obtain _ | n71 := n71
        · exact nomatch h
        simp only [optics_Axis.l0] at h
        refine wp_seq_k (fun K84 hK85 => ?_)
        refine wp_seq_k (fun K86 hK87 => ?_)
        refine wp_region_lit ?_
        refine seqS6 (a' := ⟨#[.int .i64 vat1, .int .i64 half2, undef, undef, .slice none 0 0, .int .i64 0, .int .i64 vt37, .int .i64 vt45, .int .i64 (w64 (16 * half2)), .int .i64 (w64 (Int.tdiv 16 (w64 (half2 * half2)))), .slice A78 out77.length c79, .int .i64 cell83, (j76 0), (j76 1), .bool false, .int .i64 vat1, .bool false, .bool false, .int .i64 vat1, .bool false, .bool false, .bool false, .int .i64 half2, .int .i64 vt25, .bool false, .int .i64 vat1, .int .i64 vt37, .int .i64 vt37, .int .i64 vt45, .int .i64 half2, .int .i64 (w64 (16 * half2)), .int .i64 half2, .int .i64 half2, .int .i64 (w64 (half2 * half2)), .int .i64 (w64 (Int.tdiv 16 (w64 (half2 * half2)))), .int .i64 vt45, .int .i64 half2, .int .i64 (w64 (vt45 - half2)), .int .i64 (w64 ((w64 (vt45 - half2)) - 1)), .int .i64 cell83, .int .i64 vt45, .int .i64 half2, .int .i64 (w64 (vt45 + half2)), .int .i64 (w64 ((w64 (vt45 + half2)) + 1)), .bool (decide (cell83 ≤ (w64 ((w64 (vt45 + half2)) + 1)))), (j76 8), (j76 9), (j76 10), (j76 11), (j76 12), (j76 13), (j76 14), (j76 15), (j76 16), (j76 17), (j76 18), (j76 19), (j76 20), (j76 21), (j76 22), (j76 23), (j76 24), (j76 25), (j76 26), (j76 27), (j76 28), (j76 29), (j76 30), (j76 31), undef], []⟩) (by kernel_rfl) ?_
        refine wpList_nil ?_
        refine hK87 _ _ ?_
        have hq_ := ite_some h; clear h; rcases hq_ with ⟨c89, h⟩ | ⟨c89, h⟩
        · have c89 : cell83 ≤ (w64 ((w64 (vt45 + half2)) + 1)) := c89
          refine wpRwI 44 (x := (decide (cell83 ≤ (w64 ((w64 (vt45 + half2)) + 1))))) (v := true) (by kernel_rfl) (decide_eq_true c89) ?_
          refine condT (by kernel_rfl) ?_
          refine wp_skip ?_
          refine hK85 _ _ ?_
          refine wp_seq_k (fun K90 hK91 => ?_)
          refine blockK (fun B92 hx93 hn94 hr95 ho96 hp97 => ?_)
          refine wp_seq_k (fun K99 hK100 => ?_)
          refine wp_region_lit ?_
          refine seqS5 (a' := ⟨#[.int .i64 vat1, .int .i64 half2, undef, undef, .slice none 0 0, .int .i64 0, .int .i64 vt37, .int .i64 vt45, .int .i64 (w64 (16 * half2)), .int .i64 (w64 (Int.tdiv 16 (w64 (half2 * half2)))), .slice A78 out77.length c79, .int .i64 cell83, .int .i64 (w64 ((w64 (16 * cell83)) - vt37)), (j76 1), .bool false, .int .i64 vat1, .bool false, .bool false, .int .i64 vat1, .bool false, .bool false, .bool false, .int .i64 half2, .int .i64 vt25, .bool false, .int .i64 vat1, .int .i64 vt37, .int .i64 vt37, .int .i64 vt45, .int .i64 half2, .int .i64 (w64 (16 * half2)), .int .i64 half2, .int .i64 half2, .int .i64 (w64 (half2 * half2)), .int .i64 (w64 (Int.tdiv 16 (w64 (half2 * half2)))), .int .i64 vt45, .int .i64 half2, .int .i64 (w64 (vt45 - half2)), .int .i64 (w64 ((w64 (vt45 - half2)) - 1)), .int .i64 cell83, .int .i64 vt45, .int .i64 half2, .int .i64 (w64 (vt45 + half2)), .int .i64 (w64 ((w64 (vt45 + half2)) + 1)), .bool true, (j76 8), (j76 9), .int .i64 cell83, .int .i64 (w64 (16 * cell83)), .int .i64 vt37, .int .i64 (w64 ((w64 (16 * cell83)) - vt37)), (j76 14), (j76 15), (j76 16), (j76 17), (j76 18), (j76 19), (j76 20), (j76 21), (j76 22), (j76 23), (j76 24), (j76 25), (j76 26), (j76 27), (j76 28), (j76 29), (j76 30), (j76 31), undef], []⟩) (by kernel_rfl) ?_
          refine wpList_nil ?_
          refine hK100 _ _ ?_
          refine wp_seq_k (fun K101 hK102 => ?_)
          refine wp_region_lit ?_
          have hq_ := bind_some h; clear h; obtain ⟨vt103, hc104, h⟩ := hq_
          refine seqL3 (by kernel_rfl) ?_
          refine seqK rfl (does_call (f := 25) (args := #[.int .i64 (w64 ((w64 ((w64 (16 * cell83)) - vt37)) + 16)), .int .i64 (w64 (16 * half2))]) (by kernel_rfl) (optics_before.calls k (w64 ((w64 ((w64 (16 * cell83)) - vt37)) + 16)) (w64 (16 * half2)) HS75 vt103 hc104) ?_)
          rintro _ W107 ⟨f105, rfl, L106, HS108⟩
          refine ⟨_, rfl, ?_⟩
          have hq_ := bind_some h; clear h; obtain ⟨vt109, hc110, h⟩ := hq_
          refine seqL2 (by kernel_rfl) ?_
          refine seqK rfl (does_call (f := 25) (args := #[.int .i64 (w64 ((w64 (16 * cell83)) - vt37)), .int .i64 (w64 (16 * half2))]) (by kernel_rfl) (optics_before.calls k (w64 ((w64 (16 * cell83)) - vt37)) (w64 (16 * half2)) HS108 vt109 hc110) ?_)
          rintro _ W113 ⟨f111, rfl, L112, HS114⟩
          refine ⟨_, rfl, ?_⟩
          refine seqS2 (a' := ⟨#[.int .i64 vat1, .int .i64 half2, undef, undef, .slice none 0 0, .int .i64 0, .int .i64 vt37, .int .i64 vt45, .int .i64 (w64 (16 * half2)), .int .i64 (w64 (Int.tdiv 16 (w64 (half2 * half2)))), .slice A78 out77.length c79, .int .i64 cell83, .int .i64 (w64 ((w64 (16 * cell83)) - vt37)), .int .i64 (w64 (vt103 - vt109)), .bool false, .int .i64 vat1, .bool false, .bool false, .int .i64 vat1, .bool false, .bool false, .bool false, .int .i64 half2, .int .i64 vt25, .bool false, .int .i64 vat1, .int .i64 vt37, .int .i64 vt37, .int .i64 vt45, .int .i64 half2, .int .i64 (w64 (16 * half2)), .int .i64 half2, .int .i64 half2, .int .i64 (w64 (half2 * half2)), .int .i64 (w64 (Int.tdiv 16 (w64 (half2 * half2)))), .int .i64 vt45, .int .i64 half2, .int .i64 (w64 (vt45 - half2)), .int .i64 (w64 ((w64 (vt45 - half2)) - 1)), .int .i64 cell83, .int .i64 vt45, .int .i64 half2, .int .i64 (w64 (vt45 + half2)), .int .i64 (w64 ((w64 (vt45 + half2)) + 1)), .bool true, (j76 8), (j76 9), .int .i64 cell83, .int .i64 (w64 (16 * cell83)), .int .i64 vt37, .int .i64 (w64 ((w64 (16 * cell83)) - vt37)), .int .i64 (w64 ((w64 (16 * cell83)) - vt37)), .int .i64 (w64 ((w64 ((w64 (16 * cell83)) - vt37)) + 16)), .int .i64 (w64 (16 * half2)), .int .i64 vt103, .int .i64 (w64 ((w64 (16 * cell83)) - vt37)), .int .i64 (w64 (16 * half2)), .int .i64 vt109, .int .i64 (w64 (vt103 - vt109)), (j76 22), (j76 23), (j76 24), (j76 25), (j76 26), (j76 27), (j76 28), (j76 29), (j76 30), (j76 31), undef], []⟩) (by kernel_rfl) ?_
          refine wpList_nil ?_
          refine hK102 _ _ ?_
          refine wp_seq_k (fun K115 hK116 => ?_)
          refine wp_region_lit ?_
          refine seqS2 (a' := ⟨#[.int .i64 vat1, .int .i64 half2, undef, undef, .slice none 0 0, .int .i64 0, .int .i64 vt37, .int .i64 vt45, .int .i64 (w64 (16 * half2)), .int .i64 (w64 (Int.tdiv 16 (w64 (half2 * half2)))), .slice A78 out77.length c79, .int .i64 cell83, .int .i64 (w64 ((w64 (16 * cell83)) - vt37)), .int .i64 (w64 (vt103 - vt109)), .bool false, .int .i64 vat1, .bool false, .bool false, .int .i64 vat1, .bool false, .bool false, .bool false, .int .i64 half2, .int .i64 vt25, .bool false, .int .i64 vat1, .int .i64 vt37, .int .i64 vt37, .int .i64 vt45, .int .i64 half2, .int .i64 (w64 (16 * half2)), .int .i64 half2, .int .i64 half2, .int .i64 (w64 (half2 * half2)), .int .i64 (w64 (Int.tdiv 16 (w64 (half2 * half2)))), .int .i64 vt45, .int .i64 half2, .int .i64 (w64 (vt45 - half2)), .int .i64 (w64 ((w64 (vt45 - half2)) - 1)), .int .i64 cell83, .int .i64 vt45, .int .i64 half2, .int .i64 (w64 (vt45 + half2)), .int .i64 (w64 ((w64 (vt45 + half2)) + 1)), .bool true, (j76 8), (j76 9), .int .i64 cell83, .int .i64 (w64 (16 * cell83)), .int .i64 vt37, .int .i64 (w64 ((w64 (16 * cell83)) - vt37)), .int .i64 (w64 ((w64 (16 * cell83)) - vt37)), .int .i64 (w64 ((w64 ((w64 (16 * cell83)) - vt37)) + 16)), .int .i64 (w64 (16 * half2)), .int .i64 vt103, .int .i64 (w64 ((w64 (16 * cell83)) - vt37)), .int .i64 (w64 (16 * half2)), .int .i64 vt109, .int .i64 (w64 (vt103 - vt109)), .int .i64 (w64 (vt103 - vt109)), .bool (decide ((w64 (vt103 - vt109)) > 0)), (j76 24), (j76 25), (j76 26), (j76 27), (j76 28), (j76 29), (j76 30), (j76 31), undef], []⟩) (by kernel_rfl) ?_
          refine wpList_nil ?_
          refine hK116 _ _ ?_
          have hq_ := ite_some h; clear h; rcases hq_ with ⟨c118, h⟩ | ⟨c118, h⟩
          · have c118 : (w64 (vt103 - vt109)) > 0 := c118
            refine wpRwI 60 (x := (decide ((w64 (vt103 - vt109)) > 0))) (v := true) (by kernel_rfl) (decide_eq_true c118) ?_
            refine condT (by kernel_rfl) ?_
            refine wp_region_lit ?_
            refine seqL6 (by kernel_rfl) ?_
            refine seqK rfl (does_lit (e := ty_Part) (E := 32) (vs := #[(0, Value.agg #[.int .i64 cell83, .int .i64 (w64 ((w64 (Int.tdiv 16 (w64 (half2 * half2)))) * (w64 (vt103 - vt109))))])]) (cs := #[.int .i64 cell83, .int .i64 (w64 ((w64 (Int.tdiv 16 (w64 (half2 * half2)))) * (w64 (vt103 - vt109))))]) (xs := ([(⟨cell83, w64 ((w64 (Int.tdiv 16 (w64 (half2 * half2)))) * (w64 (vt103 - vt109)))⟩ : S_Part)] : List S_Part)) rfl Try.underlying23 (by kernel_rfl) (by kernel_rfl) ⟨[.int .i64 cell83, .int .i64 (w64 ((w64 (Int.tdiv 16 (w64 (half2 * half2)))) * (w64 (vt103 - vt109))))], _, rfl, rfl, rfl⟩ rfl HS114 ?_ (by decide))
            intro b119 W120 s121 HS122 _ HO123
            have hq_ := guard_some h; clear h; obtain ⟨c125, h⟩ := hq_
            have c125 : (out77.length + 1) * 16 ≤ 140737488355328 := c125
            have HS126 := HS122.u1
            have HS127 := HS126.u1
            refine seqK rfl (does_append1 (e := ty_Part) (E := 32) (xs := out77) (ys := ([(⟨cell83, w64 ((w64 (Int.tdiv 16 (w64 (half2 * half2)))) * (w64 (vt103 - vt109)))⟩ : S_Part)] : List S_Part)) rfl (by kernel_rfl : _ = Value.slice A78 out77.length c79) (by kernel_rfl : _ = Value.slice (some ⟨b119, 0, none⟩) ([(⟨cell83, w64 ((w64 (Int.tdiv 16 (w64 (half2 * half2)))) * (w64 (vt103 - vt109)))⟩ : S_Part)] : List S_Part).length 1) Try.underlying23 inf32 (HO81.mono (L106.trans L112)) HO123 HS127 c125 (lim63 c125 (by decide)) ?_)
            intro A128 c129 s130 W131 HS132 HO133
            refine seqS1 (a' := ⟨#[.int .i64 vat1, .int .i64 half2, undef, undef, .slice none 0 0, .int .i64 0, .int .i64 vt37, .int .i64 vt45, .int .i64 (w64 (16 * half2)), .int .i64 (w64 (Int.tdiv 16 (w64 (half2 * half2)))), .slice A128 (out77 ++ ([(⟨cell83, w64 ((w64 (Int.tdiv 16 (w64 (half2 * half2)))) * (w64 (vt103 - vt109)))⟩ : S_Part)] : List S_Part)).length c129, .int .i64 cell83, .int .i64 (w64 ((w64 (16 * cell83)) - vt37)), .int .i64 (w64 (vt103 - vt109)), .bool false, .int .i64 vat1, .bool false, .bool false, .int .i64 vat1, .bool false, .bool false, .bool false, .int .i64 half2, .int .i64 vt25, .bool false, .int .i64 vat1, .int .i64 vt37, .int .i64 vt37, .int .i64 vt45, .int .i64 half2, .int .i64 (w64 (16 * half2)), .int .i64 half2, .int .i64 half2, .int .i64 (w64 (half2 * half2)), .int .i64 (w64 (Int.tdiv 16 (w64 (half2 * half2)))), .int .i64 vt45, .int .i64 half2, .int .i64 (w64 (vt45 - half2)), .int .i64 (w64 ((w64 (vt45 - half2)) - 1)), .int .i64 cell83, .int .i64 vt45, .int .i64 half2, .int .i64 (w64 (vt45 + half2)), .int .i64 (w64 ((w64 (vt45 + half2)) + 1)), .bool true, (j76 8), (j76 9), .int .i64 cell83, .int .i64 (w64 (16 * cell83)), .int .i64 vt37, .int .i64 (w64 ((w64 (16 * cell83)) - vt37)), .int .i64 (w64 ((w64 (16 * cell83)) - vt37)), .int .i64 (w64 ((w64 ((w64 (16 * cell83)) - vt37)) + 16)), .int .i64 (w64 (16 * half2)), .int .i64 vt103, .int .i64 (w64 ((w64 (16 * cell83)) - vt37)), .int .i64 (w64 (16 * half2)), .int .i64 vt109, .int .i64 (w64 (vt103 - vt109)), .int .i64 (w64 (vt103 - vt109)), .bool true, .slice A78 out77.length c79, .int .i64 cell83, .int .i64 (w64 (Int.tdiv 16 (w64 (half2 * half2)))), .int .i64 (w64 (vt103 - vt109)), .int .i64 (w64 ((w64 (Int.tdiv 16 (w64 (half2 * half2)))) * (w64 (vt103 - vt109)))), .agg #[.int .i64 cell83, .int .i64 (w64 ((w64 (Int.tdiv 16 (w64 (half2 * half2)))) * (w64 (vt103 - vt109))))], .slice (some ⟨b119, 0, none⟩) ([(⟨cell83, w64 ((w64 (Int.tdiv 16 (w64 (half2 * half2)))) * (w64 (vt103 - vt109)))⟩ : S_Part)] : List S_Part).length 1, .slice A128 (out77 ++ ([(⟨cell83, w64 ((w64 (Int.tdiv 16 (w64 (half2 * half2)))) * (w64 (vt103 - vt109)))⟩ : S_Part)] : List S_Part)).length c129, undef], []⟩) (by kernel_rfl) ?_
            refine wpList_nil ?_
            refine hn94 _ _ ?_
            refine hK91 _ _ ?_
            refine wp_region_lit ?_
            refine seqS3 (a' := ⟨#[.int .i64 vat1, .int .i64 half2, undef, undef, .slice none 0 0, .int .i64 0, .int .i64 vt37, .int .i64 vt45, .int .i64 (w64 (16 * half2)), .int .i64 (w64 (Int.tdiv 16 (w64 (half2 * half2)))), .slice A128 (out77 ++ ([(⟨cell83, w64 ((w64 (Int.tdiv 16 (w64 (half2 * half2)))) * (w64 (vt103 - vt109)))⟩ : S_Part)] : List S_Part)).length c129, .int .i64 (w64 (cell83 + 1)), .int .i64 (w64 ((w64 (16 * cell83)) - vt37)), .int .i64 (w64 (vt103 - vt109)), .bool false, .int .i64 vat1, .bool false, .bool false, .int .i64 vat1, .bool false, .bool false, .bool false, .int .i64 half2, .int .i64 vt25, .bool false, .int .i64 vat1, .int .i64 vt37, .int .i64 vt37, .int .i64 vt45, .int .i64 half2, .int .i64 (w64 (16 * half2)), .int .i64 half2, .int .i64 half2, .int .i64 (w64 (half2 * half2)), .int .i64 (w64 (Int.tdiv 16 (w64 (half2 * half2)))), .int .i64 vt45, .int .i64 half2, .int .i64 (w64 (vt45 - half2)), .int .i64 (w64 ((w64 (vt45 - half2)) - 1)), .int .i64 cell83, .int .i64 vt45, .int .i64 half2, .int .i64 (w64 (vt45 + half2)), .int .i64 (w64 ((w64 (vt45 + half2)) + 1)), .bool true, .int .i64 cell83, .int .i64 (w64 (cell83 + 1)), .int .i64 cell83, .int .i64 (w64 (16 * cell83)), .int .i64 vt37, .int .i64 (w64 ((w64 (16 * cell83)) - vt37)), .int .i64 (w64 ((w64 (16 * cell83)) - vt37)), .int .i64 (w64 ((w64 ((w64 (16 * cell83)) - vt37)) + 16)), .int .i64 (w64 (16 * half2)), .int .i64 vt103, .int .i64 (w64 ((w64 (16 * cell83)) - vt37)), .int .i64 (w64 (16 * half2)), .int .i64 vt109, .int .i64 (w64 (vt103 - vt109)), .int .i64 (w64 (vt103 - vt109)), .bool true, .slice A78 out77.length c79, .int .i64 cell83, .int .i64 (w64 (Int.tdiv 16 (w64 (half2 * half2)))), .int .i64 (w64 (vt103 - vt109)), .int .i64 (w64 ((w64 (Int.tdiv 16 (w64 (half2 * half2)))) * (w64 (vt103 - vt109)))), .agg #[.int .i64 cell83, .int .i64 (w64 ((w64 (Int.tdiv 16 (w64 (half2 * half2)))) * (w64 (vt103 - vt109))))], .slice (some ⟨b119, 0, none⟩) ([(⟨cell83, w64 ((w64 (Int.tdiv 16 (w64 (half2 * half2)))) * (w64 (vt103 - vt109)))⟩ : S_Part)] : List S_Part).length 1, .slice A128 (out77 ++ ([(⟨cell83, w64 ((w64 (Int.tdiv 16 (w64 (half2 * half2)))) * (w64 (vt103 - vt109)))⟩ : S_Part)] : List S_Part)).length c129, undef], []⟩) (by kernel_rfl) ?_
            refine wpList_nil ?_
            refine hK70 n71 _ _ (Nat.lt_succ_self _) ?_
            exact ⟨f111, A128, c129, s130, (out77 ++ ([(⟨cell83, w64 ((w64 (Int.tdiv 16 (w64 (half2 * half2)))) * (w64 (vt103 - vt109)))⟩ : S_Part)] : List S_Part)), (w64 (cell83 + 1)), (fun i_ => [Value.int .i64 (w64 ((w64 (16 * cell83)) - vt37)), Value.int .i64 (w64 (vt103 - vt109)), Value.int .i64 cell83, Value.int .i64 vt45, Value.int .i64 half2, Value.int .i64 (w64 (vt45 + half2)), Value.int .i64 (w64 ((w64 (vt45 + half2)) + 1)), Value.bool true, Value.int .i64 cell83, Value.int .i64 (w64 (cell83 + 1)), Value.int .i64 cell83, Value.int .i64 (w64 (16 * cell83)), Value.int .i64 vt37, Value.int .i64 (w64 ((w64 (16 * cell83)) - vt37)), Value.int .i64 (w64 ((w64 (16 * cell83)) - vt37)), Value.int .i64 (w64 ((w64 ((w64 (16 * cell83)) - vt37)) + 16)), Value.int .i64 (w64 (16 * half2)), Value.int .i64 vt103, Value.int .i64 (w64 ((w64 (16 * cell83)) - vt37)), Value.int .i64 (w64 (16 * half2)), Value.int .i64 vt109, Value.int .i64 (w64 (vt103 - vt109)), Value.int .i64 (w64 (vt103 - vt109)), Value.bool true, Value.slice A78 out77.length c79, Value.int .i64 cell83, Value.int .i64 (w64 (Int.tdiv 16 (w64 (half2 * half2)))), Value.int .i64 (w64 (vt103 - vt109)), Value.int .i64 (w64 ((w64 (Int.tdiv 16 (w64 (half2 * half2)))) * (w64 (vt103 - vt109)))), Value.agg #[.int .i64 cell83, .int .i64 (w64 ((w64 (Int.tdiv 16 (w64 (half2 * half2)))) * (w64 (vt103 - vt109))))], Value.slice (some ⟨b119, 0, none⟩) ([(⟨cell83, w64 ((w64 (Int.tdiv 16 (w64 (half2 * half2)))) * (w64 (vt103 - vt109)))⟩ : S_Part)] : List S_Part).length 1, Value.slice A128 (out77 ++ ([(⟨cell83, w64 ((w64 (Int.tdiv 16 (w64 (half2 * half2)))) * (w64 (vt103 - vt109)))⟩ : S_Part)] : List S_Part)).length c129].getD i_ undef), (L73.trans (L106.trans L112)), HS132, HO133, h, (by kernel_rfl)⟩
          · have c118 : ¬ ((w64 (vt103 - vt109)) > 0) := c118
            refine wpRwI 60 (x := (decide ((w64 (vt103 - vt109)) > 0))) (v := false) (by kernel_rfl) (decide_eq_false c118) ?_
            refine condF (by kernel_rfl) ?_
            refine wp_skip ?_
            refine hn94 _ _ ?_
            refine hK91 _ _ ?_
            refine wp_region_lit ?_
            refine seqS3 (a' := ⟨#[.int .i64 vat1, .int .i64 half2, undef, undef, .slice none 0 0, .int .i64 0, .int .i64 vt37, .int .i64 vt45, .int .i64 (w64 (16 * half2)), .int .i64 (w64 (Int.tdiv 16 (w64 (half2 * half2)))), .slice A78 out77.length c79, .int .i64 (w64 (cell83 + 1)), .int .i64 (w64 ((w64 (16 * cell83)) - vt37)), .int .i64 (w64 (vt103 - vt109)), .bool false, .int .i64 vat1, .bool false, .bool false, .int .i64 vat1, .bool false, .bool false, .bool false, .int .i64 half2, .int .i64 vt25, .bool false, .int .i64 vat1, .int .i64 vt37, .int .i64 vt37, .int .i64 vt45, .int .i64 half2, .int .i64 (w64 (16 * half2)), .int .i64 half2, .int .i64 half2, .int .i64 (w64 (half2 * half2)), .int .i64 (w64 (Int.tdiv 16 (w64 (half2 * half2)))), .int .i64 vt45, .int .i64 half2, .int .i64 (w64 (vt45 - half2)), .int .i64 (w64 ((w64 (vt45 - half2)) - 1)), .int .i64 cell83, .int .i64 vt45, .int .i64 half2, .int .i64 (w64 (vt45 + half2)), .int .i64 (w64 ((w64 (vt45 + half2)) + 1)), .bool true, .int .i64 cell83, .int .i64 (w64 (cell83 + 1)), .int .i64 cell83, .int .i64 (w64 (16 * cell83)), .int .i64 vt37, .int .i64 (w64 ((w64 (16 * cell83)) - vt37)), .int .i64 (w64 ((w64 (16 * cell83)) - vt37)), .int .i64 (w64 ((w64 ((w64 (16 * cell83)) - vt37)) + 16)), .int .i64 (w64 (16 * half2)), .int .i64 vt103, .int .i64 (w64 ((w64 (16 * cell83)) - vt37)), .int .i64 (w64 (16 * half2)), .int .i64 vt109, .int .i64 (w64 (vt103 - vt109)), .int .i64 (w64 (vt103 - vt109)), .bool false, (j76 24), (j76 25), (j76 26), (j76 27), (j76 28), (j76 29), (j76 30), (j76 31), undef], []⟩) (by kernel_rfl) ?_
            refine wpList_nil ?_
            refine hK70 n71 _ _ (Nat.lt_succ_self _) ?_
            exact ⟨f111, A78, c79, s80, out77, (w64 (cell83 + 1)), (fun i_ => [Value.int .i64 (w64 ((w64 (16 * cell83)) - vt37)), Value.int .i64 (w64 (vt103 - vt109)), Value.int .i64 cell83, Value.int .i64 vt45, Value.int .i64 half2, Value.int .i64 (w64 (vt45 + half2)), Value.int .i64 (w64 ((w64 (vt45 + half2)) + 1)), Value.bool true, Value.int .i64 cell83, Value.int .i64 (w64 (cell83 + 1)), Value.int .i64 cell83, Value.int .i64 (w64 (16 * cell83)), Value.int .i64 vt37, Value.int .i64 (w64 ((w64 (16 * cell83)) - vt37)), Value.int .i64 (w64 ((w64 (16 * cell83)) - vt37)), Value.int .i64 (w64 ((w64 ((w64 (16 * cell83)) - vt37)) + 16)), Value.int .i64 (w64 (16 * half2)), Value.int .i64 vt103, Value.int .i64 (w64 ((w64 (16 * cell83)) - vt37)), Value.int .i64 (w64 (16 * half2)), Value.int .i64 vt109, Value.int .i64 (w64 (vt103 - vt109)), Value.int .i64 (w64 (vt103 - vt109)), Value.bool false, (j76 24), (j76 25), (j76 26), (j76 27), (j76 28), (j76 29), (j76 30), (j76 31)].getD i_ undef), (L73.trans (L106.trans L112)), HS114, (HO81.mono (L106.trans L112)), h, (by kernel_rfl)⟩
        · have c89 : ¬ (cell83 ≤ (w64 ((w64 (vt45 + half2)) + 1))) := c89
          refine wpRwI 44 (x := (decide (cell83 ≤ (w64 ((w64 (vt45 + half2)) + 1))))) (v := false) (by kernel_rfl) (decide_eq_false c89) ?_
          refine condF (by kernel_rfl) ?_
          refine wp_exit ?_
          refine hx63 _ _ ?_
          exact J146 f72 A78 c79 s80 out77 (fun i_ => [Value.int .i64 cell83, (j76 0), (j76 1), Value.int .i64 cell83, Value.int .i64 vt45, Value.int .i64 half2, Value.int .i64 (w64 (vt45 + half2)), Value.int .i64 (w64 ((w64 (vt45 + half2)) + 1)), Value.bool false, (j76 8), (j76 9), (j76 10), (j76 11), (j76 12), (j76 13), (j76 14), (j76 15), (j76 16), (j76 17), (j76 18), (j76 19), (j76 20), (j76 21), (j76 22), (j76 23), (j76 24), (j76 25), (j76 26), (j76 27), (j76 28), (j76 29), (j76 30), (j76 31)].getD i_ undef) W74 _ L73 h HS75 HO81 (by kernel_rfl)

set_option maxRecDepth 100000 in
set_option maxHeartbeats 4000000 in
theorem cmp_Or_Errno.calls (k : Nat) (A2 : Option Addr) (c3 : Nat) (vals1 : List Int) {t w : World} {f : FM} {H : List Seg} (HS : St t w f (H)) (HR4 : SlR (tInt .i64) f A2 c3 vals1) (r1 : Int) (h : cmp_Or_Errno k vals1 = some r1) :
    Calls Try.prog 26 #[.slice A2 vals1.length c3] w (fun e w' => ∃ (g : FM), e = .returned (Value.int .i64 r1) ∧ FM.le f g ∧ St t w' g (H)) := by
  unfold cmp_Or_Errno at h
  refine enter Try.func26 rfl (tm := #[.slice A2 vals1.length c3, undef, undef, undef, undef, undef, undef, undef, undef, undef, undef, undef, undef, undef, undef, undef, undef, undef]) (by kernel_rfl) ?_
  intro B hret hnor hnp
  refine wp_seq_k (fun K5 hK6 => ?_)
  refine wp_region_lit ?_
  refine seqS1 (a' := ⟨#[.slice A2 vals1.length c3, undef, .int .i64 0, undef, undef, undef, undef, undef, undef, undef, undef, undef, undef, undef, undef, undef, undef, undef], []⟩) (by kernel_rfl) ?_
  refine wpList_nil ?_
  refine hK6 _ _ ?_
  refine wp_seq_k (fun K7 hK8 => ?_)
  refine wp_region_lit ?_
  refine seqS1 (a' := ⟨#[.slice A2 vals1.length c3, undef, .int .i64 0, .int .i64 0, undef, undef, undef, undef, undef, undef, undef, undef, undef, undef, undef, undef, undef, undef], []⟩) (by kernel_rfl) ?_
  refine wpList_nil ?_
  refine hK8 _ _ ?_
  refine wp_seq_k (fun K9 hK10 => ?_)
  refine wp_seq_k (fun K11 hK12 => ?_)
  refine wp_region_lit ?_
  refine seqS3 (a' := ⟨#[.slice A2 vals1.length c3, undef, .int .i64 0, .int .i64 0, undef, undef, .slice A2 vals1.length c3, .int .i64 (vals1.length : Int), .int .i64 0, undef, undef, undef, undef, undef, undef, undef, undef, undef], []⟩) (by kernel_rfl) ?_
  refine wpList_nil ?_
  refine hK12 _ _ ?_
  refine blockK (fun B13 hx14 hn15 hr16 ho17 hp18 => ?_)
  have hq_ := bind_some h; clear h; obtain ⟨o19, hv63, h⟩ := hq_
  have JR65 : ∀ z_, some (Sum.inl z_) = some o19 → some z_ = some r1 := by
    intro z_ e_; injection e_ with e_; subst e_; exact h
  have J64 : ∀ (f58 : FM) (j62 : Nat → Value) (W60 : World) (a_ : Act), FM.le f f58 → some (Sum.inr ()) = some o19 → St t W60 f58 (H) → a_ = ⟨#[.slice A2 vals1.length c3, undef, (j62 0), .int .i64 0, undef, (j62 1), .slice A2 vals1.length c3, .int .i64 (vals1.length : Int), (j62 2), (j62 3), (j62 4), (j62 5), (j62 6), (j62 7), (j62 8), (j62 9), (j62 10), undef], []⟩ → K9 a_ W60 := by
    intro f58 j62 W60 a_ L59 hj66 HS61  hfr_; subst hfr_
    injection hj66 with hj66; subst hj66; try dsimp only at h
    simp only [Sum.elim_inr] at h
    refine hK10 _ _ ?_
    refine wp_seq_k (fun K67 hK68 => ?_)
    refine wp_region_lit ?_
    refine seqS2 (a' := ⟨#[.slice A2 vals1.length c3, undef, .int .i64 0, .int .i64 0, undef, (j62 1), .slice A2 vals1.length c3, .int .i64 (vals1.length : Int), (j62 2), (j62 3), (j62 4), (j62 5), (j62 6), (j62 7), (j62 8), (j62 9), (j62 10), .int .i64 0], []⟩) (by kernel_rfl) ?_
    refine wpList_nil ?_
    refine hK68 _ _ ?_
    refine wp_ret ?_
    refine hret _ _ ?_
    refine ends_still (v := Value.int .i64 0) (by kernel_rfl) (by kernel_rfl) ?_
    injection h with h
    subst h
    exact ⟨f58, rfl, L59, HS61⟩
  clear h; have h := hv63; clear hv63
  refine loopK (fun n_ a_ w_ => ∃ (f23 : FM) (x28 : Int) (j27 : Nat → Value), FM.le f f23 ∧ St t w_ f23 (H) ∧ cmp_Or_Errno.l0 k vals1 n_ x28 = some o19 ∧ a_ = ⟨#[.slice A2 vals1.length c3, undef, (j27 0), .int .i64 0, undef, (j27 1), .slice A2 vals1.length c3, .int .i64 (vals1.length : Int), .int .i64 x28, (j27 2), (j27 3), (j27 4), (j27 5), (j27 6), (j27 7), (j27 8), (j27 9), undef], []⟩) k ⟨f, 0, (fun i_ => [Value.int .i64 0, undef, undef, undef, undef, undef, undef, undef, undef, undef].getD i_ undef), (FM.le.refl _), HS, h, (by kernel_rfl)⟩ ?_
  clear h
  rintro n22 _ W25 ⟨f23, x28, j27, L24, HS26, h, rfl⟩ K20 hK21
  obtain _ | n22 := n22
  · exact nomatch h
  simp only [cmp_Or_Errno.l0] at h
  refine wp_seq_k (fun K29 hK30 => ?_)
  refine wp_region_lit ?_
  refine seqS1 (a' := ⟨#[.slice A2 vals1.length c3, undef, (j27 0), .int .i64 0, undef, (j27 1), .slice A2 vals1.length c3, .int .i64 (vals1.length : Int), .int .i64 x28, .bool (decide (x28 < (vals1.length : Int))), (j27 3), (j27 4), (j27 5), (j27 6), (j27 7), (j27 8), (j27 9), undef], []⟩) (by kernel_rfl) ?_
  refine wpList_nil ?_
  refine hK30 _ _ ?_
  refine wp_seq_k (fun K31 hK32 => ?_)
  have hq_ := ite_some h; clear h; rcases hq_ with ⟨c34, h⟩ | ⟨c34, h⟩
  · have c34 : x28 < (vals1.length : Int) := c34
    refine wpRwI 9 (x := (decide (x28 < (vals1.length : Int)))) (v := true) (by kernel_rfl) (decide_eq_true c34) ?_
    refine condT (by kernel_rfl) ?_
    refine wp_skip ?_
    refine hK32 _ _ ?_
    refine wp_seq_k (fun K35 hK36 => ?_)
    refine blockK (fun B37 hx38 hn39 hr40 ho41 hp42 => ?_)
    refine wp_seq_k (fun K44 hK45 => ?_)
    refine wp_region_lit ?_
    have hq_ := guard_some h; clear h; obtain ⟨c46, h⟩ := hq_
    have c46 : 0 ≤ x28 := c46
    obtain ⟨b50, of51, cs47, rfl, hr48, hc49⟩ := (HR4.mono L24).at (i := x28) c46 c34
    obtain rfl := hr48
    refine seqK rfl (does_run (run_index (sz := 1) rfl Try.underlying73 (by kernel_rfl) (by kernel_rfl : _ = Value.slice (some ⟨b50, of51, none⟩) vals1.length c3) (by kernel_rfl : _ = Value.int .i64 x28) c46 c34 W25) ?_)
    refine seqK rfl (does_run (run_load rfl Try.underlying24 rfl (by kernel_rfl : _ = Value.pointer (some ⟨b50, of51 + (x28 : Int).toNat * 1, none⟩)) ((hc49 (FM.le.refl _) HS26) 0 (by decide))) ?_)
    refine seqS1 (a' := ⟨#[.slice (some ⟨b50, of51, none⟩) vals1.length c3, undef, (j27 0), .int .i64 0, undef, .int .i64 (rd vals1 x28), .slice (some ⟨b50, of51, none⟩) vals1.length c3, .int .i64 (vals1.length : Int), .int .i64 x28, .bool true, .pointer (some ⟨b50, of51 + (x28 : Int).toNat * 1, none⟩), .int .i64 (rd vals1 x28), (j27 5), (j27 6), (j27 7), (j27 8), (j27 9), undef], []⟩) (by kernel_rfl) ?_
    refine wpList_nil ?_
    refine hK45 _ _ ?_
    refine wp_seq_k (fun K52 hK53 => ?_)
    refine wp_region_lit ?_
    refine seqS3 (a' := ⟨#[.slice (some ⟨b50, of51, none⟩) vals1.length c3, undef, (j27 0), .int .i64 0, undef, .int .i64 (rd vals1 x28), .slice (some ⟨b50, of51, none⟩) vals1.length c3, .int .i64 (vals1.length : Int), .int .i64 x28, .bool true, .pointer (some ⟨b50, of51 + (x28 : Int).toNat * 1, none⟩), .int .i64 (rd vals1 x28), .int .i64 (rd vals1 x28), .int .i64 0, .bool ((rd vals1 x28) != 0), (j27 8), (j27 9), undef], []⟩) (by kernel_rfl) ?_
    refine wpList_nil ?_
    refine hK53 _ _ ?_
    have hq_ := ite_some h; clear h; rcases hq_ with ⟨c55, h⟩ | ⟨c55, h⟩
    · have c55 : (rd vals1 x28) ≠ 0 := c55
      refine wpRwI 14 (x := ((rd vals1 x28) != 0)) (v := true) (by kernel_rfl) (bne_iff_ne.mpr c55) ?_
      refine condT (by kernel_rfl) ?_
      refine wp_seq_k (fun K56 hK57 => ?_)
      refine wp_region_lit ?_
      refine seqS2 (a' := ⟨#[.slice (some ⟨b50, of51, none⟩) vals1.length c3, undef, .int .i64 (rd vals1 x28), .int .i64 0, undef, .int .i64 (rd vals1 x28), .slice (some ⟨b50, of51, none⟩) vals1.length c3, .int .i64 (vals1.length : Int), .int .i64 x28, .bool true, .pointer (some ⟨b50, of51 + (x28 : Int).toNat * 1, none⟩), .int .i64 (rd vals1 x28), .int .i64 (rd vals1 x28), .int .i64 0, .bool true, .int .i64 (rd vals1 x28), (j27 9), undef], []⟩) (by kernel_rfl) ?_
      refine wpList_nil ?_
      refine hK57 _ _ ?_
      refine wp_ret ?_
      refine hr40 _ _ ?_
      refine hr16 _ _ ?_
      refine hret _ _ ?_
      refine ends_still (v := Value.int .i64 (rd vals1 x28)) (by kernel_rfl) (by kernel_rfl) ?_
      replace h := JR65 _ h
      injection h with h
      subst h
      exact ⟨f23, rfl, L24, HS26⟩
    · have c55 : ¬ ((rd vals1 x28) ≠ 0) := c55
      refine wpRwI 14 (x := ((rd vals1 x28) != 0)) (v := false) (by kernel_rfl) (bne_eq_false_iff_eq.mpr (Decidable.of_not_not c55)) ?_
      refine condF (by kernel_rfl) ?_
      refine wp_skip ?_
      refine hn39 _ _ ?_
      refine hK36 _ _ ?_
      refine wp_region_lit ?_
      refine seqS2 (a' := ⟨#[.slice (some ⟨b50, of51, none⟩) vals1.length c3, undef, (j27 0), .int .i64 0, undef, .int .i64 (rd vals1 x28), .slice (some ⟨b50, of51, none⟩) vals1.length c3, .int .i64 (vals1.length : Int), .int .i64 (w64 (x28 + 1)), .bool true, .pointer (some ⟨b50, of51 + (x28 : Int).toNat * 1, none⟩), .int .i64 (rd vals1 x28), .int .i64 (rd vals1 x28), .int .i64 0, .bool false, (j27 8), .int .i64 (w64 (x28 + 1)), undef], []⟩) (by kernel_rfl) ?_
      refine wpList_nil ?_
      refine hK21 n22 _ _ (Nat.lt_succ_self _) ?_
      exact ⟨f23, (w64 (x28 + 1)), (fun i_ => [(j27 0), Value.int .i64 (rd vals1 x28), Value.bool true, Value.pointer (some ⟨b50, of51 + (x28 : Int).toNat * 1, none⟩), Value.int .i64 (rd vals1 x28), Value.int .i64 (rd vals1 x28), Value.int .i64 0, Value.bool false, (j27 8), Value.int .i64 (w64 (x28 + 1))].getD i_ undef), L24, HS26, h, (by kernel_rfl)⟩
  · have c34 : ¬ (x28 < (vals1.length : Int)) := c34
    refine wpRwI 9 (x := (decide (x28 < (vals1.length : Int)))) (v := false) (by kernel_rfl) (decide_eq_false c34) ?_
    refine condF (by kernel_rfl) ?_
    refine wp_exit ?_
    refine hx14 _ _ ?_
    exact J64 f23 (fun i_ => [(j27 0), (j27 1), Value.int .i64 x28, Value.bool false, (j27 3), (j27 4), (j27 5), (j27 6), (j27 7), (j27 8), (j27 9)].getD i_ undef) W25 _ L24 h HS26 (by kernel_rfl)

set_option maxRecDepth 100000 in
set_option maxHeartbeats 4000000 in
theorem optics_Point.calls (k : Nat)  (p1 : S_Point) (wide2 : Int) (high3 : Int) {t w : World} {f : FM} {H : List Seg} (HS : St t w f (H)) (r1 : List S_Spot) (r2 : Int) (h : optics_Point k p1 wide2 high3 = some (r1, r2)) :
    Calls Try.prog 11 #[.agg #[.int .i64 p1.X, .int .i64 p1.Y], .int .i64 wide2, .int .i64 high3] w (fun e w' => ∃ (g : FM) (A314 : Option Addr) (c315 : Nat) (s316 : Seg), e = .returned (Value.tuple #[.slice A314 r1.length c315, .int .i64 r2]) ∧ FM.le f g ∧ St t w' g (s316 :: H) ∧ Own ty_Spot 45 g A314 c315 s316 r1) := by
  unfold optics_Point at h
  refine enter Try.func11 rfl (tm := #[.agg #[.int .i64 p1.X, .int .i64 p1.Y], .int .i64 wide2, .int .i64 high3, undef, undef, undef, undef, undef, undef, undef, undef, undef, undef, undef, undef, undef, undef, undef, undef, undef, undef, undef, undef, undef, undef, undef, undef, undef, undef, undef, undef, undef, undef, undef, undef, undef, undef, undef, undef, undef, undef, undef, undef, undef, undef, undef, undef, undef, undef, undef, undef, undef, undef, undef, undef, undef, undef, undef, undef, undef, undef, undef, undef, undef, undef, undef, undef]) (by kernel_rfl) ?_
  intro B hret hnor hnp
  refine wp_seq_k (fun K4 hK5 => ?_)
  refine wp_region_lit ?_
  refine seqK rfl (does_box (cs := #[.int .i64 p1.X, .int .i64 p1.Y]) rfl (by kernel_rfl : _ = Value.agg #[.int .i64 p1.X, .int .i64 p1.Y]) rfl HS ?_)
  intro b6 W7 HS8
  refine seqS2 (a' := ⟨#[.agg #[.int .i64 p1.X, .int .i64 p1.Y], .int .i64 wide2, .int .i64 high3, .pointer (some ⟨b6, 0, none⟩), undef, undef, .slice none 0 0, .int .i64 0, undef, undef, undef, undef, undef, undef, undef, undef, undef, undef, undef, undef, undef, undef, undef, undef, undef, undef, undef, undef, undef, undef, undef, undef, undef, undef, undef, undef, undef, undef, undef, undef, undef, undef, undef, undef, undef, undef, undef, undef, undef, undef, undef, undef, undef, undef, undef, undef, undef, undef, undef, undef, undef, undef, undef, undef, undef, undef, undef], []⟩) (by kernel_rfl) ?_
  refine wpList_nil ?_
  refine hK5 _ _ ?_
  refine wp_seq_k (fun K10 hK11 => ?_)
  refine wp_region_lit ?_
  refine seqL1 (by kernel_rfl) ?_
  refine seqK rfl (does_run (run_load rfl Try.underlying22 rfl (by kernel_rfl : _ = Value.pointer (some ⟨b6, 0, none⟩)) (HS8.cell 0)) ?_)
  have hq_ := bind_some h; clear h; obtain ⟨⟨vt12, vt13⟩, hc14, h⟩ := hq_
  refine seqL1 (by kernel_rfl) ?_
  refine seqK rfl (does_call (f := 7) (args := #[.int .i64 p1.X, .int .i64 wide2]) (by kernel_rfl) (optics_Axis.calls k p1.X wide2 HS8 vt12 vt13 hc14) ?_)
  rintro _ W17 ⟨f15, A19, c20, s21, rfl, L16, HS18, HO22⟩
  refine ⟨_, rfl, ?_⟩
  refine seqS5 (a' := ⟨#[.agg #[.int .i64 p1.X, .int .i64 p1.Y], .int .i64 wide2, .int .i64 high3, .pointer (some ⟨b6, 0, none⟩), undef, undef, .slice none 0 0, .int .i64 0, .slice A19 vt12.length c20, .int .i64 vt13, undef, undef, undef, undef, undef, undef, undef, undef, .tuple #[.slice A19 vt12.length c20, .int .i64 vt13], .pointer (some ⟨b6, 0, none⟩), .int .i64 p1.X, .int .i64 wide2, .tuple #[.slice A19 vt12.length c20, .int .i64 vt13], .slice A19 vt12.length c20, .int .i64 vt13, undef, undef, undef, undef, undef, undef, undef, undef, undef, undef, undef, undef, undef, undef, undef, undef, undef, undef, undef, undef, undef, undef, undef, undef, undef, undef, undef, undef, undef, undef, undef, undef, undef, undef, undef, undef, undef, undef, undef, undef, undef, undef], []⟩) (by kernel_rfl) ?_
  refine wpList_nil ?_
  refine hK11 _ _ ?_
  refine wp_seq_k (fun K24 hK25 => ?_)
  refine wp_region_lit ?_
  refine seqL1 (by kernel_rfl) ?_
  refine seqK rfl (does_run (run_load rfl Try.underlying22 rfl (by kernel_rfl : _ = Value.pointer (some ⟨b6, 1, none⟩)) (HS18.u1.cell 1)) ?_)
  have hq_ := bind_some h; clear h; obtain ⟨⟨vt26, vt27⟩, hc28, h⟩ := hq_
  refine seqL1 (by kernel_rfl) ?_
  refine seqK rfl (does_call (f := 7) (args := #[.int .i64 p1.Y, .int .i64 high3]) (by kernel_rfl) (optics_Axis.calls k p1.Y high3 HS18 vt26 vt27 hc28) ?_)
  rintro _ W31 ⟨f29, A33, c34, s35, rfl, L30, HS32, HO36⟩
  refine ⟨_, rfl, ?_⟩
  refine seqS5 (a' := ⟨#[.agg #[.int .i64 p1.X, .int .i64 p1.Y], .int .i64 wide2, .int .i64 high3, .pointer (some ⟨b6, 0, none⟩), undef, undef, .slice none 0 0, .int .i64 0, .slice A19 vt12.length c20, .int .i64 vt13, .slice A33 vt26.length c34, .int .i64 vt27, undef, undef, undef, undef, undef, undef, .tuple #[.slice A19 vt12.length c20, .int .i64 vt13], .pointer (some ⟨b6, 0, none⟩), .int .i64 p1.X, .int .i64 wide2, .tuple #[.slice A19 vt12.length c20, .int .i64 vt13], .slice A19 vt12.length c20, .int .i64 vt13, .tuple #[.slice A33 vt26.length c34, .int .i64 vt27], .pointer (some ⟨b6, 1, none⟩), .int .i64 p1.Y, .int .i64 high3, .tuple #[.slice A33 vt26.length c34, .int .i64 vt27], .slice A33 vt26.length c34, .int .i64 vt27, undef, undef, undef, undef, undef, undef, undef, undef, undef, undef, undef, undef, undef, undef, undef, undef, undef, undef, undef, undef, undef, undef, undef, undef, undef, undef, undef, undef, undef, undef, undef, undef, undef, undef, undef], []⟩) (by kernel_rfl) ?_
  refine wpList_nil ?_
  refine hK25 _ _ ?_
  refine wp_seq_k (fun K38 hK39 => ?_)
  refine wp_seq_k (fun K40 hK41 => ?_)
  refine wp_region_lit ?_
  refine seqL2 (by kernel_rfl) ?_
  refine seqK rfl (does_lit (e := (tInt .i64)) (E := 24) (vs := #[(0, Value.int .i64 vt13), (1, Value.int .i64 vt27)]) (cs := #[.int .i64 vt13, .int .i64 vt27]) (xs := ([vt13, vt27] : List Int)) rfl Try.underlying73 (by kernel_rfl) (by kernel_rfl) ⟨[.int .i64 vt13], _, rfl, rfl, ⟨[.int .i64 vt27], _, rfl, rfl, rfl⟩⟩ rfl HS32 ?_ (by decide))
  intro b42 W43 s44 HS45 _ HO46
  obtain ⟨f48, L49, HS50, HR51, th52⟩ := HO46.lend HS45
  have hq_ := bind_some h; clear h; obtain ⟨vt53, hc54, h⟩ := hq_
  refine seqK rfl (does_call (f := 26) (args := #[.slice (some ⟨b42, 0, none⟩) ([vt13, vt27] : List Int).length 2]) (by kernel_rfl) (cmp_Or_Errno.calls k (some ⟨b42, 0, none⟩) 2 ([vt13, vt27] : List Int) HS50 HR51 vt53 hc54) ?_)
  rintro _ W57 ⟨f55, rfl, L56, HS58⟩
  refine ⟨_, rfl, ?_⟩
  obtain ⟨f59, L60, HS61⟩ := th52 L56 HS58
  refine seqS1 (a' := ⟨#[.agg #[.int .i64 p1.X, .int .i64 p1.Y], .int .i64 wide2, .int .i64 high3, .pointer (some ⟨b6, 0, none⟩), undef, undef, .slice none 0 0, .int .i64 0, .slice A19 vt12.length c20, .int .i64 vt13, .slice A33 vt26.length c34, .int .i64 vt27, .int .i64 vt53, undef, undef, undef, undef, undef, .tuple #[.slice A19 vt12.length c20, .int .i64 vt13], .pointer (some ⟨b6, 0, none⟩), .int .i64 p1.X, .int .i64 wide2, .tuple #[.slice A19 vt12.length c20, .int .i64 vt13], .slice A19 vt12.length c20, .int .i64 vt13, .tuple #[.slice A33 vt26.length c34, .int .i64 vt27], .pointer (some ⟨b6, 1, none⟩), .int .i64 p1.Y, .int .i64 high3, .tuple #[.slice A33 vt26.length c34, .int .i64 vt27], .slice A33 vt26.length c34, .int .i64 vt27, .int .i64 vt13, .int .i64 vt27, .slice (some ⟨b42, 0, none⟩) ([vt13, vt27] : List Int).length 2, .int .i64 vt53, undef, undef, undef, undef, undef, undef, undef, undef, undef, undef, undef, undef, undef, undef, undef, undef, undef, undef, undef, undef, undef, undef, undef, undef, undef, undef, undef, undef, undef, undef, undef], []⟩) (by kernel_rfl) ?_
  refine wpList_nil ?_
  refine hK41 _ _ ?_
  refine wp_seq_k (fun K62 hK63 => ?_)
  refine wp_region_lit ?_
  refine seqS2 (a' := ⟨#[.agg #[.int .i64 p1.X, .int .i64 p1.Y], .int .i64 wide2, .int .i64 high3, .pointer (some ⟨b6, 0, none⟩), undef, undef, .slice none 0 0, .int .i64 0, .slice A19 vt12.length c20, .int .i64 vt13, .slice A33 vt26.length c34, .int .i64 vt27, .int .i64 vt53, undef, undef, undef, undef, undef, .tuple #[.slice A19 vt12.length c20, .int .i64 vt13], .pointer (some ⟨b6, 0, none⟩), .int .i64 p1.X, .int .i64 wide2, .tuple #[.slice A19 vt12.length c20, .int .i64 vt13], .slice A19 vt12.length c20, .int .i64 vt13, .tuple #[.slice A33 vt26.length c34, .int .i64 vt27], .pointer (some ⟨b6, 1, none⟩), .int .i64 p1.Y, .int .i64 high3, .tuple #[.slice A33 vt26.length c34, .int .i64 vt27], .slice A33 vt26.length c34, .int .i64 vt27, .int .i64 vt13, .int .i64 vt27, .slice (some ⟨b42, 0, none⟩) ([vt13, vt27] : List Int).length 2, .int .i64 vt53, .int .i64 vt53, .bool (vt53 != 0), undef, undef, undef, undef, undef, undef, undef, undef, undef, undef, undef, undef, undef, undef, undef, undef, undef, undef, undef, undef, undef, undef, undef, undef, undef, undef, undef, undef, undef], []⟩) (by kernel_rfl) ?_
  refine wpList_nil ?_
  refine hK63 _ _ ?_
  have hq_ := ite_some h; clear h; rcases hq_ with ⟨c65, h⟩ | ⟨c65, h⟩
  · have c65 : vt53 ≠ 0 := c65
    refine wpRwI 37 (x := (vt53 != 0)) (v := true) (by kernel_rfl) (bne_iff_ne.mpr c65) ?_
    refine condT (by kernel_rfl) ?_
    refine wp_seq_k (fun K66 hK67 => ?_)
    refine wp_region_lit ?_
    refine seqS3 (a' := ⟨#[.agg #[.int .i64 p1.X, .int .i64 p1.Y], .int .i64 wide2, .int .i64 high3, .pointer (some ⟨b6, 0, none⟩), undef, undef, .slice none 0 0, .int .i64 vt53, .slice A19 vt12.length c20, .int .i64 vt13, .slice A33 vt26.length c34, .int .i64 vt27, .int .i64 vt53, undef, undef, undef, undef, undef, .tuple #[.slice A19 vt12.length c20, .int .i64 vt13], .pointer (some ⟨b6, 0, none⟩), .int .i64 p1.X, .int .i64 wide2, .tuple #[.slice A19 vt12.length c20, .int .i64 vt13], .slice A19 vt12.length c20, .int .i64 vt13, .tuple #[.slice A33 vt26.length c34, .int .i64 vt27], .pointer (some ⟨b6, 1, none⟩), .int .i64 p1.Y, .int .i64 high3, .tuple #[.slice A33 vt26.length c34, .int .i64 vt27], .slice A33 vt26.length c34, .int .i64 vt27, .int .i64 vt13, .int .i64 vt27, .slice (some ⟨b42, 0, none⟩) ([vt13, vt27] : List Int).length 2, .int .i64 vt53, .int .i64 vt53, .bool true, .int .i64 vt53, undef, undef, undef, undef, undef, undef, undef, undef, undef, undef, undef, undef, undef, undef, undef, undef, undef, undef, undef, undef, undef, undef, undef, undef, undef, undef, undef, undef], []⟩) (by kernel_rfl) ?_
    refine wpList_nil ?_
    refine hK67 _ _ ?_
    refine wp_ret ?_
    refine hret _ _ ?_
    have HS296 := HS61.cons_nil
    refine ends_still (v := Value.tuple #[.slice none 0 0, .int .i64 vt53]) (by kernel_rfl) (by kernel_rfl) ?_
    have HS298 := HS296.u4
    have HS299 := HS298.u4
    have HS300 := HS299.u4
    have HS301 := HS300.u4
    have HS302 := HS301.drop
    have HS303 := HS302.drop
    have HS304 := HS303.drop
    have HS305 := HS304.drop
    injection h with h
    injection h with h0_ h
    subst h0_ h
    exact ⟨f59, none, 0, [], rfl, (L16.trans (L30.trans L60)), HS305, (Own.nil _)⟩
  · have c65 : ¬ (vt53 ≠ 0) := c65
    refine wpRwI 37 (x := (vt53 != 0)) (v := false) (by kernel_rfl) (bne_eq_false_iff_eq.mpr (Decidable.of_not_not c65)) ?_
    refine condF (by kernel_rfl) ?_
    refine wp_skip ?_
    refine hK39 _ _ ?_
    refine wp_seq_k (fun K68 hK69 => ?_)
    refine wp_region_lit ?_
    refine seqS1 (a' := ⟨#[.agg #[.int .i64 p1.X, .int .i64 p1.Y], .int .i64 wide2, .int .i64 high3, .pointer (some ⟨b6, 0, none⟩), undef, undef, .slice none 0 0, .int .i64 0, .slice A19 vt12.length c20, .int .i64 vt13, .slice A33 vt26.length c34, .int .i64 vt27, .int .i64 vt53, .slice none 0 0, undef, undef, undef, undef, .tuple #[.slice A19 vt12.length c20, .int .i64 vt13], .pointer (some ⟨b6, 0, none⟩), .int .i64 p1.X, .int .i64 wide2, .tuple #[.slice A19 vt12.length c20, .int .i64 vt13], .slice A19 vt12.length c20, .int .i64 vt13, .tuple #[.slice A33 vt26.length c34, .int .i64 vt27], .pointer (some ⟨b6, 1, none⟩), .int .i64 p1.Y, .int .i64 high3, .tuple #[.slice A33 vt26.length c34, .int .i64 vt27], .slice A33 vt26.length c34, .int .i64 vt27, .int .i64 vt13, .int .i64 vt27, .slice (some ⟨b42, 0, none⟩) ([vt13, vt27] : List Int).length 2, .int .i64 vt53, .int .i64 vt53, .bool false, undef, undef, undef, undef, undef, undef, undef, undef, undef, undef, undef, undef, undef, undef, undef, undef, undef, undef, undef, undef, undef, undef, undef, undef, undef, undef, undef, undef, undef], []⟩) (by kernel_rfl) ?_
    refine wpList_nil ?_
    refine hK69 _ _ ?_
    refine wp_seq_k (fun K70 hK71 => ?_)
    refine wp_seq_k (fun K72 hK73 => ?_)
    refine wp_region_lit ?_
    refine seqS3 (a' := ⟨#[.agg #[.int .i64 p1.X, .int .i64 p1.Y], .int .i64 wide2, .int .i64 high3, .pointer (some ⟨b6, 0, none⟩), undef, undef, .slice none 0 0, .int .i64 0, .slice A19 vt12.length c20, .int .i64 vt13, .slice A33 vt26.length c34, .int .i64 vt27, .int .i64 vt53, .slice none 0 0, undef, undef, undef, undef, .tuple #[.slice A19 vt12.length c20, .int .i64 vt13], .pointer (some ⟨b6, 0, none⟩), .int .i64 p1.X, .int .i64 wide2, .tuple #[.slice A19 vt12.length c20, .int .i64 vt13], .slice A19 vt12.length c20, .int .i64 vt13, .tuple #[.slice A33 vt26.length c34, .int .i64 vt27], .pointer (some ⟨b6, 1, none⟩), .int .i64 p1.Y, .int .i64 high3, .tuple #[.slice A33 vt26.length c34, .int .i64 vt27], .slice A33 vt26.length c34, .int .i64 vt27, .int .i64 vt13, .int .i64 vt27, .slice (some ⟨b42, 0, none⟩) ([vt13, vt27] : List Int).length 2, .int .i64 vt53, .int .i64 vt53, .bool false, undef, .slice A33 vt26.length c34, .int .i64 (vt26.length : Int), .int .i64 0, undef, undef, undef, undef, undef, undef, undef, undef, undef, undef, undef, undef, undef, undef, undef, undef, undef, undef, undef, undef, undef, undef, undef, undef, undef], []⟩) (by kernel_rfl) ?_
    refine wpList_nil ?_
    refine hK73 _ _ ?_
    refine blockK (fun B74 hx75 hn76 hr77 ho78 hp79 => ?_)
    have hq_ := bind_some h; clear h; obtain ⟨o80, hv282, h⟩ := hq_
    have J283 : ∀ (f271 : FM) (A277 : Option Addr) (c278 : Nat) (s279 : Seg) (out276 : List S_Spot) (j275 : Nat → Value) (W273 : World) (a_ : Act), FM.le f59 f271 → some (out276) = some o80 → St t W273 f271 (s279 :: s44 :: s35 :: s21 :: [(b6, .cells #[.int .i64 p1.X, .int .i64 p1.Y] 35 (0, 0))] :: H) → Own ty_Spot 45 f271 A277 c278 s279 out276 → a_ = ⟨#[.agg #[.int .i64 p1.X, .int .i64 p1.Y], .int .i64 wide2, .int .i64 high3, .pointer (some ⟨b6, 0, none⟩), undef, undef, .slice none 0 0, .int .i64 0, .slice A19 vt12.length c20, .int .i64 vt13, .slice A33 vt26.length c34, .int .i64 vt27, .int .i64 vt53, .slice A277 out276.length c278, undef, (j275 0), undef, (j275 1), .tuple #[.slice A19 vt12.length c20, .int .i64 vt13], .pointer (some ⟨b6, 0, none⟩), .int .i64 p1.X, .int .i64 wide2, .tuple #[.slice A19 vt12.length c20, .int .i64 vt13], .slice A19 vt12.length c20, .int .i64 vt13, .tuple #[.slice A33 vt26.length c34, .int .i64 vt27], .pointer (some ⟨b6, 1, none⟩), .int .i64 p1.Y, .int .i64 high3, .tuple #[.slice A33 vt26.length c34, .int .i64 vt27], .slice A33 vt26.length c34, .int .i64 vt27, .int .i64 vt13, .int .i64 vt27, .slice (some ⟨b42, 0, none⟩) ([vt13, vt27] : List Int).length 2, .int .i64 vt53, .int .i64 vt53, .bool false, undef, .slice A33 vt26.length c34, .int .i64 (vt26.length : Int), (j275 2), (j275 3), (j275 4), (j275 5), (j275 6), (j275 7), (j275 8), (j275 9), (j275 10), (j275 11), (j275 12), (j275 13), (j275 14), (j275 15), (j275 16), (j275 17), (j275 18), (j275 19), (j275 20), (j275 21), (j275 22), (j275 23), (j275 24), (j275 25), (j275 26), undef], []⟩ → K70 a_ W273 := by
      intro f271 A277 c278 s279 out276 j275 W273 a_ L272 hj284 HS274 HO280 hfr_; subst hfr_
      injection hj284 with hj284; subst hj284; try dsimp only at h
      refine hK71 _ _ ?_
      refine wp_seq_k (fun K294 hK295 => ?_)
      refine wp_region_lit ?_
      refine seqS3 (a' := ⟨#[.agg #[.int .i64 p1.X, .int .i64 p1.Y], .int .i64 wide2, .int .i64 high3, .pointer (some ⟨b6, 0, none⟩), undef, undef, .slice A277 out276.length c278, .int .i64 0, .slice A19 vt12.length c20, .int .i64 vt13, .slice A33 vt26.length c34, .int .i64 vt27, .int .i64 vt53, .slice A277 out276.length c278, undef, (j275 0), undef, (j275 1), .tuple #[.slice A19 vt12.length c20, .int .i64 vt13], .pointer (some ⟨b6, 0, none⟩), .int .i64 p1.X, .int .i64 wide2, .tuple #[.slice A19 vt12.length c20, .int .i64 vt13], .slice A19 vt12.length c20, .int .i64 vt13, .tuple #[.slice A33 vt26.length c34, .int .i64 vt27], .pointer (some ⟨b6, 1, none⟩), .int .i64 p1.Y, .int .i64 high3, .tuple #[.slice A33 vt26.length c34, .int .i64 vt27], .slice A33 vt26.length c34, .int .i64 vt27, .int .i64 vt13, .int .i64 vt27, .slice (some ⟨b42, 0, none⟩) ([vt13, vt27] : List Int).length 2, .int .i64 vt53, .int .i64 vt53, .bool false, undef, .slice A33 vt26.length c34, .int .i64 (vt26.length : Int), (j275 2), (j275 3), (j275 4), (j275 5), (j275 6), (j275 7), (j275 8), (j275 9), (j275 10), (j275 11), (j275 12), (j275 13), (j275 14), (j275 15), (j275 16), (j275 17), (j275 18), (j275 19), (j275 20), (j275 21), (j275 22), (j275 23), (j275 24), (j275 25), (j275 26), .slice A277 out276.length c278], []⟩) (by kernel_rfl) ?_
      refine wpList_nil ?_
      refine hK295 _ _ ?_
      refine wp_ret ?_
      refine hret _ _ ?_
      refine ends_still (v := Value.tuple #[.slice A277 out276.length c278, .int .i64 0]) (by kernel_rfl) (by kernel_rfl) ?_
      have HS306 := HS274.u4
      have HS307 := HS306.u4
      have HS308 := HS307.u4
      have HS309 := HS308.u4
      have HS310 := HS309.drop
      have HS311 := HS310.drop
      have HS312 := HS311.drop
      have HS313 := HS312.drop
      injection h with h
      injection h with h0_ h
      subst h0_ h
      exact ⟨f271, A277, c278, s279, rfl, (L16.trans (L30.trans (L60.trans L272))), HS313, HO280⟩
    clear h; have h := hv282; clear hv282
    have HS285 := HS61.cons_nil
    refine loopK (fun n_ a_ w_ => ∃ (f84 : FM) (A90 : Option Addr) (c91 : Nat) (s92 : Seg) (out89 : List S_Spot) (x95 : Int) (j88 : Nat → Value), FM.le f59 f84 ∧ St t w_ f84 (s92 :: s44 :: s35 :: s21 :: [(b6, .cells #[.int .i64 p1.X, .int .i64 p1.Y] 35 (0, 0))] :: H) ∧ Own ty_Spot 45 f84 A90 c91 s92 out89 ∧ optics_Point.l0 k vt26 vt12 n_ out89 x95 = some o80 ∧ a_ = ⟨#[.agg #[.int .i64 p1.X, .int .i64 p1.Y], .int .i64 wide2, .int .i64 high3, .pointer (some ⟨b6, 0, none⟩), undef, undef, .slice none 0 0, .int .i64 0, .slice A19 vt12.length c20, .int .i64 vt13, .slice A33 vt26.length c34, .int .i64 vt27, .int .i64 vt53, .slice A90 out89.length c91, undef, (j88 0), undef, (j88 1), .tuple #[.slice A19 vt12.length c20, .int .i64 vt13], .pointer (some ⟨b6, 0, none⟩), .int .i64 p1.X, .int .i64 wide2, .tuple #[.slice A19 vt12.length c20, .int .i64 vt13], .slice A19 vt12.length c20, .int .i64 vt13, .tuple #[.slice A33 vt26.length c34, .int .i64 vt27], .pointer (some ⟨b6, 1, none⟩), .int .i64 p1.Y, .int .i64 high3, .tuple #[.slice A33 vt26.length c34, .int .i64 vt27], .slice A33 vt26.length c34, .int .i64 vt27, .int .i64 vt13, .int .i64 vt27, .slice (some ⟨b42, 0, none⟩) ([vt13, vt27] : List Int).length 2, .int .i64 vt53, .int .i64 vt53, .bool false, undef, .slice A33 vt26.length c34, .int .i64 (vt26.length : Int), .int .i64 x95, (j88 2), (j88 3), (j88 4), (j88 5), (j88 6), (j88 7), (j88 8), (j88 9), (j88 10), (j88 11), (j88 12), (j88 13), (j88 14), (j88 15), (j88 16), (j88 17), (j88 18), (j88 19), (j88 20), (j88 21), (j88 22), (j88 23), (j88 24), (j88 25), undef], []⟩) k ⟨f59, none, 0, [], ([] : List S_Spot), 0, (fun i_ => [undef, undef, undef, undef, undef, undef, undef, undef, undef, undef, undef, undef, undef, undef, undef, undef, undef, undef, undef, undef, undef, undef, undef, undef, undef, undef].getD i_ undef), (FM.le.refl _), HS285, (Own.nil _), h, (by kernel_rfl)⟩ ?_
    clear h
    rintro n83 _ W86 ⟨f84, A90, c91, s92, out89, x95, j88, L85, HS87, HO93, h, rfl⟩ K81 hK82
    obtain _ | n83 := n83
    · exact nomatch h
    simp only [optics_Point.l0] at h
    refine wp_seq_k (fun K96 hK97 => ?_)
    refine wp_region_lit ?_
    refine seqS1 (a' := ⟨#[.agg #[.int .i64 p1.X, .int .i64 p1.Y], .int .i64 wide2, .int .i64 high3, .pointer (some ⟨b6, 0, none⟩), undef, undef, .slice none 0 0, .int .i64 0, .slice A19 vt12.length c20, .int .i64 vt13, .slice A33 vt26.length c34, .int .i64 vt27, .int .i64 vt53, .slice A90 out89.length c91, undef, (j88 0), undef, (j88 1), .tuple #[.slice A19 vt12.length c20, .int .i64 vt13], .pointer (some ⟨b6, 0, none⟩), .int .i64 p1.X, .int .i64 wide2, .tuple #[.slice A19 vt12.length c20, .int .i64 vt13], .slice A19 vt12.length c20, .int .i64 vt13, .tuple #[.slice A33 vt26.length c34, .int .i64 vt27], .pointer (some ⟨b6, 1, none⟩), .int .i64 p1.Y, .int .i64 high3, .tuple #[.slice A33 vt26.length c34, .int .i64 vt27], .slice A33 vt26.length c34, .int .i64 vt27, .int .i64 vt13, .int .i64 vt27, .slice (some ⟨b42, 0, none⟩) ([vt13, vt27] : List Int).length 2, .int .i64 vt53, .int .i64 vt53, .bool false, undef, .slice A33 vt26.length c34, .int .i64 (vt26.length : Int), .int .i64 x95, .bool (decide (x95 < (vt26.length : Int))), (j88 3), (j88 4), (j88 5), (j88 6), (j88 7), (j88 8), (j88 9), (j88 10), (j88 11), (j88 12), (j88 13), (j88 14), (j88 15), (j88 16), (j88 17), (j88 18), (j88 19), (j88 20), (j88 21), (j88 22), (j88 23), (j88 24), (j88 25), undef], []⟩) (by kernel_rfl) ?_
    refine wpList_nil ?_
    refine hK97 _ _ ?_
    refine wp_seq_k (fun K98 hK99 => ?_)
    have hq_ := ite_some h; clear h; rcases hq_ with ⟨c101, h⟩ | ⟨c101, h⟩
    · have c101 : x95 < (vt26.length : Int) := c101
      refine wpRwI 42 (x := (decide (x95 < (vt26.length : Int)))) (v := true) (by kernel_rfl) (decide_eq_true c101) ?_
      refine condT (by kernel_rfl) ?_
      refine wp_skip ?_
      refine hK99 _ _ ?_
      refine wp_seq_k (fun K102 hK103 => ?_)
      refine blockK (fun B104 hx105 hn106 hr107 ho108 hp109 => ?_)
      refine wp_seq_k (fun K111 hK112 => ?_)
      refine wp_region_lit ?_
      have hq_ := guard_some h; clear h; obtain ⟨c113, h⟩ := hq_
      have c113 : 0 ≤ x95 := c113
      obtain ⟨b117, of118, cs114, rfl, hr115, hc116⟩ := (HO36.mono (L60.trans L85)).at (i := x95) c113 c101
      obtain rfl := hr115
      refine seqK rfl (does_run (run_index (sz := 2) rfl Try.underlying23 (by kernel_rfl) (by kernel_rfl : _ = Value.slice (some ⟨b117, of118, none⟩) vt26.length c34) (by kernel_rfl : _ = Value.int .i64 x95) c113 c101 W86) ?_)
      refine seqK rfl (does_run (run_loadN (n := 2) rfl Try.underlying32 rfl (by kernel_rfl) (by kernel_rfl : _ = Value.pointer (some ⟨b117, of118 + (x95 : Int).toNat * 2, none⟩)) (cs := [.int .i64 ((rd vt26 x95).Cell), .int .i64 ((rd vt26 x95).Weight)]) rfl (fun j_ hj_ => ((hc116 HS87.u2) j_ hj_))) ?_)
      refine seqK rfl (does_alloc (z := Value.agg #[.int .i64 0, .int .i64 0]) (cs := #[.int .i64 0, .int .i64 0]) rfl (by kernel_rfl) rfl HS87 ?_)
      intro b119 W120 HS121
      refine seqK rfl (does_store (n := 2) (vs := [.int .i64 ((rd vt26 x95).Cell), .int .i64 ((rd vt26 x95).Weight)]) (cs' := #[.int .i64 ((rd vt26 x95).Cell), .int .i64 ((rd vt26 x95).Weight)]) rfl (by kernel_rfl) (by kernel_rfl : _ = Value.pointer (some ⟨b119, 0, none⟩)) (by kernel_rfl : _ = Value.agg #[.int .i64 ((rd vt26 x95).Cell), .int .i64 ((rd vt26 x95).Weight)]) rfl rfl (by intro u_ hu_; simp only [List.mem_cons, List.not_mem_nil, or_false] at hu_; rcases hu_ with rfl | rfl <;> rfl) HS121 (Nat.le_of_ble_eq_true rfl) (by kernel_rfl) ?_)
      intro W123 HS124
      refine wpList_nil ?_
      refine hK112 _ _ ?_
      refine wp_seq_k (fun K125 hK126 => ?_)
      refine wp_region_lit ?_
      refine seqS3 (a' := ⟨#[.agg #[.int .i64 p1.X, .int .i64 p1.Y], .int .i64 wide2, .int .i64 high3, .pointer (some ⟨b6, 0, none⟩), undef, undef, .slice none 0 0, .int .i64 0, .slice A19 vt12.length c20, .int .i64 vt13, .slice (some ⟨b117, of118, none⟩) vt26.length c34, .int .i64 vt27, .int .i64 vt53, .slice A90 out89.length c91, undef, .pointer (some ⟨b119, 0, none⟩), undef, (j88 1), .tuple #[.slice A19 vt12.length c20, .int .i64 vt13], .pointer (some ⟨b6, 0, none⟩), .int .i64 p1.X, .int .i64 wide2, .tuple #[.slice A19 vt12.length c20, .int .i64 vt13], .slice A19 vt12.length c20, .int .i64 vt13, .tuple #[.slice (some ⟨b117, of118, none⟩) vt26.length c34, .int .i64 vt27], .pointer (some ⟨b6, 1, none⟩), .int .i64 p1.Y, .int .i64 high3, .tuple #[.slice (some ⟨b117, of118, none⟩) vt26.length c34, .int .i64 vt27], .slice (some ⟨b117, of118, none⟩) vt26.length c34, .int .i64 vt27, .int .i64 vt13, .int .i64 vt27, .slice (some ⟨b42, 0, none⟩) ([vt13, vt27] : List Int).length 2, .int .i64 vt53, .int .i64 vt53, .bool false, undef, .slice (some ⟨b117, of118, none⟩) vt26.length c34, .int .i64 (vt26.length : Int), .int .i64 x95, .bool true, .pointer (some ⟨b117, of118 + (x95 : Int).toNat * 2, none⟩), .agg #[.int .i64 ((rd vt26 x95).Cell), .int .i64 ((rd vt26 x95).Weight)], .slice A19 vt12.length c20, .int .i64 (vt12.length : Int), .int .i64 0, (j88 8), (j88 9), (j88 10), (j88 11), (j88 12), (j88 13), (j88 14), (j88 15), (j88 16), (j88 17), (j88 18), (j88 19), (j88 20), (j88 21), (j88 22), (j88 23), (j88 24), (j88 25), undef], []⟩) (by kernel_rfl) ?_
      refine wpList_nil ?_
      refine hK126 _ _ ?_
      refine blockK (fun B127 hx128 hn129 hr130 ho131 hp132 => ?_)
      have hq_ := bind_some h; clear h; obtain ⟨o191, hv260, h⟩ := hq_
      have J261 : ∀ (f250 : FM) (A256 : Option Addr) (c257 : Nat) (s258 : Seg) (out255 : List S_Spot) (j254 : Nat → Value) (W252 : World) (a_ : Act), FM.le f84 f250 → some (out255) = some o191 → St t W252 f250 ([(b119, .cells #[.int .i64 ((rd vt26 x95).Cell), .int .i64 ((rd vt26 x95).Weight)] 32 (0, 0))] :: s258 :: s44 :: s35 :: s21 :: [(b6, .cells #[.int .i64 p1.X, .int .i64 p1.Y] 35 (0, 0))] :: H) → Own ty_Spot 45 f250 A256 c257 s258 out255 → a_ = ⟨#[.agg #[.int .i64 p1.X, .int .i64 p1.Y], .int .i64 wide2, .int .i64 high3, .pointer (some ⟨b6, 0, none⟩), undef, undef, .slice none 0 0, .int .i64 0, .slice A19 vt12.length c20, .int .i64 vt13, .slice (some ⟨b117, of118, none⟩) vt26.length c34, .int .i64 vt27, .int .i64 vt53, .slice A256 out255.length c257, undef, .pointer (some ⟨b119, 0, none⟩), undef, (j254 0), .tuple #[.slice A19 vt12.length c20, .int .i64 vt13], .pointer (some ⟨b6, 0, none⟩), .int .i64 p1.X, .int .i64 wide2, .tuple #[.slice A19 vt12.length c20, .int .i64 vt13], .slice A19 vt12.length c20, .int .i64 vt13, .tuple #[.slice (some ⟨b117, of118, none⟩) vt26.length c34, .int .i64 vt27], .pointer (some ⟨b6, 1, none⟩), .int .i64 p1.Y, .int .i64 high3, .tuple #[.slice (some ⟨b117, of118, none⟩) vt26.length c34, .int .i64 vt27], .slice (some ⟨b117, of118, none⟩) vt26.length c34, .int .i64 vt27, .int .i64 vt13, .int .i64 vt27, .slice (some ⟨b42, 0, none⟩) ([vt13, vt27] : List Int).length 2, .int .i64 vt53, .int .i64 vt53, .bool false, undef, .slice (some ⟨b117, of118, none⟩) vt26.length c34, .int .i64 (vt26.length : Int), .int .i64 x95, .bool true, .pointer (some ⟨b117, of118 + (x95 : Int).toNat * 2, none⟩), .agg #[.int .i64 ((rd vt26 x95).Cell), .int .i64 ((rd vt26 x95).Weight)], .slice A19 vt12.length c20, .int .i64 (vt12.length : Int), (j254 1), (j254 2), (j254 3), (j254 4), (j254 5), (j254 6), (j254 7), (j254 8), (j254 9), (j254 10), (j254 11), (j254 12), (j254 13), (j254 14), (j254 15), (j254 16), (j254 17), (j254 18), (j88 25), undef], []⟩ → B104 Exit.normal a_ W252 := by
        intro f250 A256 c257 s258 out255 j254 W252 a_ L251 hj262 HS253 HO259 hfr_; subst hfr_
        injection hj262 with hj262; subst hj262; try dsimp only at h
        refine hn106 _ _ ?_
        refine hK103 _ _ ?_
        refine wp_region_lit ?_
        refine seqS2 (a' := ⟨#[.agg #[.int .i64 p1.X, .int .i64 p1.Y], .int .i64 wide2, .int .i64 high3, .pointer (some ⟨b6, 0, none⟩), undef, undef, .slice none 0 0, .int .i64 0, .slice A19 vt12.length c20, .int .i64 vt13, .slice (some ⟨b117, of118, none⟩) vt26.length c34, .int .i64 vt27, .int .i64 vt53, .slice A256 out255.length c257, undef, .pointer (some ⟨b119, 0, none⟩), undef, (j254 0), .tuple #[.slice A19 vt12.length c20, .int .i64 vt13], .pointer (some ⟨b6, 0, none⟩), .int .i64 p1.X, .int .i64 wide2, .tuple #[.slice A19 vt12.length c20, .int .i64 vt13], .slice A19 vt12.length c20, .int .i64 vt13, .tuple #[.slice (some ⟨b117, of118, none⟩) vt26.length c34, .int .i64 vt27], .pointer (some ⟨b6, 1, none⟩), .int .i64 p1.Y, .int .i64 high3, .tuple #[.slice (some ⟨b117, of118, none⟩) vt26.length c34, .int .i64 vt27], .slice (some ⟨b117, of118, none⟩) vt26.length c34, .int .i64 vt27, .int .i64 vt13, .int .i64 vt27, .slice (some ⟨b42, 0, none⟩) ([vt13, vt27] : List Int).length 2, .int .i64 vt53, .int .i64 vt53, .bool false, undef, .slice (some ⟨b117, of118, none⟩) vt26.length c34, .int .i64 (vt26.length : Int), .int .i64 (w64 (x95 + 1)), .bool true, .pointer (some ⟨b117, of118 + (x95 : Int).toNat * 2, none⟩), .agg #[.int .i64 ((rd vt26 x95).Cell), .int .i64 ((rd vt26 x95).Weight)], .slice A19 vt12.length c20, .int .i64 (vt12.length : Int), (j254 1), (j254 2), (j254 3), (j254 4), (j254 5), (j254 6), (j254 7), (j254 8), (j254 9), (j254 10), (j254 11), (j254 12), (j254 13), (j254 14), (j254 15), (j254 16), (j254 17), (j254 18), .int .i64 (w64 (x95 + 1)), undef], []⟩) (by kernel_rfl) ?_
        refine wpList_nil ?_
        refine hK82 n83 _ _ (Nat.lt_succ_self _) ?_
        have HS287 := HS253.u5
        have HS288 := HS287.u5
        have HS289 := HS288.u5
        have HS290 := HS289.u5
        have HS291 := HS290.u5
        have HS292 := HS291.u5
        have HS293 := HS292.drop
        exact ⟨f250, A256, c257, s258, out255, (w64 (x95 + 1)), (fun i_ => [Value.pointer (some ⟨b119, 0, none⟩), (j254 0), Value.bool true, Value.pointer (some ⟨b117, of118 + (x95 : Int).toNat * 2, none⟩), Value.agg #[.int .i64 ((rd vt26 x95).Cell), .int .i64 ((rd vt26 x95).Weight)], Value.slice A19 vt12.length c20, Value.int .i64 (vt12.length : Int), (j254 1), (j254 2), (j254 3), (j254 4), (j254 5), (j254 6), (j254 7), (j254 8), (j254 9), (j254 10), (j254 11), (j254 12), (j254 13), (j254 14), (j254 15), (j254 16), (j254 17), (j254 18), Value.int .i64 (w64 (x95 + 1))].getD i_ undef), (L85.trans L251), HS293, HO259, h, (by kernel_rfl)⟩
      clear h; have h := hv260; clear hv260
      refine loopK (fun n_ a_ w_ => ∃ (f195 : FM) (A201 : Option Addr) (c202 : Nat) (s203 : Seg) (out200 : List S_Spot) (x205 : Int) (j199 : Nat → Value), FM.le f84 f195 ∧ St t w_ f195 ([(b119, .cells #[.int .i64 ((rd vt26 x95).Cell), .int .i64 ((rd vt26 x95).Weight)] 32 (0, 0))] :: s203 :: s44 :: s35 :: s21 :: [(b6, .cells #[.int .i64 p1.X, .int .i64 p1.Y] 35 (0, 0))] :: H) ∧ Own ty_Spot 45 f195 A201 c202 s203 out200 ∧ optics_Point.l1 k vt12 vt26 x95 n_ out200 x205 = some o191 ∧ a_ = ⟨#[.agg #[.int .i64 p1.X, .int .i64 p1.Y], .int .i64 wide2, .int .i64 high3, .pointer (some ⟨b6, 0, none⟩), undef, undef, .slice none 0 0, .int .i64 0, .slice A19 vt12.length c20, .int .i64 vt13, .slice (some ⟨b117, of118, none⟩) vt26.length c34, .int .i64 vt27, .int .i64 vt53, .slice A201 out200.length c202, undef, .pointer (some ⟨b119, 0, none⟩), undef, (j199 0), .tuple #[.slice A19 vt12.length c20, .int .i64 vt13], .pointer (some ⟨b6, 0, none⟩), .int .i64 p1.X, .int .i64 wide2, .tuple #[.slice A19 vt12.length c20, .int .i64 vt13], .slice A19 vt12.length c20, .int .i64 vt13, .tuple #[.slice (some ⟨b117, of118, none⟩) vt26.length c34, .int .i64 vt27], .pointer (some ⟨b6, 1, none⟩), .int .i64 p1.Y, .int .i64 high3, .tuple #[.slice (some ⟨b117, of118, none⟩) vt26.length c34, .int .i64 vt27], .slice (some ⟨b117, of118, none⟩) vt26.length c34, .int .i64 vt27, .int .i64 vt13, .int .i64 vt27, .slice (some ⟨b42, 0, none⟩) ([vt13, vt27] : List Int).length 2, .int .i64 vt53, .int .i64 vt53, .bool false, undef, .slice (some ⟨b117, of118, none⟩) vt26.length c34, .int .i64 (vt26.length : Int), .int .i64 x95, .bool true, .pointer (some ⟨b117, of118 + (x95 : Int).toNat * 2, none⟩), .agg #[.int .i64 ((rd vt26 x95).Cell), .int .i64 ((rd vt26 x95).Weight)], .slice A19 vt12.length c20, .int .i64 (vt12.length : Int), .int .i64 x205, (j199 1), (j199 2), (j199 3), (j199 4), (j199 5), (j199 6), (j199 7), (j199 8), (j199 9), (j199 10), (j199 11), (j199 12), (j199 13), (j199 14), (j199 15), (j199 16), (j199 17), (j88 25), undef], []⟩) k ⟨f84, A90, c91, s92, out89, 0, (fun i_ => [(j88 1), (j88 8), (j88 9), (j88 10), (j88 11), (j88 12), (j88 13), (j88 14), (j88 15), (j88 16), (j88 17), (j88 18), (j88 19), (j88 20), (j88 21), (j88 22), (j88 23), (j88 24)].getD i_ undef), (FM.le.refl _), HS124, HO93, h, (by kernel_rfl)⟩ ?_
      clear h
      rintro n194 _ W197 ⟨f195, A201, c202, s203, out200, x205, j199, L196, HS198, HO204, h, rfl⟩ K192 hK193
      obtain _ | n194 := n194
      · exact nomatch h
      simp only [optics_Point.l1] at h
      refine wp_seq_k (fun K206 hK207 => ?_)
      refine wp_region_lit ?_
      refine seqS1 (a' := ⟨#[.agg #[.int .i64 p1.X, .int .i64 p1.Y], .int .i64 wide2, .int .i64 high3, .pointer (some ⟨b6, 0, none⟩), undef, undef, .slice none 0 0, .int .i64 0, .slice A19 vt12.length c20, .int .i64 vt13, .slice (some ⟨b117, of118, none⟩) vt26.length c34, .int .i64 vt27, .int .i64 vt53, .slice A201 out200.length c202, undef, .pointer (some ⟨b119, 0, none⟩), undef, (j199 0), .tuple #[.slice A19 vt12.length c20, .int .i64 vt13], .pointer (some ⟨b6, 0, none⟩), .int .i64 p1.X, .int .i64 wide2, .tuple #[.slice A19 vt12.length c20, .int .i64 vt13], .slice A19 vt12.length c20, .int .i64 vt13, .tuple #[.slice (some ⟨b117, of118, none⟩) vt26.length c34, .int .i64 vt27], .pointer (some ⟨b6, 1, none⟩), .int .i64 p1.Y, .int .i64 high3, .tuple #[.slice (some ⟨b117, of118, none⟩) vt26.length c34, .int .i64 vt27], .slice (some ⟨b117, of118, none⟩) vt26.length c34, .int .i64 vt27, .int .i64 vt13, .int .i64 vt27, .slice (some ⟨b42, 0, none⟩) ([vt13, vt27] : List Int).length 2, .int .i64 vt53, .int .i64 vt53, .bool false, undef, .slice (some ⟨b117, of118, none⟩) vt26.length c34, .int .i64 (vt26.length : Int), .int .i64 x95, .bool true, .pointer (some ⟨b117, of118 + (x95 : Int).toNat * 2, none⟩), .agg #[.int .i64 ((rd vt26 x95).Cell), .int .i64 ((rd vt26 x95).Weight)], .slice A19 vt12.length c20, .int .i64 (vt12.length : Int), .int .i64 x205, .bool (decide (x205 < (vt12.length : Int))), (j199 2), (j199 3), (j199 4), (j199 5), (j199 6), (j199 7), (j199 8), (j199 9), (j199 10), (j199 11), (j199 12), (j199 13), (j199 14), (j199 15), (j199 16), (j199 17), (j88 25), undef], []⟩) (by kernel_rfl) ?_
      refine wpList_nil ?_
      refine hK207 _ _ ?_
      refine wp_seq_k (fun K208 hK209 => ?_)
      have hq_ := ite_some h; clear h; rcases hq_ with ⟨c211, h⟩ | ⟨c211, h⟩
      · have c211 : x205 < (vt12.length : Int) := c211
        refine wpRwI 48 (x := (decide (x205 < (vt12.length : Int)))) (v := true) (by kernel_rfl) (decide_eq_true c211) ?_
        refine condT (by kernel_rfl) ?_
        refine wp_skip ?_
        refine hK209 _ _ ?_
        refine wp_seq_k (fun K212 hK213 => ?_)
        refine blockK (fun B214 hx215 hn216 hr217 ho218 hp219 => ?_)
        refine wp_seq_k (fun K221 hK222 => ?_)
        refine wp_region_lit ?_
        have hq_ := guard_some h; clear h; obtain ⟨c223, h⟩ := hq_
        have c223 : 0 ≤ x205 := c223
        obtain ⟨b227, of228, cs224, rfl, hr225, hc226⟩ := (HO22.mono (L30.trans (L60.trans (L85.trans L196)))).at (i := x205) c223 c211
        obtain rfl := hr225
        refine seqK rfl (does_run (run_index (sz := 2) rfl Try.underlying23 (by kernel_rfl) (by kernel_rfl : _ = Value.slice (some ⟨b227, of228, none⟩) vt12.length c20) (by kernel_rfl : _ = Value.int .i64 x205) c223 c211 W197) ?_)
        refine seqK rfl (does_run (run_loadN (n := 2) rfl Try.underlying32 rfl (by kernel_rfl) (by kernel_rfl : _ = Value.pointer (some ⟨b227, of228 + (x205 : Int).toNat * 2, none⟩)) (cs := [.int .i64 ((rd vt12 x205).Cell), .int .i64 ((rd vt12 x205).Weight)]) rfl (fun j_ hj_ => ((hc226 HS198.u4) j_ hj_))) ?_)
        refine seqK rfl (does_alloc (z := Value.agg #[.int .i64 0, .int .i64 0]) (cs := #[.int .i64 0, .int .i64 0]) rfl (by kernel_rfl) rfl HS198 ?_)
        intro b229 W230 HS231
        refine seqK rfl (does_store (n := 2) (vs := [.int .i64 ((rd vt12 x205).Cell), .int .i64 ((rd vt12 x205).Weight)]) (cs' := #[.int .i64 ((rd vt12 x205).Cell), .int .i64 ((rd vt12 x205).Weight)]) rfl (by kernel_rfl) (by kernel_rfl : _ = Value.pointer (some ⟨b229, 0, none⟩)) (by kernel_rfl : _ = Value.agg #[.int .i64 ((rd vt12 x205).Cell), .int .i64 ((rd vt12 x205).Weight)]) rfl rfl (by intro u_ hu_; simp only [List.mem_cons, List.not_mem_nil, or_false] at hu_; rcases hu_ with rfl | rfl <;> rfl) HS231 (Nat.le_of_ble_eq_true rfl) (by kernel_rfl) ?_)
        intro W233 HS234
        refine wpList_nil ?_
        refine hK222 _ _ ?_
        refine wp_region_lit ?_
        refine seqL2 (by kernel_rfl) ?_
        refine seqK rfl (does_run (run_load rfl Try.underlying3 rfl (by kernel_rfl : _ = Value.pointer (some ⟨b229, 0, none⟩)) (HS234.cell 0)) ?_)
        refine seqL1 (by kernel_rfl) ?_
        refine seqK rfl (does_run (run_load rfl Try.underlying3 rfl (by kernel_rfl : _ = Value.pointer (some ⟨b119, 0, none⟩)) (HS234.u1.cell 0)) ?_)
        refine seqL1 (by kernel_rfl) ?_
        refine seqK rfl (does_run (run_load rfl Try.underlying30 rfl (by kernel_rfl : _ = Value.pointer (some ⟨b229, 1, none⟩)) (HS234.cell 1)) ?_)
        refine seqL1 (by kernel_rfl) ?_
        refine seqK rfl (does_run (run_load rfl Try.underlying30 rfl (by kernel_rfl : _ = Value.pointer (some ⟨b119, 1, none⟩)) (HS234.u1.cell 1)) ?_)
        refine seqL2 (by kernel_rfl) ?_
        refine seqK rfl (does_lit (e := ty_Spot) (E := 45) (vs := #[(0, Value.agg #[.int .i64 ((rd vt12 x205).Cell), .int .i64 ((rd vt26 x95).Cell), .int .i64 (w64 (((rd vt12 x205).Weight) * ((rd vt26 x95).Weight)))])]) (cs := #[.int .i64 ((rd vt12 x205).Cell), .int .i64 ((rd vt26 x95).Cell), .int .i64 (w64 (((rd vt12 x205).Weight) * ((rd vt26 x95).Weight)))]) (xs := ([(⟨(rd vt12 x205).Cell, (rd vt26 x95).Cell, w64 (((rd vt12 x205).Weight) * ((rd vt26 x95).Weight))⟩ : S_Spot)] : List S_Spot)) rfl Try.underlying37 (by kernel_rfl) (by kernel_rfl) ⟨[.int .i64 ((rd vt12 x205).Cell), .int .i64 ((rd vt26 x95).Cell), .int .i64 (w64 (((rd vt12 x205).Weight) * ((rd vt26 x95).Weight)))], _, rfl, rfl, rfl⟩ rfl HS234 ?_ (by decide))
        intro b235 W236 s237 HS238 _ HO239
        have hq_ := guard_some h; clear h; obtain ⟨c241, h⟩ := hq_
        have c241 : (out200.length + 1) * 24 ≤ 140737488355328 := c241
        have HS242 := HS238.u3
        have HS243 := HS242.u1
        refine seqK rfl (does_append1 (e := ty_Spot) (E := 45) (xs := out200) (ys := ([(⟨(rd vt12 x205).Cell, (rd vt26 x95).Cell, w64 (((rd vt12 x205).Weight) * ((rd vt26 x95).Weight))⟩ : S_Spot)] : List S_Spot)) rfl (by kernel_rfl : _ = Value.slice A201 out200.length c202) (by kernel_rfl : _ = Value.slice (some ⟨b235, 0, none⟩) ([(⟨(rd vt12 x205).Cell, (rd vt26 x95).Cell, w64 (((rd vt12 x205).Weight) * ((rd vt26 x95).Weight))⟩ : S_Spot)] : List S_Spot).length 1) Try.underlying37 inf45 HO204 HO239 HS243 c241 (lim63 c241 (by decide)) ?_)
        intro A244 c245 s246 W247 HS248 HO249
        refine seqS1 (a' := ⟨#[.agg #[.int .i64 p1.X, .int .i64 p1.Y], .int .i64 wide2, .int .i64 high3, .pointer (some ⟨b6, 0, none⟩), undef, undef, .slice none 0 0, .int .i64 0, .slice (some ⟨b227, of228, none⟩) vt12.length c20, .int .i64 vt13, .slice (some ⟨b117, of118, none⟩) vt26.length c34, .int .i64 vt27, .int .i64 vt53, .slice A244 (out200 ++ ([(⟨(rd vt12 x205).Cell, (rd vt26 x95).Cell, w64 (((rd vt12 x205).Weight) * ((rd vt26 x95).Weight))⟩ : S_Spot)] : List S_Spot)).length c245, undef, .pointer (some ⟨b119, 0, none⟩), undef, .pointer (some ⟨b229, 0, none⟩), .tuple #[.slice (some ⟨b227, of228, none⟩) vt12.length c20, .int .i64 vt13], .pointer (some ⟨b6, 0, none⟩), .int .i64 p1.X, .int .i64 wide2, .tuple #[.slice (some ⟨b227, of228, none⟩) vt12.length c20, .int .i64 vt13], .slice (some ⟨b227, of228, none⟩) vt12.length c20, .int .i64 vt13, .tuple #[.slice (some ⟨b117, of118, none⟩) vt26.length c34, .int .i64 vt27], .pointer (some ⟨b6, 1, none⟩), .int .i64 p1.Y, .int .i64 high3, .tuple #[.slice (some ⟨b117, of118, none⟩) vt26.length c34, .int .i64 vt27], .slice (some ⟨b117, of118, none⟩) vt26.length c34, .int .i64 vt27, .int .i64 vt13, .int .i64 vt27, .slice (some ⟨b42, 0, none⟩) ([vt13, vt27] : List Int).length 2, .int .i64 vt53, .int .i64 vt53, .bool false, undef, .slice (some ⟨b117, of118, none⟩) vt26.length c34, .int .i64 (vt26.length : Int), .int .i64 x95, .bool true, .pointer (some ⟨b117, of118 + (x95 : Int).toNat * 2, none⟩), .agg #[.int .i64 ((rd vt26 x95).Cell), .int .i64 ((rd vt26 x95).Weight)], .slice (some ⟨b227, of228, none⟩) vt12.length c20, .int .i64 (vt12.length : Int), .int .i64 x205, .bool true, .pointer (some ⟨b227, of228 + (x205 : Int).toNat * 2, none⟩), .agg #[.int .i64 ((rd vt12 x205).Cell), .int .i64 ((rd vt12 x205).Weight)], .slice A201 out200.length c202, .pointer (some ⟨b229, 0, none⟩), .int .i64 ((rd vt12 x205).Cell), .pointer (some ⟨b119, 0, none⟩), .int .i64 ((rd vt26 x95).Cell), .pointer (some ⟨b229, 1, none⟩), .int .i64 ((rd vt12 x205).Weight), .pointer (some ⟨b119, 1, none⟩), .int .i64 ((rd vt26 x95).Weight), .int .i64 (w64 (((rd vt12 x205).Weight) * ((rd vt26 x95).Weight))), .agg #[.int .i64 ((rd vt12 x205).Cell), .int .i64 ((rd vt26 x95).Cell), .int .i64 (w64 (((rd vt12 x205).Weight) * ((rd vt26 x95).Weight)))], .slice (some ⟨b235, 0, none⟩) ([(⟨(rd vt12 x205).Cell, (rd vt26 x95).Cell, w64 (((rd vt12 x205).Weight) * ((rd vt26 x95).Weight))⟩ : S_Spot)] : List S_Spot).length 1, .slice A244 (out200 ++ ([(⟨(rd vt12 x205).Cell, (rd vt26 x95).Cell, w64 (((rd vt12 x205).Weight) * ((rd vt26 x95).Weight))⟩ : S_Spot)] : List S_Spot)).length c245, (j199 17), (j88 25), undef], []⟩) (by kernel_rfl) ?_
        refine wpList_nil ?_
        refine hn216 _ _ ?_
        refine hK213 _ _ ?_
        refine wp_region_lit ?_
        refine seqS2 (a' := ⟨#[.agg #[.int .i64 p1.X, .int .i64 p1.Y], .int .i64 wide2, .int .i64 high3, .pointer (some ⟨b6, 0, none⟩), undef, undef, .slice none 0 0, .int .i64 0, .slice (some ⟨b227, of228, none⟩) vt12.length c20, .int .i64 vt13, .slice (some ⟨b117, of118, none⟩) vt26.length c34, .int .i64 vt27, .int .i64 vt53, .slice A244 (out200 ++ ([(⟨(rd vt12 x205).Cell, (rd vt26 x95).Cell, w64 (((rd vt12 x205).Weight) * ((rd vt26 x95).Weight))⟩ : S_Spot)] : List S_Spot)).length c245, undef, .pointer (some ⟨b119, 0, none⟩), undef, .pointer (some ⟨b229, 0, none⟩), .tuple #[.slice (some ⟨b227, of228, none⟩) vt12.length c20, .int .i64 vt13], .pointer (some ⟨b6, 0, none⟩), .int .i64 p1.X, .int .i64 wide2, .tuple #[.slice (some ⟨b227, of228, none⟩) vt12.length c20, .int .i64 vt13], .slice (some ⟨b227, of228, none⟩) vt12.length c20, .int .i64 vt13, .tuple #[.slice (some ⟨b117, of118, none⟩) vt26.length c34, .int .i64 vt27], .pointer (some ⟨b6, 1, none⟩), .int .i64 p1.Y, .int .i64 high3, .tuple #[.slice (some ⟨b117, of118, none⟩) vt26.length c34, .int .i64 vt27], .slice (some ⟨b117, of118, none⟩) vt26.length c34, .int .i64 vt27, .int .i64 vt13, .int .i64 vt27, .slice (some ⟨b42, 0, none⟩) ([vt13, vt27] : List Int).length 2, .int .i64 vt53, .int .i64 vt53, .bool false, undef, .slice (some ⟨b117, of118, none⟩) vt26.length c34, .int .i64 (vt26.length : Int), .int .i64 x95, .bool true, .pointer (some ⟨b117, of118 + (x95 : Int).toNat * 2, none⟩), .agg #[.int .i64 ((rd vt26 x95).Cell), .int .i64 ((rd vt26 x95).Weight)], .slice (some ⟨b227, of228, none⟩) vt12.length c20, .int .i64 (vt12.length : Int), .int .i64 (w64 (x205 + 1)), .bool true, .pointer (some ⟨b227, of228 + (x205 : Int).toNat * 2, none⟩), .agg #[.int .i64 ((rd vt12 x205).Cell), .int .i64 ((rd vt12 x205).Weight)], .slice A201 out200.length c202, .pointer (some ⟨b229, 0, none⟩), .int .i64 ((rd vt12 x205).Cell), .pointer (some ⟨b119, 0, none⟩), .int .i64 ((rd vt26 x95).Cell), .pointer (some ⟨b229, 1, none⟩), .int .i64 ((rd vt12 x205).Weight), .pointer (some ⟨b119, 1, none⟩), .int .i64 ((rd vt26 x95).Weight), .int .i64 (w64 (((rd vt12 x205).Weight) * ((rd vt26 x95).Weight))), .agg #[.int .i64 ((rd vt12 x205).Cell), .int .i64 ((rd vt26 x95).Cell), .int .i64 (w64 (((rd vt12 x205).Weight) * ((rd vt26 x95).Weight)))], .slice (some ⟨b235, 0, none⟩) ([(⟨(rd vt12 x205).Cell, (rd vt26 x95).Cell, w64 (((rd vt12 x205).Weight) * ((rd vt26 x95).Weight))⟩ : S_Spot)] : List S_Spot).length 1, .slice A244 (out200 ++ ([(⟨(rd vt12 x205).Cell, (rd vt26 x95).Cell, w64 (((rd vt12 x205).Weight) * ((rd vt26 x95).Weight))⟩ : S_Spot)] : List S_Spot)).length c245, .int .i64 (w64 (x205 + 1)), (j88 25), undef], []⟩) (by kernel_rfl) ?_
        refine wpList_nil ?_
        refine hK193 n194 _ _ (Nat.lt_succ_self _) ?_
        have HS263 := HS248.u6
        have HS264 := HS263.u6
        have HS265 := HS264.u6
        have HS266 := HS265.u6
        have HS267 := HS266.u4
        have HS268 := HS267.u6
        have HS269 := HS268.u6
        have HS270 := HS269.drop
        exact ⟨f195, A244, c245, s246, (out200 ++ ([(⟨(rd vt12 x205).Cell, (rd vt26 x95).Cell, w64 (((rd vt12 x205).Weight) * ((rd vt26 x95).Weight))⟩ : S_Spot)] : List S_Spot)), (w64 (x205 + 1)), (fun i_ => [Value.pointer (some ⟨b229, 0, none⟩), Value.bool true, Value.pointer (some ⟨b227, of228 + (x205 : Int).toNat * 2, none⟩), Value.agg #[.int .i64 ((rd vt12 x205).Cell), .int .i64 ((rd vt12 x205).Weight)], Value.slice A201 out200.length c202, Value.pointer (some ⟨b229, 0, none⟩), Value.int .i64 ((rd vt12 x205).Cell), Value.pointer (some ⟨b119, 0, none⟩), Value.int .i64 ((rd vt26 x95).Cell), Value.pointer (some ⟨b229, 1, none⟩), Value.int .i64 ((rd vt12 x205).Weight), Value.pointer (some ⟨b119, 1, none⟩), Value.int .i64 ((rd vt26 x95).Weight), Value.int .i64 (w64 (((rd vt12 x205).Weight) * ((rd vt26 x95).Weight))), Value.agg #[.int .i64 ((rd vt12 x205).Cell), .int .i64 ((rd vt26 x95).Cell), .int .i64 (w64 (((rd vt12 x205).Weight) * ((rd vt26 x95).Weight)))], Value.slice (some ⟨b235, 0, none⟩) ([(⟨(rd vt12 x205).Cell, (rd vt26 x95).Cell, w64 (((rd vt12 x205).Weight) * ((rd vt26 x95).Weight))⟩ : S_Spot)] : List S_Spot).length 1, Value.slice A244 (out200 ++ ([(⟨(rd vt12 x205).Cell, (rd vt26 x95).Cell, w64 (((rd vt12 x205).Weight) * ((rd vt26 x95).Weight))⟩ : S_Spot)] : List S_Spot)).length c245, Value.int .i64 (w64 (x205 + 1))].getD i_ undef), L196, HS270, HO249, h, (by kernel_rfl)⟩
      · have c211 : ¬ (x205 < (vt12.length : Int)) := c211
        refine wpRwI 48 (x := (decide (x205 < (vt12.length : Int)))) (v := false) (by kernel_rfl) (decide_eq_false c211) ?_
        refine condF (by kernel_rfl) ?_
        refine wp_exit ?_
        refine hx128 _ _ ?_
        exact J261 f195 A201 c202 s203 out200 (fun i_ => [(j199 0), Value.int .i64 x205, Value.bool false, (j199 2), (j199 3), (j199 4), (j199 5), (j199 6), (j199 7), (j199 8), (j199 9), (j199 10), (j199 11), (j199 12), (j199 13), (j199 14), (j199 15), (j199 16), (j199 17)].getD i_ undef) W197 _ L196 h HS198 HO204 (by kernel_rfl)
    · have c101 : ¬ (x95 < (vt26.length : Int)) := c101
      refine wpRwI 42 (x := (decide (x95 < (vt26.length : Int)))) (v := false) (by kernel_rfl) (decide_eq_false c101) ?_
      refine condF (by kernel_rfl) ?_
      refine wp_exit ?_
      refine hx75 _ _ ?_
      exact J283 f84 A90 c91 s92 out89 (fun i_ => [(j88 0), (j88 1), Value.int .i64 x95, Value.bool false, (j88 3), (j88 4), (j88 5), (j88 6), (j88 7), (j88 8), (j88 9), (j88 10), (j88 11), (j88 12), (j88 13), (j88 14), (j88 15), (j88 16), (j88 17), (j88 18), (j88 19), (j88 20), (j88 21), (j88 22), (j88 23), (j88 24), (j88 25)].getD i_ undef) W86 _ L85 h HS87 HO93 (by kernel_rfl)

set_option maxRecDepth 100000 in
set_option maxHeartbeats 4000000 in
theorem frac_size.calls (k : Nat)  (a1 : Int) {t w : World} {f : FM} {H : List Seg} (HS : St t w f (H)) (r1 : Int) (h : frac_size k a1 = some r1) :
    Calls Try.prog 36 #[.int .i64 a1] w (fun e w' => ∃ (g : FM), e = .returned (Value.int .u64 r1) ∧ FM.le f g ∧ St t w' g (H)) := by
  unfold frac_size at h
  refine enter Try.func36 rfl (tm := #[.int .i64 a1, undef, undef, undef, undef, undef, undef, undef, undef, undef]) (by kernel_rfl) ?_
  intro B hret hnor hnp
  refine wp_seq_k (fun K2 hK3 => ?_)
  refine wp_region_lit ?_
  refine seqS1 (a' := ⟨#[.int .i64 a1, undef, .int .u64 0, undef, undef, undef, undef, undef, undef, undef], []⟩) (by kernel_rfl) ?_
  refine wpList_nil ?_
  refine hK3 _ _ ?_
  refine wp_seq_k (fun K4 hK5 => ?_)
  refine wp_seq_k (fun K6 hK7 => ?_)
  refine wp_region_lit ?_
  refine seqS2 (a' := ⟨#[.int .i64 a1, undef, .int .u64 0, .int .i64 a1, .bool (decide (a1 < 0)), undef, undef, undef, undef, undef], []⟩) (by kernel_rfl) ?_
  refine wpList_nil ?_
  refine hK7 _ _ ?_
  have hq_ := ite_some h; clear h; rcases hq_ with ⟨c9, h⟩ | ⟨c9, h⟩
  · have c9 : a1 < 0 := c9
    refine wpRwI 4 (x := (decide (a1 < 0))) (v := true) (by kernel_rfl) (decide_eq_true c9) ?_
    refine condT (by kernel_rfl) ?_
    refine wp_seq_k (fun K10 hK11 => ?_)
    refine wp_region_lit ?_
    refine seqS4 (a' := ⟨#[.int .i64 a1, undef, .int .u64 (u64 (0 - (u64 (a1)))), .int .i64 a1, .bool true, .int .i64 a1, .int .u64 (u64 (a1)), .int .u64 (u64 (0 - (u64 (a1)))), undef, undef], []⟩) (by kernel_rfl) ?_
    refine wpList_nil ?_
    refine hK11 _ _ ?_
    refine wp_ret ?_
    refine hret _ _ ?_
    refine ends_still (v := Value.int .u64 (u64 (0 - (u64 (a1))))) (by kernel_rfl) (by kernel_rfl) ?_
    injection h with h
    subst h
    exact ⟨f, rfl, FM.le.refl _, HS⟩
  · have c9 : ¬ (a1 < 0) := c9
    refine wpRwI 4 (x := (decide (a1 < 0))) (v := false) (by kernel_rfl) (decide_eq_false c9) ?_
    refine condF (by kernel_rfl) ?_
    refine wp_skip ?_
    refine hK5 _ _ ?_
    refine wp_seq_k (fun K12 hK13 => ?_)
    refine wp_region_lit ?_
    refine seqS3 (a' := ⟨#[.int .i64 a1, undef, .int .u64 (u64 (a1)), .int .i64 a1, .bool false, undef, undef, undef, .int .i64 a1, .int .u64 (u64 (a1))], []⟩) (by kernel_rfl) ?_
    refine wpList_nil ?_
    refine hK13 _ _ ?_
    refine wp_ret ?_
    refine hret _ _ ?_
    refine ends_still (v := Value.int .u64 (u64 (a1))) (by kernel_rfl) (by kernel_rfl) ?_
    injection h with h
    subst h
    exact ⟨f, rfl, FM.le.refl _, HS⟩

set_option maxRecDepth 100000 in
set_option maxHeartbeats 4000000 in
theorem frac_Make.calls (k : Nat)  (n1 : Int) (d2 : Int) {t w : World} {f : FM} {H : List Seg} (HS : St t w f (H)) (r1 : S_Frac) (r2 : Int) (h : frac_Make k n1 d2 = some (r1, r2)) :
    Calls Try.prog 28 #[.int .i64 n1, .int .i64 d2] w (fun e w' => ∃ (g : FM), e = .returned (Value.tuple #[.agg #[.int .i64 r1.Num, .int .i64 r1.Den], .int .i64 r2]) ∧ FM.le f g ∧ St t w' g (H)) := by
  unfold frac_Make at h
  refine enter Try.func28 rfl (tm := #[.int .i64 n1, .int .i64 d2, undef, undef, undef, undef, undef, undef, undef, undef, undef, undef, undef, undef, undef, undef, undef, undef, undef, undef, undef, undef, undef, undef, undef, undef, undef, undef, undef, undef, undef, undef, undef, undef, undef, undef, undef, undef, undef, undef, undef, undef, undef, undef, undef, undef, undef, undef, undef, undef, undef, undef, undef, undef, undef, undef]) (by kernel_rfl) ?_
  intro B hret hnor hnp
  refine wp_seq_k (fun K3 hK4 => ?_)
  refine wp_region_lit ?_
  refine seqK rfl (does_alloc (z := Value.agg #[.int .i64 0, .int .i64 0]) (cs := #[.int .i64 0, .int .i64 0]) rfl (by kernel_rfl) rfl HS ?_)
  intro b5 W6 HS7
  refine seqS1 (a' := ⟨#[.int .i64 n1, .int .i64 d2, undef, undef, .pointer (some ⟨b5, 0, none⟩), .int .i64 0, undef, undef, undef, undef, undef, undef, undef, undef, undef, undef, undef, undef, undef, undef, undef, undef, undef, undef, undef, undef, undef, undef, undef, undef, undef, undef, undef, undef, undef, undef, undef, undef, undef, undef, undef, undef, undef, undef, undef, undef, undef, undef, undef, undef, undef, undef, undef, undef, undef, undef], []⟩) (by kernel_rfl) ?_
  refine wpList_nil ?_
  refine hK4 _ _ ?_
  refine wp_seq_k (fun K9 hK10 => ?_)
  refine wp_seq_k (fun K11 hK12 => ?_)
  refine wp_region_lit ?_
  refine seqS2 (a' := ⟨#[.int .i64 n1, .int .i64 d2, undef, undef, .pointer (some ⟨b5, 0, none⟩), .int .i64 0, undef, undef, undef, undef, .int .i64 d2, .bool (d2 == 0), undef, undef, undef, undef, undef, undef, undef, undef, undef, undef, undef, undef, undef, undef, undef, undef, undef, undef, undef, undef, undef, undef, undef, undef, undef, undef, undef, undef, undef, undef, undef, undef, undef, undef, undef, undef, undef, undef, undef, undef, undef, undef, undef, undef], []⟩) (by kernel_rfl) ?_
  refine wpList_nil ?_
  refine hK12 _ _ ?_
  have hq_ := ite_some h; clear h; rcases hq_ with ⟨c14, h⟩ | ⟨c14, h⟩
  · have c14 : d2 = 0 := c14
    refine wpRwI 11 (x := (d2 == 0)) (v := true) (by kernel_rfl) (beq_iff_eq.mpr c14) ?_
    refine condT (by kernel_rfl) ?_
    refine wp_seq_k (fun K15 hK16 => ?_)
    refine wp_region_lit ?_
    refine seqL1 (by kernel_rfl) ?_
    refine seqK rfl (does_store (n := 2) (vs := [.int .i64 0, .int .i64 0]) (cs' := #[.int .i64 0, .int .i64 0]) rfl (by kernel_rfl) (by kernel_rfl : _ = Value.pointer (some ⟨b5, 0, none⟩)) (by kernel_rfl : _ = Value.agg #[.int .i64 0, .int .i64 0]) rfl rfl (by intro u_ hu_; simp only [List.mem_cons, List.not_mem_nil, or_false] at hu_; rcases hu_ with rfl | rfl <;> rfl) HS7 (Nat.le_of_ble_eq_true rfl) (by kernel_rfl) ?_)
    intro W17 HS18
    refine seqS1 (a' := ⟨#[.int .i64 n1, .int .i64 d2, undef, undef, .pointer (some ⟨b5, 0, none⟩), .int .i64 1, undef, undef, undef, undef, .int .i64 d2, .bool true, .agg #[.int .i64 0, .int .i64 0], undef, undef, undef, undef, undef, undef, undef, undef, undef, undef, undef, undef, undef, undef, undef, undef, undef, undef, undef, undef, undef, undef, undef, undef, undef, undef, undef, undef, undef, undef, undef, undef, undef, undef, undef, undef, undef, undef, undef, undef, undef, undef, undef], []⟩) (by kernel_rfl) ?_
    refine wpList_nil ?_
    refine hK16 _ _ ?_
    refine wp_ret ?_
    refine hret _ _ ?_
    refine ends (v := Value.tuple #[.agg #[.int .i64 0, .int .i64 0], .int .i64 1]) (results2 (q1 := .cell 4 41) (q2 := .tmp 5) (by kernel_rfl) (resN (n := 2) (cs := [.int .i64 0, .int .i64 0]) (by kernel_rfl : _ = Value.pointer (some ⟨b5, 0, none⟩)) Try.underlying41 rfl (by kernel_rfl) rfl (HS18.cells 0 2 _ rfl)) (resT (by kernel_rfl : _ = Value.int .i64 1))) (by kernel_rfl) ?_
    have HS128 := HS18.drop
    injection h with h
    injection h with h0_ h
    subst h0_ h
    exact ⟨f, rfl, FM.le.refl _, HS128⟩
  · have c14 : ¬ (d2 = 0) := c14
    refine wpRwI 11 (x := (d2 == 0)) (v := false) (by kernel_rfl) (beq_eq_false_iff_ne.mpr c14) ?_
    refine condF (by kernel_rfl) ?_
    refine wp_skip ?_
    refine hK10 _ _ ?_
    refine wp_seq_k (fun K19 hK20 => ?_)
    refine wp_region_lit ?_
    have hq_ := bind_some h; clear h; obtain ⟨vt21, hc22, h⟩ := hq_
    refine seqL1 (by kernel_rfl) ?_
    refine seqK rfl (does_call (f := 36) (args := #[.int .i64 n1]) (by kernel_rfl) (frac_size.calls k n1 HS7 vt21 hc22) ?_)
    rintro _ W25 ⟨f23, rfl, L24, HS26⟩
    refine ⟨_, rfl, ?_⟩
    have hq_ := bind_some h; clear h; obtain ⟨vt27, hc28, h⟩ := hq_
    refine seqL1 (by kernel_rfl) ?_
    refine seqK rfl (does_call (f := 36) (args := #[.int .i64 d2]) (by kernel_rfl) (frac_size.calls k d2 HS26 vt27 hc28) ?_)
    rintro _ W31 ⟨f29, rfl, L30, HS32⟩
    refine ⟨_, rfl, ?_⟩
    refine seqS2 (a' := ⟨#[.int .i64 n1, .int .i64 d2, undef, undef, .pointer (some ⟨b5, 0, none⟩), .int .i64 0, .int .u64 vt21, .int .u64 vt27, undef, undef, .int .i64 d2, .bool false, undef, .int .i64 n1, .int .u64 vt21, .int .i64 d2, .int .u64 vt27, undef, undef, undef, undef, undef, undef, undef, undef, undef, undef, undef, undef, undef, undef, undef, undef, undef, undef, undef, undef, undef, undef, undef, undef, undef, undef, undef, undef, undef, undef, undef, undef, undef, undef, undef, undef, undef, undef, undef], []⟩) (by kernel_rfl) ?_
    refine wpList_nil ?_
    refine hK20 _ _ ?_
    refine wp_seq_k (fun K33 hK34 => ?_)
    refine blockK (fun B35 hx36 hn37 hr38 ho39 hp40 => ?_)
    have hq_ := bind_some h; clear h; obtain ⟨o41, hv74, h⟩ := hq_
    have J75 : ∀ (f68 : FM) (x73 : Int) (j72 : Nat → Value) (W70 : World) (a_ : Act), FM.le f29 f68 → some (x73) = some o41 → St t W70 f68 ([(b5, .cells #[.int .i64 0, .int .i64 0] 41 (0, 0))] :: H) → a_ = ⟨#[.int .i64 n1, .int .i64 d2, undef, undef, .pointer (some ⟨b5, 0, none⟩), .int .i64 0, .int .u64 x73, (j72 0), undef, undef, .int .i64 d2, .bool false, undef, .int .i64 n1, .int .u64 vt21, .int .i64 d2, .int .u64 vt27, (j72 1), (j72 2), (j72 3), (j72 4), (j72 5), (j72 6), undef, undef, undef, undef, undef, undef, undef, undef, undef, undef, undef, undef, undef, undef, undef, undef, undef, undef, undef, undef, undef, undef, undef, undef, undef, undef, undef, undef, undef, undef, undef, undef, undef], []⟩ → K33 a_ W70 := by
      intro f68 x73 j72 W70 a_ L69 hj76 HS71  hfr_; subst hfr_
      injection hj76 with hj76; subst hj76; try dsimp only at h
      refine hK34 _ _ ?_
      refine wp_seq_k (fun K77 hK78 => ?_)
      refine heldG (S := Sg t f68 ([(b5, .cells #[.int .i64 0, .int .i64 0] 41 (0, 0))] :: H) []) (n := 10) (by kernel_rfl) rfl HS71 ?_
      intro W79 HS80
      refine takeG [0, 2, 4, 6] (n := 10) (fuel := 6) (l' := #[true, false, true, false, true, false, true, false, false, false]) (a' := ⟨#[.int .i64 n1, .int .i64 d2, undef, undef, .pointer (some ⟨b5, 0, none⟩), .int .i64 0, .int .u64 x73, (j72 0), undef, undef, .int .i64 d2, .bool false, undef, .int .i64 n1, .int .u64 vt21, .int .i64 d2, .int .u64 vt27, (j72 1), (j72 2), (j72 3), (j72 4), (j72 5), (j72 6), .int .i64 n1, undef, .int .u64 x73, undef, .int .i64 d2, undef, .int .u64 x73, undef, undef, undef, undef, undef, undef, undef, undef, undef, undef, undef, undef, undef, undef, undef, undef, undef, undef, undef, undef, undef, undef, undef, undef, undef, undef], []⟩) rfl (by kernel_rfl) (by kernel_rfl) (by kernel_rfl) hnp (Sg.g0 (Sx.of [] (FM.le.refl _) HS80)) ?_
      have hq_ := bind_some h; clear h; obtain ⟨vt81, hc82, h⟩ := hq_
      refine takeGE 1 (by kernel_rfl) rfl (by kernel_rfl) (does_call (f := 36) (args := #[.int .i64 n1]) (by kernel_rfl) (frac_size.calls k n1 HS80 vt81 hc82) ?_)
      rintro _ W85 ⟨f83, rfl, L84, HS86⟩
      refine ⟨_, rfl, ?_⟩
      refine ⟨(Sg.g0 (Sx.of [] L84 HS86)), ?_⟩
      have hq_ := guard_some h; clear h; obtain ⟨c87, h⟩ := hq_
      have c87 : ¬ (x73 = 0) := c87
      refine takeGQ 3 [] rfl (by kernel_rfl) (by kernel_rfl) (by kernel_rfl) (by kernel_rfl) (by kernel_rfl) (by kernel_rfl) hnp (Sg.g0 (Sx.of [] L84 HS86)) (fun w_ hw_ => by obtain ⟨g_, hl_, hS_⟩ := hw_.st; exact run_div rfl (by kernel_rfl : _ = Value.int .u64 vt81) (by kernel_rfl : _ = Value.int .u64 x73) c87 w_) ?_
      have hq_ := bind_some h; clear h; obtain ⟨vt88, hc89, h⟩ := hq_
      refine takeGE 5 (by kernel_rfl) rfl (by kernel_rfl) (does_call (f := 36) (args := #[.int .i64 d2]) (by kernel_rfl) (frac_size.calls k d2 HS86 vt88 hc89) ?_)
      rintro _ W92 ⟨f90, rfl, L91, HS93⟩
      refine ⟨_, rfl, ?_⟩
      refine ⟨(Sg.g0 (Sx.of [] (L84.trans L91) HS93)), ?_⟩
      refine takeGQ 7 [] rfl (by kernel_rfl) (by kernel_rfl) (by kernel_rfl) (by kernel_rfl) (by kernel_rfl) (by kernel_rfl) hnp (Sg.g0 (Sx.of [] (L84.trans L91) HS93)) (fun w_ hw_ => by obtain ⟨g_, hl_, hS_⟩ := hw_.st; exact run_div rfl (by kernel_rfl : _ = Value.int .u64 vt88) (by kernel_rfl : _ = Value.int .u64 x73) c87 w_) ?_
      refine takeG [8, 9] (n := 2) (fuel := 0) (l' := #[true, true, true, true, true, true, true, true, true, true]) (a' := ⟨#[.int .i64 n1, .int .i64 d2, undef, undef, .pointer (some ⟨b5, 0, none⟩), .int .i64 0, .int .u64 x73, (j72 0), .int .u64 (u64 (Int.tdiv vt81 x73)), .int .u64 (u64 (Int.tdiv vt88 x73)), .int .i64 d2, .bool false, undef, .int .i64 n1, .int .u64 vt21, .int .i64 d2, .int .u64 vt27, (j72 1), (j72 2), (j72 3), (j72 4), (j72 5), (j72 6), .int .i64 n1, .int .u64 vt81, .int .u64 x73, .int .u64 (u64 (Int.tdiv vt81 x73)), .int .i64 d2, .int .u64 vt88, .int .u64 x73, .int .u64 (u64 (Int.tdiv vt88 x73)), undef, undef, undef, undef, undef, undef, undef, undef, undef, undef, undef, undef, undef, undef, undef, undef, undef, undef, undef, undef, undef, undef, undef, undef, undef], []⟩) rfl (by kernel_rfl) (by kernel_rfl) (by kernel_rfl) hnp (Sg.g0 (Sx.of [] (L84.trans L91) HS93)) ?_
      refine doneG (by kernel_rfl) ?_ _
      refine hK78 _ _ ?_
      refine wp_seq_k (fun K94 hK95 => ?_)
      refine blockK (fun B96 hx97 hn98 hr99 ho100 hp101 => ?_)
      refine wp_seq_k (fun K103 hK104 => ?_)
      refine wp_region_lit ?_
      refine seqS3 (a' := ⟨#[.int .i64 n1, .int .i64 d2, undef, undef, .pointer (some ⟨b5, 0, none⟩), .int .i64 0, .int .u64 x73, (j72 0), .int .u64 (u64 (Int.tdiv vt81 x73)), .int .u64 (u64 (Int.tdiv vt88 x73)), .int .i64 d2, .bool false, undef, .int .i64 n1, .int .u64 vt21, .int .i64 d2, .int .u64 vt27, (j72 1), (j72 2), (j72 3), (j72 4), (j72 5), (j72 6), .int .i64 n1, .int .u64 vt81, .int .u64 x73, .int .u64 (u64 (Int.tdiv vt81 x73)), .int .i64 d2, .int .u64 vt88, .int .u64 x73, .int .u64 (u64 (Int.tdiv vt88 x73)), undef, .int .u64 (u64 (Int.tdiv vt81 x73)), .bool (decide ((u64 (Int.tdiv vt81 x73)) > 1152921504606846976)), .bool (decide ((u64 (Int.tdiv vt81 x73)) > 1152921504606846976)), undef, undef, undef, undef, undef, undef, undef, undef, undef, undef, undef, undef, undef, undef, undef, undef, undef, undef, undef, undef, undef], []⟩) (by kernel_rfl) ?_
      have hq_ := ite_some h; clear h; rcases hq_ with ⟨c105, h⟩ | ⟨c105, h⟩
      · have c105 : (u64 (Int.tdiv vt81 x73)) > 1152921504606846976 := c105
        refine seqRwI 33 (x := (decide ((u64 (Int.tdiv vt81 x73)) > 1152921504606846976))) (v := true) (by kernel_rfl) (decide_eq_true c105) ?_
        refine seqRwI 34 (x := (decide ((u64 (Int.tdiv vt81 x73)) > 1152921504606846976))) (v := true) (by kernel_rfl) (decide_eq_true c105) ?_
        refine seqS4 (a' := ⟨#[.int .i64 n1, .int .i64 d2, undef, undef, .pointer (some ⟨b5, 0, none⟩), .int .i64 0, .int .u64 x73, (j72 0), .int .u64 (u64 (Int.tdiv vt81 x73)), .int .u64 (u64 (Int.tdiv vt88 x73)), .int .i64 d2, .bool false, undef, .int .i64 n1, .int .u64 vt21, .int .i64 d2, .int .u64 vt27, (j72 1), (j72 2), (j72 3), (j72 4), (j72 5), (j72 6), .int .i64 n1, .int .u64 vt81, .int .u64 x73, .int .u64 (u64 (Int.tdiv vt81 x73)), .int .i64 d2, .int .u64 vt88, .int .u64 x73, .int .u64 (u64 (Int.tdiv vt88 x73)), .bool true, .int .u64 (u64 (Int.tdiv vt81 x73)), .bool true, .bool true, undef, undef, .bool true, undef, undef, undef, undef, undef, undef, undef, undef, undef, undef, undef, undef, undef, undef, undef, undef, undef, undef], []⟩) (by kernel_rfl) ?_
        refine wpList_nil ?_
        refine hK104 _ _ ?_
        refine condT (by kernel_rfl) ?_
        refine wp_seq_k (fun K106 hK107 => ?_)
        refine wp_region_lit ?_
        refine seqL1 (by kernel_rfl) ?_
        refine seqK rfl (does_store (n := 2) (vs := [.int .i64 0, .int .i64 0]) (cs' := #[.int .i64 0, .int .i64 0]) rfl (by kernel_rfl) (by kernel_rfl : _ = Value.pointer (some ⟨b5, 0, none⟩)) (by kernel_rfl : _ = Value.agg #[.int .i64 0, .int .i64 0]) rfl rfl (by intro u_ hu_; simp only [List.mem_cons, List.not_mem_nil, or_false] at hu_; rcases hu_ with rfl | rfl <;> rfl) HS93 (Nat.le_of_ble_eq_true rfl) (by kernel_rfl) ?_)
        intro W108 HS109
        refine seqS1 (a' := ⟨#[.int .i64 n1, .int .i64 d2, undef, undef, .pointer (some ⟨b5, 0, none⟩), .int .i64 2, .int .u64 x73, (j72 0), .int .u64 (u64 (Int.tdiv vt81 x73)), .int .u64 (u64 (Int.tdiv vt88 x73)), .int .i64 d2, .bool false, undef, .int .i64 n1, .int .u64 vt21, .int .i64 d2, .int .u64 vt27, (j72 1), (j72 2), (j72 3), (j72 4), (j72 5), (j72 6), .int .i64 n1, .int .u64 vt81, .int .u64 x73, .int .u64 (u64 (Int.tdiv vt81 x73)), .int .i64 d2, .int .u64 vt88, .int .u64 x73, .int .u64 (u64 (Int.tdiv vt88 x73)), .bool true, .int .u64 (u64 (Int.tdiv vt81 x73)), .bool true, .bool true, undef, undef, .bool true, .agg #[.int .i64 0, .int .i64 0], undef, undef, undef, undef, undef, undef, undef, undef, undef, undef, undef, undef, undef, undef, undef, undef, undef], []⟩) (by kernel_rfl) ?_
        refine wpList_nil ?_
        refine hK107 _ _ ?_
        refine wp_ret ?_
        refine hr99 _ _ ?_
        refine hret _ _ ?_
        refine ends (v := Value.tuple #[.agg #[.int .i64 0, .int .i64 0], .int .i64 2]) (results2 (q1 := .cell 4 41) (q2 := .tmp 5) (by kernel_rfl) (resN (n := 2) (cs := [.int .i64 0, .int .i64 0]) (by kernel_rfl : _ = Value.pointer (some ⟨b5, 0, none⟩)) Try.underlying41 rfl (by kernel_rfl) rfl (HS109.cells 0 2 _ rfl)) (resT (by kernel_rfl : _ = Value.int .i64 2))) (by kernel_rfl) ?_
        have HS129 := HS109.drop
        injection h with h
        injection h with h0_ h
        subst h0_ h
        exact ⟨f90, rfl, (L24.trans (L30.trans (L69.trans (L84.trans L91)))), HS129⟩
      · have c105 : ¬ ((u64 (Int.tdiv vt81 x73)) > 1152921504606846976) := c105
        refine seqRwI 33 (x := (decide ((u64 (Int.tdiv vt81 x73)) > 1152921504606846976))) (v := false) (by kernel_rfl) (decide_eq_false c105) ?_
        refine seqRwI 34 (x := (decide ((u64 (Int.tdiv vt81 x73)) > 1152921504606846976))) (v := false) (by kernel_rfl) (decide_eq_false c105) ?_
        refine seqS4 (a' := ⟨#[.int .i64 n1, .int .i64 d2, undef, undef, .pointer (some ⟨b5, 0, none⟩), .int .i64 0, .int .u64 x73, (j72 0), .int .u64 (u64 (Int.tdiv vt81 x73)), .int .u64 (u64 (Int.tdiv vt88 x73)), .int .i64 d2, .bool false, undef, .int .i64 n1, .int .u64 vt21, .int .i64 d2, .int .u64 vt27, (j72 1), (j72 2), (j72 3), (j72 4), (j72 5), (j72 6), .int .i64 n1, .int .u64 vt81, .int .u64 x73, .int .u64 (u64 (Int.tdiv vt81 x73)), .int .i64 d2, .int .u64 vt88, .int .u64 x73, .int .u64 (u64 (Int.tdiv vt88 x73)), .bool (decide ((u64 (Int.tdiv vt88 x73)) > 1152921504606846976)), .int .u64 (u64 (Int.tdiv vt81 x73)), .bool false, .bool false, .int .u64 (u64 (Int.tdiv vt88 x73)), .bool (decide ((u64 (Int.tdiv vt88 x73)) > 1152921504606846976)), .bool (decide ((u64 (Int.tdiv vt88 x73)) > 1152921504606846976)), undef, undef, undef, undef, undef, undef, undef, undef, undef, undef, undef, undef, undef, undef, undef, undef, undef, undef], []⟩) (by kernel_rfl) ?_
        refine wpList_nil ?_
        refine hK104 _ _ ?_
        have hq_ := ite_some h; clear h; rcases hq_ with ⟨c111, h⟩ | ⟨c111, h⟩
        · have c111 : (u64 (Int.tdiv vt88 x73)) > 1152921504606846976 := c111
          refine wpRwI 31 (x := (decide ((u64 (Int.tdiv vt88 x73)) > 1152921504606846976))) (v := true) (by kernel_rfl) (decide_eq_true c111) ?_
          refine wpRwI 36 (x := (decide ((u64 (Int.tdiv vt88 x73)) > 1152921504606846976))) (v := true) (by kernel_rfl) (decide_eq_true c111) ?_
          refine wpRwI 37 (x := (decide ((u64 (Int.tdiv vt88 x73)) > 1152921504606846976))) (v := true) (by kernel_rfl) (decide_eq_true c111) ?_
          refine condT (by kernel_rfl) ?_
          refine wp_seq_k (fun K112 hK113 => ?_)
          refine wp_region_lit ?_
          refine seqL1 (by kernel_rfl) ?_
          refine seqK rfl (does_store (n := 2) (vs := [.int .i64 0, .int .i64 0]) (cs' := #[.int .i64 0, .int .i64 0]) rfl (by kernel_rfl) (by kernel_rfl : _ = Value.pointer (some ⟨b5, 0, none⟩)) (by kernel_rfl : _ = Value.agg #[.int .i64 0, .int .i64 0]) rfl rfl (by intro u_ hu_; simp only [List.mem_cons, List.not_mem_nil, or_false] at hu_; rcases hu_ with rfl | rfl <;> rfl) HS93 (Nat.le_of_ble_eq_true rfl) (by kernel_rfl) ?_)
          intro W114 HS115
          refine seqS1 (a' := ⟨#[.int .i64 n1, .int .i64 d2, undef, undef, .pointer (some ⟨b5, 0, none⟩), .int .i64 2, .int .u64 x73, (j72 0), .int .u64 (u64 (Int.tdiv vt81 x73)), .int .u64 (u64 (Int.tdiv vt88 x73)), .int .i64 d2, .bool false, undef, .int .i64 n1, .int .u64 vt21, .int .i64 d2, .int .u64 vt27, (j72 1), (j72 2), (j72 3), (j72 4), (j72 5), (j72 6), .int .i64 n1, .int .u64 vt81, .int .u64 x73, .int .u64 (u64 (Int.tdiv vt81 x73)), .int .i64 d2, .int .u64 vt88, .int .u64 x73, .int .u64 (u64 (Int.tdiv vt88 x73)), .bool true, .int .u64 (u64 (Int.tdiv vt81 x73)), .bool false, .bool false, .int .u64 (u64 (Int.tdiv vt88 x73)), .bool true, .bool true, .agg #[.int .i64 0, .int .i64 0], undef, undef, undef, undef, undef, undef, undef, undef, undef, undef, undef, undef, undef, undef, undef, undef, undef], []⟩) (by kernel_rfl) ?_
          refine wpList_nil ?_
          refine hK113 _ _ ?_
          refine wp_ret ?_
          refine hr99 _ _ ?_
          refine hret _ _ ?_
          refine ends (v := Value.tuple #[.agg #[.int .i64 0, .int .i64 0], .int .i64 2]) (results2 (q1 := .cell 4 41) (q2 := .tmp 5) (by kernel_rfl) (resN (n := 2) (cs := [.int .i64 0, .int .i64 0]) (by kernel_rfl : _ = Value.pointer (some ⟨b5, 0, none⟩)) Try.underlying41 rfl (by kernel_rfl) rfl (HS115.cells 0 2 _ rfl)) (resT (by kernel_rfl : _ = Value.int .i64 2))) (by kernel_rfl) ?_
          have HS130 := HS115.drop
          injection h with h
          injection h with h0_ h
          subst h0_ h
          exact ⟨f90, rfl, (L24.trans (L30.trans (L69.trans (L84.trans L91)))), HS130⟩
        · have c111 : ¬ ((u64 (Int.tdiv vt88 x73)) > 1152921504606846976) := c111
          refine wpRwI 31 (x := (decide ((u64 (Int.tdiv vt88 x73)) > 1152921504606846976))) (v := false) (by kernel_rfl) (decide_eq_false c111) ?_
          refine wpRwI 36 (x := (decide ((u64 (Int.tdiv vt88 x73)) > 1152921504606846976))) (v := false) (by kernel_rfl) (decide_eq_false c111) ?_
          refine wpRwI 37 (x := (decide ((u64 (Int.tdiv vt88 x73)) > 1152921504606846976))) (v := false) (by kernel_rfl) (decide_eq_false c111) ?_
          refine condF (by kernel_rfl) ?_
          refine wp_seq_k (fun K116 hK117 => ?_)
          refine wp_region_lit ?_
          refine seqS6 (a' := ⟨#[.int .i64 n1, .int .i64 d2, undef, undef, .pointer (some ⟨b5, 0, none⟩), .int .i64 0, .int .u64 x73, (j72 0), .int .u64 (u64 (Int.tdiv vt81 x73)), .int .u64 (u64 (Int.tdiv vt88 x73)), .int .i64 d2, .bool false, undef, .int .i64 n1, .int .u64 vt21, .int .i64 d2, .int .u64 vt27, (j72 1), (j72 2), (j72 3), (j72 4), (j72 5), (j72 6), .int .i64 n1, .int .u64 vt81, .int .u64 x73, .int .u64 (u64 (Int.tdiv vt81 x73)), .int .i64 d2, .int .u64 vt88, .int .u64 x73, .int .u64 (u64 (Int.tdiv vt88 x73)), .bool false, .int .u64 (u64 (Int.tdiv vt81 x73)), .bool false, .bool false, .int .u64 (u64 (Int.tdiv vt88 x73)), .bool false, .bool false, undef, .bool ((decide (n1 < 0)) != (decide (d2 < 0))), .int .i64 n1, .bool (decide (n1 < 0)), .int .i64 d2, .bool (decide (d2 < 0)), .bool ((decide (n1 < 0)) != (decide (d2 < 0))), undef, undef, undef, undef, undef, undef, undef, undef, undef, undef, undef], []⟩) (by kernel_rfl) ?_
          refine wpList_nil ?_
          refine hK117 _ _ ?_
          have hq_ := ite_some h; clear h; rcases hq_ with ⟨c119, h⟩ | ⟨c119, h⟩
          · have c119 : ((decide (n1 < 0)) != (decide (d2 < 0))) = true := c119
            refine wpRwI 39 (x := ((decide (n1 < 0)) != (decide (d2 < 0)))) (v := true) (by kernel_rfl) c119 ?_
            refine wpRwI 44 (x := ((decide (n1 < 0)) != (decide (d2 < 0)))) (v := true) (by kernel_rfl) c119 ?_
            refine condT (by kernel_rfl) ?_
            refine wp_seq_k (fun K120 hK121 => ?_)
            refine wp_region_lit ?_
            refine seqL6 (by kernel_rfl) ?_
            refine seqK rfl (does_store (n := 2) (vs := [.int .i64 (w64 (0 - (w64 (u64 (Int.tdiv vt81 x73))))), .int .i64 (w64 (u64 (Int.tdiv vt88 x73)))]) (cs' := #[.int .i64 (w64 (0 - (w64 (u64 (Int.tdiv vt81 x73))))), .int .i64 (w64 (u64 (Int.tdiv vt88 x73)))]) rfl (by kernel_rfl) (by kernel_rfl : _ = Value.pointer (some ⟨b5, 0, none⟩)) (by kernel_rfl : _ = Value.agg #[.int .i64 (w64 (0 - (w64 (u64 (Int.tdiv vt81 x73))))), .int .i64 (w64 (u64 (Int.tdiv vt88 x73)))]) rfl rfl (by intro u_ hu_; simp only [List.mem_cons, List.not_mem_nil, or_false] at hu_; rcases hu_ with rfl | rfl <;> rfl) HS93 (Nat.le_of_ble_eq_true rfl) (by kernel_rfl) ?_)
            intro W122 HS123
            refine seqS1 (a' := ⟨#[.int .i64 n1, .int .i64 d2, undef, undef, .pointer (some ⟨b5, 0, none⟩), .int .i64 0, .int .u64 x73, (j72 0), .int .u64 (u64 (Int.tdiv vt81 x73)), .int .u64 (u64 (Int.tdiv vt88 x73)), .int .i64 d2, .bool false, undef, .int .i64 n1, .int .u64 vt21, .int .i64 d2, .int .u64 vt27, (j72 1), (j72 2), (j72 3), (j72 4), (j72 5), (j72 6), .int .i64 n1, .int .u64 vt81, .int .u64 x73, .int .u64 (u64 (Int.tdiv vt81 x73)), .int .i64 d2, .int .u64 vt88, .int .u64 x73, .int .u64 (u64 (Int.tdiv vt88 x73)), .bool false, .int .u64 (u64 (Int.tdiv vt81 x73)), .bool false, .bool false, .int .u64 (u64 (Int.tdiv vt88 x73)), .bool false, .bool false, undef, .bool true, .int .i64 n1, .bool (decide (n1 < 0)), .int .i64 d2, .bool (decide (d2 < 0)), .bool true, .int .u64 (u64 (Int.tdiv vt81 x73)), .int .i64 (w64 (u64 (Int.tdiv vt81 x73))), .int .i64 (w64 (0 - (w64 (u64 (Int.tdiv vt81 x73))))), .int .u64 (u64 (Int.tdiv vt88 x73)), .int .i64 (w64 (u64 (Int.tdiv vt88 x73))), .agg #[.int .i64 (w64 (0 - (w64 (u64 (Int.tdiv vt81 x73))))), .int .i64 (w64 (u64 (Int.tdiv vt88 x73)))], undef, undef, undef, undef, undef], []⟩) (by kernel_rfl) ?_
            refine wpList_nil ?_
            refine hK121 _ _ ?_
            refine wp_ret ?_
            refine hr99 _ _ ?_
            refine hret _ _ ?_
            refine ends (v := Value.tuple #[.agg #[.int .i64 (w64 (0 - (w64 (u64 (Int.tdiv vt81 x73))))), .int .i64 (w64 (u64 (Int.tdiv vt88 x73)))], .int .i64 0]) (results2 (q1 := .cell 4 41) (q2 := .tmp 5) (by kernel_rfl) (resN (n := 2) (cs := [.int .i64 (w64 (0 - (w64 (u64 (Int.tdiv vt81 x73))))), .int .i64 (w64 (u64 (Int.tdiv vt88 x73)))]) (by kernel_rfl : _ = Value.pointer (some ⟨b5, 0, none⟩)) Try.underlying41 rfl (by kernel_rfl) rfl (HS123.cells 0 2 _ rfl)) (resT (by kernel_rfl : _ = Value.int .i64 0))) (by kernel_rfl) ?_
            have HS131 := HS123.drop
            injection h with h
            injection h with h0_ h
            subst h0_ h
            exact ⟨f90, rfl, (L24.trans (L30.trans (L69.trans (L84.trans L91)))), HS131⟩
          · have c119 : ¬ (((decide (n1 < 0)) != (decide (d2 < 0))) = true) := c119
            refine wpRwI 39 (x := ((decide (n1 < 0)) != (decide (d2 < 0)))) (v := false) (by kernel_rfl) (Bool.eq_false_iff.mpr c119) ?_
            refine wpRwI 44 (x := ((decide (n1 < 0)) != (decide (d2 < 0)))) (v := false) (by kernel_rfl) (Bool.eq_false_iff.mpr c119) ?_
            refine condF (by kernel_rfl) ?_
            refine wp_skip ?_
            refine hn98 _ _ ?_
            refine hK95 _ _ ?_
            refine wp_seq_k (fun K124 hK125 => ?_)
            refine wp_region_lit ?_
            refine seqL5 (by kernel_rfl) ?_
            refine seqK rfl (does_store (n := 2) (vs := [.int .i64 (w64 (u64 (Int.tdiv vt81 x73))), .int .i64 (w64 (u64 (Int.tdiv vt88 x73)))]) (cs' := #[.int .i64 (w64 (u64 (Int.tdiv vt81 x73))), .int .i64 (w64 (u64 (Int.tdiv vt88 x73)))]) rfl (by kernel_rfl) (by kernel_rfl : _ = Value.pointer (some ⟨b5, 0, none⟩)) (by kernel_rfl : _ = Value.agg #[.int .i64 (w64 (u64 (Int.tdiv vt81 x73))), .int .i64 (w64 (u64 (Int.tdiv vt88 x73)))]) rfl rfl (by intro u_ hu_; simp only [List.mem_cons, List.not_mem_nil, or_false] at hu_; rcases hu_ with rfl | rfl <;> rfl) HS93 (Nat.le_of_ble_eq_true rfl) (by kernel_rfl) ?_)
            intro W126 HS127
            refine seqS1 (a' := ⟨#[.int .i64 n1, .int .i64 d2, undef, undef, .pointer (some ⟨b5, 0, none⟩), .int .i64 0, .int .u64 x73, (j72 0), .int .u64 (u64 (Int.tdiv vt81 x73)), .int .u64 (u64 (Int.tdiv vt88 x73)), .int .i64 d2, .bool false, undef, .int .i64 n1, .int .u64 vt21, .int .i64 d2, .int .u64 vt27, (j72 1), (j72 2), (j72 3), (j72 4), (j72 5), (j72 6), .int .i64 n1, .int .u64 vt81, .int .u64 x73, .int .u64 (u64 (Int.tdiv vt81 x73)), .int .i64 d2, .int .u64 vt88, .int .u64 x73, .int .u64 (u64 (Int.tdiv vt88 x73)), .bool false, .int .u64 (u64 (Int.tdiv vt81 x73)), .bool false, .bool false, .int .u64 (u64 (Int.tdiv vt88 x73)), .bool false, .bool false, undef, .bool false, .int .i64 n1, .bool (decide (n1 < 0)), .int .i64 d2, .bool (decide (d2 < 0)), .bool false, undef, undef, undef, undef, undef, undef, .int .u64 (u64 (Int.tdiv vt81 x73)), .int .i64 (w64 (u64 (Int.tdiv vt81 x73))), .int .u64 (u64 (Int.tdiv vt88 x73)), .int .i64 (w64 (u64 (Int.tdiv vt88 x73))), .agg #[.int .i64 (w64 (u64 (Int.tdiv vt81 x73))), .int .i64 (w64 (u64 (Int.tdiv vt88 x73)))]], []⟩) (by kernel_rfl) ?_
            refine wpList_nil ?_
            refine hK125 _ _ ?_
            refine wp_ret ?_
            refine hret _ _ ?_
            refine ends (v := Value.tuple #[.agg #[.int .i64 (w64 (u64 (Int.tdiv vt81 x73))), .int .i64 (w64 (u64 (Int.tdiv vt88 x73)))], .int .i64 0]) (results2 (q1 := .cell 4 41) (q2 := .tmp 5) (by kernel_rfl) (resN (n := 2) (cs := [.int .i64 (w64 (u64 (Int.tdiv vt81 x73))), .int .i64 (w64 (u64 (Int.tdiv vt88 x73)))]) (by kernel_rfl : _ = Value.pointer (some ⟨b5, 0, none⟩)) Try.underlying41 rfl (by kernel_rfl) rfl (HS127.cells 0 2 _ rfl)) (resT (by kernel_rfl : _ = Value.int .i64 0))) (by kernel_rfl) ?_
            have HS132 := HS127.drop
            injection h with h
            injection h with h0_ h
            subst h0_ h
            exact ⟨f90, rfl, (L24.trans (L30.trans (L69.trans (L84.trans L91)))), HS132⟩
    clear h; have h := hv74; clear hv74
    refine loopK (fun n_ a_ w_ => ∃ (f45 : FM) (x50 : Int) (y51 : Int) (j49 : Nat → Value), FM.le f29 f45 ∧ St t w_ f45 ([(b5, .cells #[.int .i64 0, .int .i64 0] 41 (0, 0))] :: H) ∧ frac_Make.l0 k n_ x50 y51 = some o41 ∧ a_ = ⟨#[.int .i64 n1, .int .i64 d2, undef, undef, .pointer (some ⟨b5, 0, none⟩), .int .i64 0, .int .u64 x50, .int .u64 y51, undef, undef, .int .i64 d2, .bool false, undef, .int .i64 n1, .int .u64 vt21, .int .i64 d2, .int .u64 vt27, (j49 0), (j49 1), (j49 2), (j49 3), (j49 4), (j49 5), undef, undef, undef, undef, undef, undef, undef, undef, undef, undef, undef, undef, undef, undef, undef, undef, undef, undef, undef, undef, undef, undef, undef, undef, undef, undef, undef, undef, undef, undef, undef, undef, undef], []⟩) k ⟨f29, vt21, vt27, (fun i_ => [undef, undef, undef, undef, undef, undef].getD i_ undef), (FM.le.refl _), HS32, h, (by kernel_rfl)⟩ ?_
    clear h
    rintro n44 _ W47 ⟨f45, x50, y51, j49, L46, HS48, h, rfl⟩ K42 hK43
    obtain _ | n44 := n44
    · exact nomatch h
    simp only [frac_Make.l0] at h
    refine wp_seq_k (fun K52 hK53 => ?_)
    refine wp_seq_k (fun K54 hK55 => ?_)
    refine wp_region_lit ?_
    refine seqS2 (a' := ⟨#[.int .i64 n1, .int .i64 d2, undef, undef, .pointer (some ⟨b5, 0, none⟩), .int .i64 0, .int .u64 x50, .int .u64 y51, undef, undef, .int .i64 d2, .bool false, undef, .int .i64 n1, .int .u64 vt21, .int .i64 d2, .int .u64 vt27, .int .u64 y51, .bool (decide (y51 > 0)), (j49 2), (j49 3), (j49 4), (j49 5), undef, undef, undef, undef, undef, undef, undef, undef, undef, undef, undef, undef, undef, undef, undef, undef, undef, undef, undef, undef, undef, undef, undef, undef, undef, undef, undef, undef, undef, undef, undef, undef, undef], []⟩) (by kernel_rfl) ?_
    refine wpList_nil ?_
    refine hK55 _ _ ?_
    have hq_ := ite_some h; clear h; rcases hq_ with ⟨c57, h⟩ | ⟨c57, h⟩
    · have c57 : y51 > 0 := c57
      refine wpRwI 18 (x := (decide (y51 > 0))) (v := true) (by kernel_rfl) (decide_eq_true c57) ?_
      refine condT (by kernel_rfl) ?_
      refine wp_skip ?_
      refine hK53 _ _ ?_
      refine blockK (fun B58 hx59 hn60 hr61 ho62 hp63 => ?_)
      refine heldG (S := Sg t f45 ([(b5, .cells #[.int .i64 0, .int .i64 0] 41 (0, 0))] :: H) []) (n := 6) (by kernel_rfl) rfl HS48 ?_
      intro W65 HS66
      have hq_ := guard_some h; clear h; obtain ⟨c67, h⟩ := hq_
      have c67 : ¬ (y51 = 0) := c67
      refine takeG [0, 1, 2] (n := 6) (fuel := 3) (l' := #[true, true, true, false, false, false]) (a' := ⟨#[.int .i64 n1, .int .i64 d2, undef, undef, .pointer (some ⟨b5, 0, none⟩), .int .i64 0, .int .u64 x50, .int .u64 y51, undef, undef, .int .i64 d2, .bool false, undef, .int .i64 n1, .int .u64 vt21, .int .i64 d2, .int .u64 vt27, .int .u64 y51, .bool true, .int .u64 y51, .int .u64 x50, .int .u64 y51, (j49 5), undef, undef, undef, undef, undef, undef, undef, undef, undef, undef, undef, undef, undef, undef, undef, undef, undef, undef, undef, undef, undef, undef, undef, undef, undef, undef, undef, undef, undef, undef, undef, undef, undef], []⟩) rfl (by kernel_rfl) (by kernel_rfl) (by kernel_rfl) (fun ch_ a_ w_ q_ => (fun ch_ a_ w_ q_ => hnp ch_ a_ w_ (hp40 ch_ a_ w_ q_)) ch_ a_ w_ (hp63 ch_ a_ w_ q_)) (Sg.g0 (Sx.of [] (FM.le.refl _) HS66)) ?_
      refine takeGQ 3 [] rfl (by kernel_rfl) (by kernel_rfl) (by kernel_rfl) (by kernel_rfl) (by kernel_rfl) (by kernel_rfl) (fun ch_ a_ w_ q_ => (fun ch_ a_ w_ q_ => hnp ch_ a_ w_ (hp40 ch_ a_ w_ q_)) ch_ a_ w_ (hp63 ch_ a_ w_ q_)) (Sg.g0 (Sx.of [] (FM.le.refl _) HS66)) (fun w_ hw_ => by obtain ⟨g_, hl_, hS_⟩ := hw_.st; exact run_rem rfl (by kernel_rfl : _ = Value.int .u64 x50) (by kernel_rfl : _ = Value.int .u64 y51) c67 w_) ?_
      refine takeG [4, 5] (n := 2) (fuel := 0) (l' := #[true, true, true, true, true, true]) (a' := ⟨#[.int .i64 n1, .int .i64 d2, undef, undef, .pointer (some ⟨b5, 0, none⟩), .int .i64 0, .int .u64 y51, .int .u64 (Int.tmod x50 y51), undef, undef, .int .i64 d2, .bool false, undef, .int .i64 n1, .int .u64 vt21, .int .i64 d2, .int .u64 vt27, .int .u64 y51, .bool true, .int .u64 y51, .int .u64 x50, .int .u64 y51, .int .u64 (Int.tmod x50 y51), undef, undef, undef, undef, undef, undef, undef, undef, undef, undef, undef, undef, undef, undef, undef, undef, undef, undef, undef, undef, undef, undef, undef, undef, undef, undef, undef, undef, undef, undef, undef, undef, undef], []⟩) rfl (by kernel_rfl) (by kernel_rfl) (by kernel_rfl) (fun ch_ a_ w_ q_ => (fun ch_ a_ w_ q_ => hnp ch_ a_ w_ (hp40 ch_ a_ w_ q_)) ch_ a_ w_ (hp63 ch_ a_ w_ q_)) (Sg.g0 (Sx.of [] (FM.le.refl _) HS66)) ?_
      refine doneG (by kernel_rfl) ?_ _
      refine hn60 _ _ ?_
      refine hK43 n44 _ _ (Nat.lt_succ_self _) ?_
      exact ⟨f45, y51, (Int.tmod x50 y51), (fun i_ => [Value.int .u64 y51, Value.bool true, Value.int .u64 y51, Value.int .u64 x50, Value.int .u64 y51, Value.int .u64 (Int.tmod x50 y51)].getD i_ undef), L46, HS66, h, (by kernel_rfl)⟩
    · have c57 : ¬ (y51 > 0) := c57
      refine wpRwI 18 (x := (decide (y51 > 0))) (v := false) (by kernel_rfl) (decide_eq_false c57) ?_
      refine condF (by kernel_rfl) ?_
      refine wp_exit ?_
      refine hx36 _ _ ?_
      exact J75 f45 x50 (fun i_ => [Value.int .u64 y51, Value.int .u64 y51, Value.bool false, (j49 2), (j49 3), (j49 4), (j49 5)].getD i_ undef) W47 _ L46 h HS48 (by kernel_rfl)

set_option maxRecDepth 100000 in
set_option maxHeartbeats 4000000 in
theorem num_size.calls (k : Nat)  (a1 : Int) {t w : World} {f : FM} {H : List Seg} (HS : St t w f (H)) (r1 : Int) (h : num_size k a1 = some r1) :
    Calls Try.prog 47 #[.int .i64 a1] w (fun e w' => ∃ (g : FM), e = .returned (Value.int .u64 r1) ∧ FM.le f g ∧ St t w' g (H)) := by
  unfold num_size at h
  refine enter Try.func47 rfl (tm := #[.int .i64 a1, undef, undef, undef, undef, undef, undef, undef, undef, undef]) (by kernel_rfl) ?_
  intro B hret hnor hnp
  refine wp_seq_k (fun K2 hK3 => ?_)
  refine wp_region_lit ?_
  refine seqS1 (a' := ⟨#[.int .i64 a1, undef, .int .u64 0, undef, undef, undef, undef, undef, undef, undef], []⟩) (by kernel_rfl) ?_
  refine wpList_nil ?_
  refine hK3 _ _ ?_
  refine wp_seq_k (fun K4 hK5 => ?_)
  refine wp_seq_k (fun K6 hK7 => ?_)
  refine wp_region_lit ?_
  refine seqS2 (a' := ⟨#[.int .i64 a1, undef, .int .u64 0, .int .i64 a1, .bool (decide (a1 < 0)), undef, undef, undef, undef, undef], []⟩) (by kernel_rfl) ?_
  refine wpList_nil ?_
  refine hK7 _ _ ?_
  have hq_ := ite_some h; clear h; rcases hq_ with ⟨c9, h⟩ | ⟨c9, h⟩
  · have c9 : a1 < 0 := c9
    refine wpRwI 4 (x := (decide (a1 < 0))) (v := true) (by kernel_rfl) (decide_eq_true c9) ?_
    refine condT (by kernel_rfl) ?_
    refine wp_seq_k (fun K10 hK11 => ?_)
    refine wp_region_lit ?_
    refine seqS4 (a' := ⟨#[.int .i64 a1, undef, .int .u64 (u64 (0 - (u64 (a1)))), .int .i64 a1, .bool true, .int .i64 a1, .int .u64 (u64 (a1)), .int .u64 (u64 (0 - (u64 (a1)))), undef, undef], []⟩) (by kernel_rfl) ?_
    refine wpList_nil ?_
    refine hK11 _ _ ?_
    refine wp_ret ?_
    refine hret _ _ ?_
    refine ends_still (v := Value.int .u64 (u64 (0 - (u64 (a1))))) (by kernel_rfl) (by kernel_rfl) ?_
    injection h with h
    subst h
    exact ⟨f, rfl, FM.le.refl _, HS⟩
  · have c9 : ¬ (a1 < 0) := c9
    refine wpRwI 4 (x := (decide (a1 < 0))) (v := false) (by kernel_rfl) (decide_eq_false c9) ?_
    refine condF (by kernel_rfl) ?_
    refine wp_skip ?_
    refine hK5 _ _ ?_
    refine wp_seq_k (fun K12 hK13 => ?_)
    refine wp_region_lit ?_
    refine seqS3 (a' := ⟨#[.int .i64 a1, undef, .int .u64 (u64 (a1)), .int .i64 a1, .bool false, undef, undef, undef, .int .i64 a1, .int .u64 (u64 (a1))], []⟩) (by kernel_rfl) ?_
    refine wpList_nil ?_
    refine hK13 _ _ ?_
    refine wp_ret ?_
    refine hret _ _ ?_
    refine ends_still (v := Value.int .u64 (u64 (a1))) (by kernel_rfl) (by kernel_rfl) ?_
    injection h with h
    subst h
    exact ⟨f, rfl, FM.le.refl _, HS⟩

set_option maxRecDepth 100000 in
set_option maxHeartbeats 4000000 in
theorem num_Gcd.calls (k : Nat)  (a1 : Int) (b2 : Int) {t w : World} {f : FM} {H : List Seg} (HS : St t w f (H)) (r1 : Int) (h : num_Gcd k a1 b2 = some r1) :
    Calls Try.prog 38 #[.int .i64 a1, .int .i64 b2] w (fun e w' => ∃ (g : FM), e = .returned (Value.int .i64 r1) ∧ FM.le f g ∧ St t w' g (H)) := by
  unfold num_Gcd at h
  refine enter Try.func38 rfl (tm := #[.int .i64 a1, .int .i64 b2, undef, undef, undef, undef, undef, undef, undef, undef, undef, undef, undef, undef, undef, undef, undef, undef, undef, undef]) (by kernel_rfl) ?_
  intro B hret hnor hnp
  refine wp_seq_k (fun K3 hK4 => ?_)
  refine wp_region_lit ?_
  refine seqS1 (a' := ⟨#[.int .i64 a1, .int .i64 b2, undef, undef, .int .i64 0, undef, undef, undef, undef, undef, undef, undef, undef, undef, undef, undef, undef, undef, undef, undef], []⟩) (by kernel_rfl) ?_
  refine wpList_nil ?_
  refine hK4 _ _ ?_
  refine wp_seq_k (fun K5 hK6 => ?_)
  refine wp_region_lit ?_
  have hq_ := bind_some h; clear h; obtain ⟨vt7, hc8, h⟩ := hq_
  refine seqL1 (by kernel_rfl) ?_
  refine seqK rfl (does_call (f := 47) (args := #[.int .i64 a1]) (by kernel_rfl) (num_size.calls k a1 HS vt7 hc8) ?_)
  rintro _ W11 ⟨f9, rfl, L10, HS12⟩
  refine ⟨_, rfl, ?_⟩
  have hq_ := bind_some h; clear h; obtain ⟨vt13, hc14, h⟩ := hq_
  refine seqL1 (by kernel_rfl) ?_
  refine seqK rfl (does_call (f := 47) (args := #[.int .i64 b2]) (by kernel_rfl) (num_size.calls k b2 HS12 vt13 hc14) ?_)
  rintro _ W17 ⟨f15, rfl, L16, HS18⟩
  refine ⟨_, rfl, ?_⟩
  refine seqS2 (a' := ⟨#[.int .i64 a1, .int .i64 b2, undef, undef, .int .i64 0, .int .u64 vt7, .int .u64 vt13, .int .i64 a1, .int .u64 vt7, .int .i64 b2, .int .u64 vt13, undef, undef, undef, undef, undef, undef, undef, undef, undef], []⟩) (by kernel_rfl) ?_
  refine wpList_nil ?_
  refine hK6 _ _ ?_
  refine wp_seq_k (fun K19 hK20 => ?_)
  refine blockK (fun B21 hx22 hn23 hr24 ho25 hp26 => ?_)
  have hq_ := bind_some h; clear h; obtain ⟨o27, hv60, h⟩ := hq_
  have J61 : ∀ (f54 : FM) (x59 : Int) (j58 : Nat → Value) (W56 : World) (a_ : Act), FM.le f15 f54 → some (x59) = some o27 → St t W56 f54 (H) → a_ = ⟨#[.int .i64 a1, .int .i64 b2, undef, undef, .int .i64 0, .int .u64 x59, (j58 0), .int .i64 a1, .int .u64 vt7, .int .i64 b2, .int .u64 vt13, (j58 1), (j58 2), (j58 3), (j58 4), (j58 5), (j58 6), undef, undef, undef], []⟩ → K19 a_ W56 := by
    intro f54 x59 j58 W56 a_ L55 hj62 HS57  hfr_; subst hfr_
    injection hj62 with hj62; subst hj62; try dsimp only at h
    refine hK20 _ _ ?_
    refine wp_seq_k (fun K63 hK64 => ?_)
    refine wp_region_lit ?_
    refine seqS4 (a' := ⟨#[.int .i64 a1, .int .i64 b2, undef, undef, .int .i64 (w64 (Go.bits .andNot .u64 x59 9223372036854775808)), .int .u64 x59, (j58 0), .int .i64 a1, .int .u64 vt7, .int .i64 b2, .int .u64 vt13, (j58 1), (j58 2), (j58 3), (j58 4), (j58 5), (j58 6), .int .u64 x59, .int .u64 (Go.bits .andNot .u64 x59 9223372036854775808), .int .i64 (w64 (Go.bits .andNot .u64 x59 9223372036854775808))], []⟩) (by kernel_rfl) ?_
    refine wpList_nil ?_
    refine hK64 _ _ ?_
    refine wp_ret ?_
    refine hret _ _ ?_
    refine ends_still (v := Value.int .i64 (w64 (Go.bits .andNot .u64 x59 9223372036854775808))) (by kernel_rfl) (by kernel_rfl) ?_
    injection h with h
    subst h
    exact ⟨f54, rfl, (L10.trans (L16.trans L55)), HS57⟩
  clear h; have h := hv60; clear hv60
  refine loopK (fun n_ a_ w_ => ∃ (f31 : FM) (x36 : Int) (y37 : Int) (j35 : Nat → Value), FM.le f15 f31 ∧ St t w_ f31 (H) ∧ num_Gcd.l0 k n_ x36 y37 = some o27 ∧ a_ = ⟨#[.int .i64 a1, .int .i64 b2, undef, undef, .int .i64 0, .int .u64 x36, .int .u64 y37, .int .i64 a1, .int .u64 vt7, .int .i64 b2, .int .u64 vt13, (j35 0), (j35 1), (j35 2), (j35 3), (j35 4), (j35 5), undef, undef, undef], []⟩) k ⟨f15, vt7, vt13, (fun i_ => [undef, undef, undef, undef, undef, undef].getD i_ undef), (FM.le.refl _), HS18, h, (by kernel_rfl)⟩ ?_
  clear h
  rintro n30 _ W33 ⟨f31, x36, y37, j35, L32, HS34, h, rfl⟩ K28 hK29
  obtain _ | n30 := n30
  · exact nomatch h
  simp only [num_Gcd.l0] at h
  refine wp_seq_k (fun K38 hK39 => ?_)
  refine wp_seq_k (fun K40 hK41 => ?_)
  refine wp_region_lit ?_
  refine seqS2 (a' := ⟨#[.int .i64 a1, .int .i64 b2, undef, undef, .int .i64 0, .int .u64 x36, .int .u64 y37, .int .i64 a1, .int .u64 vt7, .int .i64 b2, .int .u64 vt13, .int .u64 y37, .bool (decide (y37 > 0)), (j35 2), (j35 3), (j35 4), (j35 5), undef, undef, undef], []⟩) (by kernel_rfl) ?_
  refine wpList_nil ?_
  refine hK41 _ _ ?_
  have hq_ := ite_some h; clear h; rcases hq_ with ⟨c43, h⟩ | ⟨c43, h⟩
  · have c43 : y37 > 0 := c43
    refine wpRwI 12 (x := (decide (y37 > 0))) (v := true) (by kernel_rfl) (decide_eq_true c43) ?_
    refine condT (by kernel_rfl) ?_
    refine wp_skip ?_
    refine hK39 _ _ ?_
    refine blockK (fun B44 hx45 hn46 hr47 ho48 hp49 => ?_)
    refine heldG (S := Sg t f31 (H) []) (n := 6) (by kernel_rfl) rfl HS34 ?_
    intro W51 HS52
    have hq_ := guard_some h; clear h; obtain ⟨c53, h⟩ := hq_
    have c53 : ¬ (y37 = 0) := c53
    refine takeG [0, 1, 2] (n := 6) (fuel := 3) (l' := #[true, true, true, false, false, false]) (a' := ⟨#[.int .i64 a1, .int .i64 b2, undef, undef, .int .i64 0, .int .u64 x36, .int .u64 y37, .int .i64 a1, .int .u64 vt7, .int .i64 b2, .int .u64 vt13, .int .u64 y37, .bool true, .int .u64 y37, .int .u64 x36, .int .u64 y37, (j35 5), undef, undef, undef], []⟩) rfl (by kernel_rfl) (by kernel_rfl) (by kernel_rfl) (fun ch_ a_ w_ q_ => (fun ch_ a_ w_ q_ => hnp ch_ a_ w_ (hp26 ch_ a_ w_ q_)) ch_ a_ w_ (hp49 ch_ a_ w_ q_)) (Sg.g0 (Sx.of [] (FM.le.refl _) HS52)) ?_
    refine takeGQ 3 [] rfl (by kernel_rfl) (by kernel_rfl) (by kernel_rfl) (by kernel_rfl) (by kernel_rfl) (by kernel_rfl) (fun ch_ a_ w_ q_ => (fun ch_ a_ w_ q_ => hnp ch_ a_ w_ (hp26 ch_ a_ w_ q_)) ch_ a_ w_ (hp49 ch_ a_ w_ q_)) (Sg.g0 (Sx.of [] (FM.le.refl _) HS52)) (fun w_ hw_ => by obtain ⟨g_, hl_, hS_⟩ := hw_.st; exact run_rem rfl (by kernel_rfl : _ = Value.int .u64 x36) (by kernel_rfl : _ = Value.int .u64 y37) c53 w_) ?_
    refine takeG [4, 5] (n := 2) (fuel := 0) (l' := #[true, true, true, true, true, true]) (a' := ⟨#[.int .i64 a1, .int .i64 b2, undef, undef, .int .i64 0, .int .u64 y37, .int .u64 (Int.tmod x36 y37), .int .i64 a1, .int .u64 vt7, .int .i64 b2, .int .u64 vt13, .int .u64 y37, .bool true, .int .u64 y37, .int .u64 x36, .int .u64 y37, .int .u64 (Int.tmod x36 y37), undef, undef, undef], []⟩) rfl (by kernel_rfl) (by kernel_rfl) (by kernel_rfl) (fun ch_ a_ w_ q_ => (fun ch_ a_ w_ q_ => hnp ch_ a_ w_ (hp26 ch_ a_ w_ q_)) ch_ a_ w_ (hp49 ch_ a_ w_ q_)) (Sg.g0 (Sx.of [] (FM.le.refl _) HS52)) ?_
    refine doneG (by kernel_rfl) ?_ _
    refine hn46 _ _ ?_
    refine hK29 n30 _ _ (Nat.lt_succ_self _) ?_
    exact ⟨f31, y37, (Int.tmod x36 y37), (fun i_ => [Value.int .u64 y37, Value.bool true, Value.int .u64 y37, Value.int .u64 x36, Value.int .u64 y37, Value.int .u64 (Int.tmod x36 y37)].getD i_ undef), L32, HS52, h, (by kernel_rfl)⟩
  · have c43 : ¬ (y37 > 0) := c43
    refine wpRwI 12 (x := (decide (y37 > 0))) (v := false) (by kernel_rfl) (decide_eq_false c43) ?_
    refine condF (by kernel_rfl) ?_
    refine wp_exit ?_
    refine hx22 _ _ ?_
    exact J61 f31 x36 (fun i_ => [Value.int .u64 y37, Value.int .u64 y37, Value.bool false, (j35 2), (j35 3), (j35 4), (j35 5)].getD i_ undef) W33 _ L32 h HS34 (by kernel_rfl)

set_option maxRecDepth 100000 in
set_option maxHeartbeats 4000000 in
theorem frac_Check.calls (k : Nat)  (x1 : S_Frac) {t w : World} {f : FM} {H : List Seg} (HS : St t w f (H)) (r1 : Int) (h : frac_Check k x1 = some r1) :
    Calls Try.prog 46 #[.agg #[.int .i64 x1.Num, .int .i64 x1.Den]] w (fun e w' => ∃ (g : FM), e = .returned (Value.int .i64 r1) ∧ FM.le f g ∧ St t w' g (H)) := by
  unfold frac_Check at h
  refine enter Try.func46 rfl (tm := #[.agg #[.int .i64 x1.Num, .int .i64 x1.Den], undef, undef, undef, undef, undef, undef, undef, undef, undef, undef, undef, undef, undef, undef, undef, undef, undef, undef, undef, undef, undef, undef, undef, undef, undef, undef]) (by kernel_rfl) ?_
  intro B hret hnor hnp
  refine wp_seq_k (fun K2 hK3 => ?_)
  refine wp_region_lit ?_
  refine seqK rfl (does_box (cs := #[.int .i64 x1.Num, .int .i64 x1.Den]) rfl (by kernel_rfl : _ = Value.agg #[.int .i64 x1.Num, .int .i64 x1.Den]) rfl HS ?_)
  intro b4 W5 HS6
  refine seqS1 (a' := ⟨#[.agg #[.int .i64 x1.Num, .int .i64 x1.Den], .pointer (some ⟨b4, 0, none⟩), .int .i64 0, undef, undef, undef, undef, undef, undef, undef, undef, undef, undef, undef, undef, undef, undef, undef, undef, undef, undef, undef, undef, undef, undef, undef, undef], []⟩) (by kernel_rfl) ?_
  refine wpList_nil ?_
  refine hK3 _ _ ?_
  refine wp_seq_k (fun K8 hK9 => ?_)
  refine wp_seq_k (fun K10 hK11 => ?_)
  refine wp_region_lit ?_
  refine seqL1 (by kernel_rfl) ?_
  refine seqK rfl (does_run (run_load rfl Try.underlying2 rfl (by kernel_rfl : _ = Value.pointer (some ⟨b4, 0, none⟩)) (HS6.cell 0)) ?_)
  refine seqS2 (a' := ⟨#[.agg #[.int .i64 x1.Num, .int .i64 x1.Den], .pointer (some ⟨b4, 0, none⟩), .int .i64 0, .pointer (some ⟨b4, 0, none⟩), .int .i64 x1.Num, .bool (decide (x1.Num < (-1152921504606846976))), .bool (decide (x1.Num < (-1152921504606846976))), undef, undef, undef, undef, undef, undef, undef, undef, undef, undef, undef, undef, undef, undef, undef, undef, undef, undef, undef, undef], []⟩) (by kernel_rfl) ?_
  have hq_ := ite_some h; clear h; rcases hq_ with ⟨c12, h⟩ | ⟨c12, h⟩
  · have c12 : x1.Num < (-1152921504606846976) := c12
    refine seqRwI 5 (x := (decide (x1.Num < (-1152921504606846976)))) (v := true) (by kernel_rfl) (decide_eq_true c12) ?_
    refine seqRwI 6 (x := (decide (x1.Num < (-1152921504606846976)))) (v := true) (by kernel_rfl) (decide_eq_true c12) ?_
    refine seqS14 (a' := ⟨#[.agg #[.int .i64 x1.Num, .int .i64 x1.Den], .pointer (some ⟨b4, 0, none⟩), .int .i64 0, .pointer (some ⟨b4, 0, none⟩), .int .i64 x1.Num, .bool true, .bool true, undef, undef, undef, .bool true, .bool true, undef, undef, undef, .bool true, .bool true, undef, undef, undef, .bool true, undef, undef, undef, undef, undef, undef], []⟩) (by kernel_rfl) ?_
    refine wpList_nil ?_
    refine hK11 _ _ ?_
    refine condT (by kernel_rfl) ?_
    refine wp_seq_k (fun K13 hK14 => ?_)
    refine wp_region_lit ?_
    refine seqS1 (a' := ⟨#[.agg #[.int .i64 x1.Num, .int .i64 x1.Den], .pointer (some ⟨b4, 0, none⟩), .int .i64 4, .pointer (some ⟨b4, 0, none⟩), .int .i64 x1.Num, .bool true, .bool true, undef, undef, undef, .bool true, .bool true, undef, undef, undef, .bool true, .bool true, undef, undef, undef, .bool true, undef, undef, undef, undef, undef, undef], []⟩) (by kernel_rfl) ?_
    refine wpList_nil ?_
    refine hK14 _ _ ?_
    refine wp_ret ?_
    refine hret _ _ ?_
    refine ends_still (v := Value.int .i64 4) (by kernel_rfl) (by kernel_rfl) ?_
    have HS41 := HS6.drop
    injection h with h
    subst h
    exact ⟨f, rfl, FM.le.refl _, HS41⟩
  · have c12 : ¬ (x1.Num < (-1152921504606846976)) := c12
    refine seqRwI 5 (x := (decide (x1.Num < (-1152921504606846976)))) (v := false) (by kernel_rfl) (decide_eq_false c12) ?_
    refine seqRwI 6 (x := (decide (x1.Num < (-1152921504606846976)))) (v := false) (by kernel_rfl) (decide_eq_false c12) ?_
    refine seqL1 (by kernel_rfl) ?_
    refine seqG (by kernel_rfl) (does_run (run_load rfl Try.underlying2 rfl (by kernel_rfl : _ = Value.pointer (some ⟨b4, 0, none⟩)) (HS6.cell 0)) ?_)
    refine seqS3 (a' := ⟨#[.agg #[.int .i64 x1.Num, .int .i64 x1.Den], .pointer (some ⟨b4, 0, none⟩), .int .i64 0, .pointer (some ⟨b4, 0, none⟩), .int .i64 x1.Num, .bool false, .bool false, .pointer (some ⟨b4, 0, none⟩), .int .i64 x1.Num, .bool (decide (x1.Num > 1152921504606846976)), .bool (decide (x1.Num > 1152921504606846976)), .bool (decide (x1.Num > 1152921504606846976)), undef, undef, undef, undef, undef, undef, undef, undef, undef, undef, undef, undef, undef, undef, undef], []⟩) (by kernel_rfl) ?_
    have hq_ := ite_some h; clear h; rcases hq_ with ⟨c15, h⟩ | ⟨c15, h⟩
    · have c15 : x1.Num > 1152921504606846976 := c15
      refine seqRwI 9 (x := (decide (x1.Num > 1152921504606846976))) (v := true) (by kernel_rfl) (decide_eq_true c15) ?_
      refine seqRwI 10 (x := (decide (x1.Num > 1152921504606846976))) (v := true) (by kernel_rfl) (decide_eq_true c15) ?_
      refine seqRwI 11 (x := (decide (x1.Num > 1152921504606846976))) (v := true) (by kernel_rfl) (decide_eq_true c15) ?_
      refine seqS9 (a' := ⟨#[.agg #[.int .i64 x1.Num, .int .i64 x1.Den], .pointer (some ⟨b4, 0, none⟩), .int .i64 0, .pointer (some ⟨b4, 0, none⟩), .int .i64 x1.Num, .bool false, .bool false, .pointer (some ⟨b4, 0, none⟩), .int .i64 x1.Num, .bool true, .bool true, .bool true, undef, undef, undef, .bool true, .bool true, undef, undef, undef, .bool true, undef, undef, undef, undef, undef, undef], []⟩) (by kernel_rfl) ?_
      refine wpList_nil ?_
      refine hK11 _ _ ?_
      refine condT (by kernel_rfl) ?_
      refine wp_seq_k (fun K16 hK17 => ?_)
      refine wp_region_lit ?_
      refine seqS1 (a' := ⟨#[.agg #[.int .i64 x1.Num, .int .i64 x1.Den], .pointer (some ⟨b4, 0, none⟩), .int .i64 4, .pointer (some ⟨b4, 0, none⟩), .int .i64 x1.Num, .bool false, .bool false, .pointer (some ⟨b4, 0, none⟩), .int .i64 x1.Num, .bool true, .bool true, .bool true, undef, undef, undef, .bool true, .bool true, undef, undef, undef, .bool true, undef, undef, undef, undef, undef, undef], []⟩) (by kernel_rfl) ?_
      refine wpList_nil ?_
      refine hK17 _ _ ?_
      refine wp_ret ?_
      refine hret _ _ ?_
      refine ends_still (v := Value.int .i64 4) (by kernel_rfl) (by kernel_rfl) ?_
      have HS42 := HS6.drop
      injection h with h
      subst h
      exact ⟨f, rfl, FM.le.refl _, HS42⟩
    · have c15 : ¬ (x1.Num > 1152921504606846976) := c15
      refine seqRwI 9 (x := (decide (x1.Num > 1152921504606846976))) (v := false) (by kernel_rfl) (decide_eq_false c15) ?_
      refine seqRwI 10 (x := (decide (x1.Num > 1152921504606846976))) (v := false) (by kernel_rfl) (decide_eq_false c15) ?_
      refine seqRwI 11 (x := (decide (x1.Num > 1152921504606846976))) (v := false) (by kernel_rfl) (decide_eq_false c15) ?_
      refine seqL1 (by kernel_rfl) ?_
      refine seqG (by kernel_rfl) (does_run (run_load rfl Try.underlying2 rfl (by kernel_rfl : _ = Value.pointer (some ⟨b4, 1, none⟩)) (HS6.cell 1)) ?_)
      refine seqS3 (a' := ⟨#[.agg #[.int .i64 x1.Num, .int .i64 x1.Den], .pointer (some ⟨b4, 0, none⟩), .int .i64 0, .pointer (some ⟨b4, 0, none⟩), .int .i64 x1.Num, .bool false, .bool false, .pointer (some ⟨b4, 0, none⟩), .int .i64 x1.Num, .bool false, .bool false, .bool false, .pointer (some ⟨b4, 1, none⟩), .int .i64 x1.Den, .bool (decide (x1.Den < 1)), .bool (decide (x1.Den < 1)), .bool (decide (x1.Den < 1)), undef, undef, undef, undef, undef, undef, undef, undef, undef, undef], []⟩) (by kernel_rfl) ?_
      have hq_ := ite_some h; clear h; rcases hq_ with ⟨c18, h⟩ | ⟨c18, h⟩
      · have c18 : x1.Den < 1 := c18
        refine seqRwI 14 (x := (decide (x1.Den < 1))) (v := true) (by kernel_rfl) (decide_eq_true c18) ?_
        refine seqRwI 15 (x := (decide (x1.Den < 1))) (v := true) (by kernel_rfl) (decide_eq_true c18) ?_
        refine seqRwI 16 (x := (decide (x1.Den < 1))) (v := true) (by kernel_rfl) (decide_eq_true c18) ?_
        refine seqS4 (a' := ⟨#[.agg #[.int .i64 x1.Num, .int .i64 x1.Den], .pointer (some ⟨b4, 0, none⟩), .int .i64 0, .pointer (some ⟨b4, 0, none⟩), .int .i64 x1.Num, .bool false, .bool false, .pointer (some ⟨b4, 0, none⟩), .int .i64 x1.Num, .bool false, .bool false, .bool false, .pointer (some ⟨b4, 1, none⟩), .int .i64 x1.Den, .bool true, .bool true, .bool true, undef, undef, undef, .bool true, undef, undef, undef, undef, undef, undef], []⟩) (by kernel_rfl) ?_
        refine wpList_nil ?_
        refine hK11 _ _ ?_
        refine condT (by kernel_rfl) ?_
        refine wp_seq_k (fun K19 hK20 => ?_)
        refine wp_region_lit ?_
        refine seqS1 (a' := ⟨#[.agg #[.int .i64 x1.Num, .int .i64 x1.Den], .pointer (some ⟨b4, 0, none⟩), .int .i64 4, .pointer (some ⟨b4, 0, none⟩), .int .i64 x1.Num, .bool false, .bool false, .pointer (some ⟨b4, 0, none⟩), .int .i64 x1.Num, .bool false, .bool false, .bool false, .pointer (some ⟨b4, 1, none⟩), .int .i64 x1.Den, .bool true, .bool true, .bool true, undef, undef, undef, .bool true, undef, undef, undef, undef, undef, undef], []⟩) (by kernel_rfl) ?_
        refine wpList_nil ?_
        refine hK20 _ _ ?_
        refine wp_ret ?_
        refine hret _ _ ?_
        refine ends_still (v := Value.int .i64 4) (by kernel_rfl) (by kernel_rfl) ?_
        have HS43 := HS6.drop
        injection h with h
        subst h
        exact ⟨f, rfl, FM.le.refl _, HS43⟩
      · have c18 : ¬ (x1.Den < 1) := c18
        refine seqRwI 14 (x := (decide (x1.Den < 1))) (v := false) (by kernel_rfl) (decide_eq_false c18) ?_
        refine seqRwI 15 (x := (decide (x1.Den < 1))) (v := false) (by kernel_rfl) (decide_eq_false c18) ?_
        refine seqRwI 16 (x := (decide (x1.Den < 1))) (v := false) (by kernel_rfl) (decide_eq_false c18) ?_
        refine seqL1 (by kernel_rfl) ?_
        refine seqG (by kernel_rfl) (does_run (run_load rfl Try.underlying2 rfl (by kernel_rfl : _ = Value.pointer (some ⟨b4, 1, none⟩)) (HS6.cell 1)) ?_)
        refine seqS2 (a' := ⟨#[.agg #[.int .i64 x1.Num, .int .i64 x1.Den], .pointer (some ⟨b4, 0, none⟩), .int .i64 0, .pointer (some ⟨b4, 0, none⟩), .int .i64 x1.Num, .bool false, .bool false, .pointer (some ⟨b4, 0, none⟩), .int .i64 x1.Num, .bool false, .bool false, .bool false, .pointer (some ⟨b4, 1, none⟩), .int .i64 x1.Den, .bool false, .bool false, .bool false, .pointer (some ⟨b4, 1, none⟩), .int .i64 x1.Den, .bool (decide (x1.Den > 1152921504606846976)), .bool (decide (x1.Den > 1152921504606846976)), undef, undef, undef, undef, undef, undef], []⟩) (by kernel_rfl) ?_
        refine wpList_nil ?_
        refine hK11 _ _ ?_
        have hq_ := ite_some h; clear h; rcases hq_ with ⟨c22, h⟩ | ⟨c22, h⟩
        · have c22 : x1.Den > 1152921504606846976 := c22
          refine wpRwI 19 (x := (decide (x1.Den > 1152921504606846976))) (v := true) (by kernel_rfl) (decide_eq_true c22) ?_
          refine wpRwI 20 (x := (decide (x1.Den > 1152921504606846976))) (v := true) (by kernel_rfl) (decide_eq_true c22) ?_
          refine condT (by kernel_rfl) ?_
          refine wp_seq_k (fun K23 hK24 => ?_)
          refine wp_region_lit ?_
          refine seqS1 (a' := ⟨#[.agg #[.int .i64 x1.Num, .int .i64 x1.Den], .pointer (some ⟨b4, 0, none⟩), .int .i64 4, .pointer (some ⟨b4, 0, none⟩), .int .i64 x1.Num, .bool false, .bool false, .pointer (some ⟨b4, 0, none⟩), .int .i64 x1.Num, .bool false, .bool false, .bool false, .pointer (some ⟨b4, 1, none⟩), .int .i64 x1.Den, .bool false, .bool false, .bool false, .pointer (some ⟨b4, 1, none⟩), .int .i64 x1.Den, .bool true, .bool true, undef, undef, undef, undef, undef, undef], []⟩) (by kernel_rfl) ?_
          refine wpList_nil ?_
          refine hK24 _ _ ?_
          refine wp_ret ?_
          refine hret _ _ ?_
          refine ends_still (v := Value.int .i64 4) (by kernel_rfl) (by kernel_rfl) ?_
          have HS44 := HS6.drop
          injection h with h
          subst h
          exact ⟨f, rfl, FM.le.refl _, HS44⟩
        · have c22 : ¬ (x1.Den > 1152921504606846976) := c22
          refine wpRwI 19 (x := (decide (x1.Den > 1152921504606846976))) (v := false) (by kernel_rfl) (decide_eq_false c22) ?_
          refine wpRwI 20 (x := (decide (x1.Den > 1152921504606846976))) (v := false) (by kernel_rfl) (decide_eq_false c22) ?_
          refine condF (by kernel_rfl) ?_
          refine wp_skip ?_
          refine hK9 _ _ ?_
          refine wp_seq_k (fun K25 hK26 => ?_)
          refine wp_seq_k (fun K27 hK28 => ?_)
          refine wp_region_lit ?_
          refine seqL1 (by kernel_rfl) ?_
          refine seqK rfl (does_run (run_load rfl Try.underlying2 rfl (by kernel_rfl : _ = Value.pointer (some ⟨b4, 0, none⟩)) (HS6.cell 0)) ?_)
          refine seqL1 (by kernel_rfl) ?_
          refine seqK rfl (does_run (run_load rfl Try.underlying2 rfl (by kernel_rfl : _ = Value.pointer (some ⟨b4, 1, none⟩)) (HS6.cell 1)) ?_)
          have hq_ := bind_some h; clear h; obtain ⟨vt29, hc30, h⟩ := hq_
          refine seqK rfl (does_call (f := 38) (args := #[.int .i64 x1.Num, .int .i64 x1.Den]) (by kernel_rfl) (num_Gcd.calls k x1.Num x1.Den HS6 vt29 hc30) ?_)
          rintro _ W33 ⟨f31, rfl, L32, HS34⟩
          refine ⟨_, rfl, ?_⟩
          refine seqS1 (a' := ⟨#[.agg #[.int .i64 x1.Num, .int .i64 x1.Den], .pointer (some ⟨b4, 0, none⟩), .int .i64 0, .pointer (some ⟨b4, 0, none⟩), .int .i64 x1.Num, .bool false, .bool false, .pointer (some ⟨b4, 0, none⟩), .int .i64 x1.Num, .bool false, .bool false, .bool false, .pointer (some ⟨b4, 1, none⟩), .int .i64 x1.Den, .bool false, .bool false, .bool false, .pointer (some ⟨b4, 1, none⟩), .int .i64 x1.Den, .bool false, .bool false, .pointer (some ⟨b4, 0, none⟩), .int .i64 x1.Num, .pointer (some ⟨b4, 1, none⟩), .int .i64 x1.Den, .int .i64 vt29, .bool (vt29 != 1)], []⟩) (by kernel_rfl) ?_
          refine wpList_nil ?_
          refine hK28 _ _ ?_
          have hq_ := ite_some h; clear h; rcases hq_ with ⟨c36, h⟩ | ⟨c36, h⟩
          · have c36 : vt29 ≠ 1 := c36
            refine wpRwI 26 (x := (vt29 != 1)) (v := true) (by kernel_rfl) (bne_iff_ne.mpr c36) ?_
            refine condT (by kernel_rfl) ?_
            refine wp_seq_k (fun K37 hK38 => ?_)
            refine wp_region_lit ?_
            refine seqS1 (a' := ⟨#[.agg #[.int .i64 x1.Num, .int .i64 x1.Den], .pointer (some ⟨b4, 0, none⟩), .int .i64 3, .pointer (some ⟨b4, 0, none⟩), .int .i64 x1.Num, .bool false, .bool false, .pointer (some ⟨b4, 0, none⟩), .int .i64 x1.Num, .bool false, .bool false, .bool false, .pointer (some ⟨b4, 1, none⟩), .int .i64 x1.Den, .bool false, .bool false, .bool false, .pointer (some ⟨b4, 1, none⟩), .int .i64 x1.Den, .bool false, .bool false, .pointer (some ⟨b4, 0, none⟩), .int .i64 x1.Num, .pointer (some ⟨b4, 1, none⟩), .int .i64 x1.Den, .int .i64 vt29, .bool true], []⟩) (by kernel_rfl) ?_
            refine wpList_nil ?_
            refine hK38 _ _ ?_
            refine wp_ret ?_
            refine hret _ _ ?_
            refine ends_still (v := Value.int .i64 3) (by kernel_rfl) (by kernel_rfl) ?_
            have HS45 := HS34.drop
            injection h with h
            subst h
            exact ⟨f31, rfl, L32, HS45⟩
          · have c36 : ¬ (vt29 ≠ 1) := c36
            refine wpRwI 26 (x := (vt29 != 1)) (v := false) (by kernel_rfl) (bne_eq_false_iff_eq.mpr (Decidable.of_not_not c36)) ?_
            refine condF (by kernel_rfl) ?_
            refine wp_skip ?_
            refine hK26 _ _ ?_
            refine wp_seq_k (fun K39 hK40 => ?_)
            refine wp_region_lit ?_
            refine seqS1 (a' := ⟨#[.agg #[.int .i64 x1.Num, .int .i64 x1.Den], .pointer (some ⟨b4, 0, none⟩), .int .i64 0, .pointer (some ⟨b4, 0, none⟩), .int .i64 x1.Num, .bool false, .bool false, .pointer (some ⟨b4, 0, none⟩), .int .i64 x1.Num, .bool false, .bool false, .bool false, .pointer (some ⟨b4, 1, none⟩), .int .i64 x1.Den, .bool false, .bool false, .bool false, .pointer (some ⟨b4, 1, none⟩), .int .i64 x1.Den, .bool false, .bool false, .pointer (some ⟨b4, 0, none⟩), .int .i64 x1.Num, .pointer (some ⟨b4, 1, none⟩), .int .i64 x1.Den, .int .i64 vt29, .bool false], []⟩) (by kernel_rfl) ?_
            refine wpList_nil ?_
            refine hK40 _ _ ?_
            refine wp_ret ?_
            refine hret _ _ ?_
            refine ends_still (v := Value.int .i64 0) (by kernel_rfl) (by kernel_rfl) ?_
            have HS46 := HS34.drop
            injection h with h
            subst h
            exact ⟨f31, rfl, L32, HS46⟩

set_option maxRecDepth 100000 in
set_option maxHeartbeats 4000000 in
theorem frac_both.calls (k : Nat)  (a1 : S_Frac) (b2 : S_Frac) {t w : World} {f : FM} {H : List Seg} (HS : St t w f (H)) (r1 : Int) (h : frac_both k a1 b2 = some r1) :
    Calls Try.prog 37 #[.agg #[.int .i64 a1.Num, .int .i64 a1.Den], .agg #[.int .i64 b2.Num, .int .i64 b2.Den]] w (fun e w' => ∃ (g : FM), e = .returned (Value.int .i64 r1) ∧ FM.le f g ∧ St t w' g (H)) := by
  unfold frac_both at h
  refine enter Try.func37 rfl (tm := #[.agg #[.int .i64 a1.Num, .int .i64 a1.Den], .agg #[.int .i64 b2.Num, .int .i64 b2.Den], undef, undef, undef, undef, undef, undef, undef, undef, undef]) (by kernel_rfl) ?_
  intro B hret hnor hnp
  refine wp_seq_k (fun K3 hK4 => ?_)
  refine wp_region_lit ?_
  refine seqK rfl (does_box (cs := #[.int .i64 a1.Num, .int .i64 a1.Den]) rfl (by kernel_rfl : _ = Value.agg #[.int .i64 a1.Num, .int .i64 a1.Den]) rfl HS ?_)
  intro b5 W6 HS7
  refine seqK rfl (does_box (cs := #[.int .i64 b2.Num, .int .i64 b2.Den]) rfl (by kernel_rfl : _ = Value.agg #[.int .i64 b2.Num, .int .i64 b2.Den]) rfl HS7 ?_)
  intro b9 W10 HS11
  refine seqS1 (a' := ⟨#[.agg #[.int .i64 a1.Num, .int .i64 a1.Den], .agg #[.int .i64 b2.Num, .int .i64 b2.Den], .pointer (some ⟨b5, 0, none⟩), .pointer (some ⟨b9, 0, none⟩), .int .i64 0, undef, undef, undef, undef, undef, undef], []⟩) (by kernel_rfl) ?_
  refine wpList_nil ?_
  refine hK4 _ _ ?_
  refine wp_seq_k (fun K13 hK14 => ?_)
  refine heldG (S := Sg t f ([(b9, .cells #[.int .i64 b2.Num, .int .i64 b2.Den] 41 (0, 0))] :: [(b5, .cells #[.int .i64 a1.Num, .int .i64 a1.Den] 41 (0, 0))] :: H) []) (n := 7) (by kernel_rfl) rfl HS11 ?_
  intro W15 HS16
  refine takeGQ 0 [] rfl (by kernel_rfl) (by kernel_rfl) (by kernel_rfl) (by kernel_rfl) (by kernel_rfl) (by kernel_rfl) hnp (Sg.g0 (Sx.of [] (FM.le.refl _) HS16)) (fun w_ hw_ => by obtain ⟨g_, hl_, hS_⟩ := hw_.st; exact run_loadN (n := 2) rfl Try.underlying41 rfl (by kernel_rfl) (by kernel_rfl : _ = Value.pointer (some ⟨b5, 0, none⟩)) (cs := [.int .i64 a1.Num, .int .i64 a1.Den]) rfl (hS_.u1.cells 0 2 _ rfl)) ?_
  refine takeGQ 2 [] rfl (by kernel_rfl) (by kernel_rfl) (by kernel_rfl) (by kernel_rfl) (by kernel_rfl) (by kernel_rfl) hnp (Sg.g0 (Sx.of [] (FM.le.refl _) HS16)) (fun w_ hw_ => by obtain ⟨g_, hl_, hS_⟩ := hw_.st; exact run_loadN (n := 2) rfl Try.underlying41 rfl (by kernel_rfl) (by kernel_rfl : _ = Value.pointer (some ⟨b9, 0, none⟩)) (cs := [.int .i64 b2.Num, .int .i64 b2.Den]) rfl (hS_.cells 0 2 _ rfl)) ?_
  have hq_ := bind_some h; clear h; obtain ⟨vt17, hc18, h⟩ := hq_
  refine takeGE 1 (by kernel_rfl) rfl (by kernel_rfl) (does_call (f := 46) (args := #[.agg #[.int .i64 a1.Num, .int .i64 a1.Den]]) (by kernel_rfl) (frac_Check.calls k a1 HS16 vt17 hc18) ?_)
  rintro _ W21 ⟨f19, rfl, L20, HS22⟩
  refine ⟨_, rfl, ?_⟩
  refine ⟨(Sg.g0 (Sx.of [] L20 HS22)), ?_⟩
  have hq_ := bind_some h; clear h; obtain ⟨vt23, hc24, h⟩ := hq_
  refine takeGE 3 (by kernel_rfl) rfl (by kernel_rfl) (does_call (f := 46) (args := #[.agg #[.int .i64 b2.Num, .int .i64 b2.Den]]) (by kernel_rfl) (frac_Check.calls k b2 HS22 vt23 hc24) ?_)
  rintro _ W27 ⟨f25, rfl, L26, HS28⟩
  refine ⟨_, rfl, ?_⟩
  refine ⟨(Sg.g0 (Sx.of [] (L20.trans L26) HS28)), ?_⟩
  refine takeGE 4 (by kernel_rfl) rfl (by kernel_rfl) (does_lit (e := (tInt .i64)) (E := 24) (vs := #[(0, Value.int .i64 vt17), (1, Value.int .i64 vt23)]) (cs := #[.int .i64 vt17, .int .i64 vt23]) (xs := ([vt17, vt23] : List Int)) rfl Try.underlying73 (by kernel_rfl) (by kernel_rfl) ⟨[.int .i64 vt17], _, rfl, rfl, ⟨[.int .i64 vt23], _, rfl, rfl, rfl⟩⟩ rfl HS28 ?_ (by decide))
  intro b29 W30 s31 HS32 _ HO33
  refine ⟨(Sg.g0 (Sx.of [s31] (L20.trans L26) HS32)), ?_⟩
  obtain ⟨f35, L36, HS37, HR38, th39⟩ := HO33.lend HS32
  have hq_ := bind_some h; clear h; obtain ⟨vt40, hc41, h⟩ := hq_
  refine takeGE 5 (by kernel_rfl) rfl (by kernel_rfl) (does_call (f := 26) (args := #[.slice (some ⟨b29, 0, none⟩) ([vt17, vt23] : List Int).length 2]) (by kernel_rfl) (cmp_Or_Errno.calls k (some ⟨b29, 0, none⟩) 2 ([vt17, vt23] : List Int) HS37 HR38 vt40 hc41) ?_)
  rintro _ W44 ⟨f42, rfl, L43, HS45⟩
  refine ⟨_, rfl, ?_⟩
  obtain ⟨f46, L47, HS48⟩ := th39 L43 HS45
  refine ⟨(Sg.g0 (Sx.of [s31] (L20.trans (L26.trans L47)) HS48)), ?_⟩
  refine takeG [6] (n := 1) (fuel := 0) (l' := #[true, true, true, true, true, true, true]) (a' := ⟨#[.agg #[.int .i64 a1.Num, .int .i64 a1.Den], .agg #[.int .i64 b2.Num, .int .i64 b2.Den], .pointer (some ⟨b5, 0, none⟩), .pointer (some ⟨b9, 0, none⟩), .int .i64 vt40, .agg #[.int .i64 a1.Num, .int .i64 a1.Den], .int .i64 vt17, .agg #[.int .i64 b2.Num, .int .i64 b2.Den], .int .i64 vt23, .slice (some ⟨b29, 0, none⟩) ([vt17, vt23] : List Int).length 2, .int .i64 vt40], []⟩) rfl (by kernel_rfl) (by kernel_rfl) (by kernel_rfl) hnp (Sg.g0 (Sx.of [s31] (L20.trans (L26.trans L47)) HS48)) ?_
  refine doneG (by kernel_rfl) ?_ _
  refine hK14 _ _ ?_
  refine wp_ret ?_
  refine hret _ _ ?_
  refine ends_still (v := Value.int .i64 vt40) (by kernel_rfl) (by kernel_rfl) ?_
  have HS49 := HS48.drop
  have HS50 := HS49.drop
  have HS51 := HS50.drop
  injection h with h
  subst h
  exact ⟨f46, rfl, (L20.trans (L26.trans L47)), HS51⟩

set_option maxRecDepth 100000 in
set_option maxHeartbeats 4000000 in
theorem bits_Mul64.calls (k : Nat)  (x1 : Int) (y2 : Int) {t w : World} {f : FM} {H : List Seg} (HS : St t w f (H)) (r1 : Int) (r2 : Int) (h : bits_Mul64 k x1 y2 = some (r1, r2)) :
    Calls Try.prog 53 #[.int .u64 x1, .int .u64 y2] w (fun e w' => ∃ (g : FM), e = .returned (Value.tuple #[.int .u64 r1, .int .u64 r2]) ∧ FM.le f g ∧ St t w' g (H)) := by
  unfold bits_Mul64 at h
  refine enter Try.func53 rfl (tm := #[.int .u64 x1, .int .u64 y2, undef, undef, undef, undef, undef, undef, undef, undef, undef, undef, undef, undef, undef, undef, undef, undef, undef, undef, undef, undef, undef, undef, undef, undef, undef, undef, undef, undef, undef, undef, undef, undef, undef, undef, undef, undef, undef, undef, undef, undef, undef, undef, undef, undef, undef, undef, undef, undef, undef]) (by kernel_rfl) ?_
  intro B hret hnor hnp
  refine wp_seq_k (fun K3 hK4 => ?_)
  refine wp_region_lit ?_
  refine seqS2 (a' := ⟨#[.int .u64 x1, .int .u64 y2, undef, undef, .int .u64 0, .int .u64 0, undef, undef, undef, undef, undef, undef, undef, undef, undef, undef, undef, undef, undef, undef, undef, undef, undef, undef, undef, undef, undef, undef, undef, undef, undef, undef, undef, undef, undef, undef, undef, undef, undef, undef, undef, undef, undef, undef, undef, undef, undef, undef, undef, undef, undef], []⟩) (by kernel_rfl) ?_
  refine wpList_nil ?_
  refine hK4 _ _ ?_
  refine wp_seq_k (fun K5 hK6 => ?_)
  refine wp_region_lit ?_
  refine seqS3 (a' := ⟨#[.int .u64 x1, .int .u64 y2, undef, undef, .int .u64 0, .int .u64 0, .int .u64 (Go.bits .and .u64 x1 4294967295), undef, undef, undef, undef, undef, undef, undef, .int .u64 x1, .int .u64 (Go.bits .and .u64 x1 4294967295), undef, undef, undef, undef, undef, undef, undef, undef, undef, undef, undef, undef, undef, undef, undef, undef, undef, undef, undef, undef, undef, undef, undef, undef, undef, undef, undef, undef, undef, undef, undef, undef, undef, undef, undef], []⟩) (by kernel_rfl) ?_
  refine wpList_nil ?_
  refine hK6 _ _ ?_
  refine wp_seq_k (fun K7 hK8 => ?_)
  refine wp_region_lit ?_
  refine seqS3 (a' := ⟨#[.int .u64 x1, .int .u64 y2, undef, undef, .int .u64 0, .int .u64 0, .int .u64 (Go.bits .and .u64 x1 4294967295), .int .u64 (shr x1 32), undef, undef, undef, undef, undef, undef, .int .u64 x1, .int .u64 (Go.bits .and .u64 x1 4294967295), .int .u64 x1, .int .u64 (shr x1 32), undef, undef, undef, undef, undef, undef, undef, undef, undef, undef, undef, undef, undef, undef, undef, undef, undef, undef, undef, undef, undef, undef, undef, undef, undef, undef, undef, undef, undef, undef, undef, undef, undef], []⟩) (by kernel_rfl) ?_
  refine wpList_nil ?_
  refine hK8 _ _ ?_
  refine wp_seq_k (fun K9 hK10 => ?_)
  refine wp_region_lit ?_
  refine seqS3 (a' := ⟨#[.int .u64 x1, .int .u64 y2, undef, undef, .int .u64 0, .int .u64 0, .int .u64 (Go.bits .and .u64 x1 4294967295), .int .u64 (shr x1 32), .int .u64 (Go.bits .and .u64 y2 4294967295), undef, undef, undef, undef, undef, .int .u64 x1, .int .u64 (Go.bits .and .u64 x1 4294967295), .int .u64 x1, .int .u64 (shr x1 32), .int .u64 y2, .int .u64 (Go.bits .and .u64 y2 4294967295), undef, undef, undef, undef, undef, undef, undef, undef, undef, undef, undef, undef, undef, undef, undef, undef, undef, undef, undef, undef, undef, undef, undef, undef, undef, undef, undef, undef, undef, undef, undef], []⟩) (by kernel_rfl) ?_
  refine wpList_nil ?_
  refine hK10 _ _ ?_
  refine wp_seq_k (fun K11 hK12 => ?_)
  refine wp_region_lit ?_
  refine seqS3 (a' := ⟨#[.int .u64 x1, .int .u64 y2, undef, undef, .int .u64 0, .int .u64 0, .int .u64 (Go.bits .and .u64 x1 4294967295), .int .u64 (shr x1 32), .int .u64 (Go.bits .and .u64 y2 4294967295), .int .u64 (shr y2 32), undef, undef, undef, undef, .int .u64 x1, .int .u64 (Go.bits .and .u64 x1 4294967295), .int .u64 x1, .int .u64 (shr x1 32), .int .u64 y2, .int .u64 (Go.bits .and .u64 y2 4294967295), .int .u64 y2, .int .u64 (shr y2 32), undef, undef, undef, undef, undef, undef, undef, undef, undef, undef, undef, undef, undef, undef, undef, undef, undef, undef, undef, undef, undef, undef, undef, undef, undef, undef, undef, undef, undef], []⟩) (by kernel_rfl) ?_
  refine wpList_nil ?_
  refine hK12 _ _ ?_
  refine wp_seq_k (fun K13 hK14 => ?_)
  refine wp_region_lit ?_
  refine seqS4 (a' := ⟨#[.int .u64 x1, .int .u64 y2, undef, undef, .int .u64 0, .int .u64 0, .int .u64 (Go.bits .and .u64 x1 4294967295), .int .u64 (shr x1 32), .int .u64 (Go.bits .and .u64 y2 4294967295), .int .u64 (shr y2 32), .int .u64 (u64 ((Go.bits .and .u64 x1 4294967295) * (Go.bits .and .u64 y2 4294967295))), undef, undef, undef, .int .u64 x1, .int .u64 (Go.bits .and .u64 x1 4294967295), .int .u64 x1, .int .u64 (shr x1 32), .int .u64 y2, .int .u64 (Go.bits .and .u64 y2 4294967295), .int .u64 y2, .int .u64 (shr y2 32), .int .u64 (Go.bits .and .u64 x1 4294967295), .int .u64 (Go.bits .and .u64 y2 4294967295), .int .u64 (u64 ((Go.bits .and .u64 x1 4294967295) * (Go.bits .and .u64 y2 4294967295))), undef, undef, undef, undef, undef, undef, undef, undef, undef, undef, undef, undef, undef, undef, undef, undef, undef, undef, undef, undef, undef, undef, undef, undef, undef, undef], []⟩) (by kernel_rfl) ?_
  refine wpList_nil ?_
  refine hK14 _ _ ?_
  refine wp_seq_k (fun K15 hK16 => ?_)
  refine wp_region_lit ?_
  refine seqS7 (a' := ⟨#[.int .u64 x1, .int .u64 y2, undef, undef, .int .u64 0, .int .u64 0, .int .u64 (Go.bits .and .u64 x1 4294967295), .int .u64 (shr x1 32), .int .u64 (Go.bits .and .u64 y2 4294967295), .int .u64 (shr y2 32), .int .u64 (u64 ((Go.bits .and .u64 x1 4294967295) * (Go.bits .and .u64 y2 4294967295))), .int .u64 (u64 ((u64 ((shr x1 32) * (Go.bits .and .u64 y2 4294967295))) + (shr (u64 ((Go.bits .and .u64 x1 4294967295) * (Go.bits .and .u64 y2 4294967295))) 32))), undef, undef, .int .u64 x1, .int .u64 (Go.bits .and .u64 x1 4294967295), .int .u64 x1, .int .u64 (shr x1 32), .int .u64 y2, .int .u64 (Go.bits .and .u64 y2 4294967295), .int .u64 y2, .int .u64 (shr y2 32), .int .u64 (Go.bits .and .u64 x1 4294967295), .int .u64 (Go.bits .and .u64 y2 4294967295), .int .u64 (u64 ((Go.bits .and .u64 x1 4294967295) * (Go.bits .and .u64 y2 4294967295))), .int .u64 (shr x1 32), .int .u64 (Go.bits .and .u64 y2 4294967295), .int .u64 (u64 ((shr x1 32) * (Go.bits .and .u64 y2 4294967295))), .int .u64 (u64 ((Go.bits .and .u64 x1 4294967295) * (Go.bits .and .u64 y2 4294967295))), .int .u64 (shr (u64 ((Go.bits .and .u64 x1 4294967295) * (Go.bits .and .u64 y2 4294967295))) 32), .int .u64 (u64 ((u64 ((shr x1 32) * (Go.bits .and .u64 y2 4294967295))) + (shr (u64 ((Go.bits .and .u64 x1 4294967295) * (Go.bits .and .u64 y2 4294967295))) 32))), undef, undef, undef, undef, undef, undef, undef, undef, undef, undef, undef, undef, undef, undef, undef, undef, undef, undef, undef, undef], []⟩) (by kernel_rfl) ?_
  refine wpList_nil ?_
  refine hK16 _ _ ?_
  refine wp_seq_k (fun K17 hK18 => ?_)
  refine wp_region_lit ?_
  refine seqS3 (a' := ⟨#[.int .u64 x1, .int .u64 y2, undef, undef, .int .u64 0, .int .u64 0, .int .u64 (Go.bits .and .u64 x1 4294967295), .int .u64 (shr x1 32), .int .u64 (Go.bits .and .u64 y2 4294967295), .int .u64 (shr y2 32), .int .u64 (u64 ((Go.bits .and .u64 x1 4294967295) * (Go.bits .and .u64 y2 4294967295))), .int .u64 (u64 ((u64 ((shr x1 32) * (Go.bits .and .u64 y2 4294967295))) + (shr (u64 ((Go.bits .and .u64 x1 4294967295) * (Go.bits .and .u64 y2 4294967295))) 32))), .int .u64 (Go.bits .and .u64 (u64 ((u64 ((shr x1 32) * (Go.bits .and .u64 y2 4294967295))) + (shr (u64 ((Go.bits .and .u64 x1 4294967295) * (Go.bits .and .u64 y2 4294967295))) 32))) 4294967295), undef, .int .u64 x1, .int .u64 (Go.bits .and .u64 x1 4294967295), .int .u64 x1, .int .u64 (shr x1 32), .int .u64 y2, .int .u64 (Go.bits .and .u64 y2 4294967295), .int .u64 y2, .int .u64 (shr y2 32), .int .u64 (Go.bits .and .u64 x1 4294967295), .int .u64 (Go.bits .and .u64 y2 4294967295), .int .u64 (u64 ((Go.bits .and .u64 x1 4294967295) * (Go.bits .and .u64 y2 4294967295))), .int .u64 (shr x1 32), .int .u64 (Go.bits .and .u64 y2 4294967295), .int .u64 (u64 ((shr x1 32) * (Go.bits .and .u64 y2 4294967295))), .int .u64 (u64 ((Go.bits .and .u64 x1 4294967295) * (Go.bits .and .u64 y2 4294967295))), .int .u64 (shr (u64 ((Go.bits .and .u64 x1 4294967295) * (Go.bits .and .u64 y2 4294967295))) 32), .int .u64 (u64 ((u64 ((shr x1 32) * (Go.bits .and .u64 y2 4294967295))) + (shr (u64 ((Go.bits .and .u64 x1 4294967295) * (Go.bits .and .u64 y2 4294967295))) 32))), .int .u64 (u64 ((u64 ((shr x1 32) * (Go.bits .and .u64 y2 4294967295))) + (shr (u64 ((Go.bits .and .u64 x1 4294967295) * (Go.bits .and .u64 y2 4294967295))) 32))), .int .u64 (Go.bits .and .u64 (u64 ((u64 ((shr x1 32) * (Go.bits .and .u64 y2 4294967295))) + (shr (u64 ((Go.bits .and .u64 x1 4294967295) * (Go.bits .and .u64 y2 4294967295))) 32))) 4294967295), undef, undef, undef, undef, undef, undef, undef, undef, undef, undef, undef, undef, undef, undef, undef, undef, undef, undef], []⟩) (by kernel_rfl) ?_
  refine wpList_nil ?_
  refine hK18 _ _ ?_
  refine wp_seq_k (fun K19 hK20 => ?_)
  refine wp_region_lit ?_
  refine seqS3 (a' := ⟨#[.int .u64 x1, .int .u64 y2, undef, undef, .int .u64 0, .int .u64 0, .int .u64 (Go.bits .and .u64 x1 4294967295), .int .u64 (shr x1 32), .int .u64 (Go.bits .and .u64 y2 4294967295), .int .u64 (shr y2 32), .int .u64 (u64 ((Go.bits .and .u64 x1 4294967295) * (Go.bits .and .u64 y2 4294967295))), .int .u64 (u64 ((u64 ((shr x1 32) * (Go.bits .and .u64 y2 4294967295))) + (shr (u64 ((Go.bits .and .u64 x1 4294967295) * (Go.bits .and .u64 y2 4294967295))) 32))), .int .u64 (Go.bits .and .u64 (u64 ((u64 ((shr x1 32) * (Go.bits .and .u64 y2 4294967295))) + (shr (u64 ((Go.bits .and .u64 x1 4294967295) * (Go.bits .and .u64 y2 4294967295))) 32))) 4294967295), .int .u64 (shr (u64 ((u64 ((shr x1 32) * (Go.bits .and .u64 y2 4294967295))) + (shr (u64 ((Go.bits .and .u64 x1 4294967295) * (Go.bits .and .u64 y2 4294967295))) 32))) 32), .int .u64 x1, .int .u64 (Go.bits .and .u64 x1 4294967295), .int .u64 x1, .int .u64 (shr x1 32), .int .u64 y2, .int .u64 (Go.bits .and .u64 y2 4294967295), .int .u64 y2, .int .u64 (shr y2 32), .int .u64 (Go.bits .and .u64 x1 4294967295), .int .u64 (Go.bits .and .u64 y2 4294967295), .int .u64 (u64 ((Go.bits .and .u64 x1 4294967295) * (Go.bits .and .u64 y2 4294967295))), .int .u64 (shr x1 32), .int .u64 (Go.bits .and .u64 y2 4294967295), .int .u64 (u64 ((shr x1 32) * (Go.bits .and .u64 y2 4294967295))), .int .u64 (u64 ((Go.bits .and .u64 x1 4294967295) * (Go.bits .and .u64 y2 4294967295))), .int .u64 (shr (u64 ((Go.bits .and .u64 x1 4294967295) * (Go.bits .and .u64 y2 4294967295))) 32), .int .u64 (u64 ((u64 ((shr x1 32) * (Go.bits .and .u64 y2 4294967295))) + (shr (u64 ((Go.bits .and .u64 x1 4294967295) * (Go.bits .and .u64 y2 4294967295))) 32))), .int .u64 (u64 ((u64 ((shr x1 32) * (Go.bits .and .u64 y2 4294967295))) + (shr (u64 ((Go.bits .and .u64 x1 4294967295) * (Go.bits .and .u64 y2 4294967295))) 32))), .int .u64 (Go.bits .and .u64 (u64 ((u64 ((shr x1 32) * (Go.bits .and .u64 y2 4294967295))) + (shr (u64 ((Go.bits .and .u64 x1 4294967295) * (Go.bits .and .u64 y2 4294967295))) 32))) 4294967295), .int .u64 (u64 ((u64 ((shr x1 32) * (Go.bits .and .u64 y2 4294967295))) + (shr (u64 ((Go.bits .and .u64 x1 4294967295) * (Go.bits .and .u64 y2 4294967295))) 32))), .int .u64 (shr (u64 ((u64 ((shr x1 32) * (Go.bits .and .u64 y2 4294967295))) + (shr (u64 ((Go.bits .and .u64 x1 4294967295) * (Go.bits .and .u64 y2 4294967295))) 32))) 32), undef, undef, undef, undef, undef, undef, undef, undef, undef, undef, undef, undef, undef, undef, undef, undef], []⟩) (by kernel_rfl) ?_
  refine wpList_nil ?_
  refine hK20 _ _ ?_
  refine wp_seq_k (fun K21 hK22 => ?_)
  refine wp_region_lit ?_
  refine seqS6 (a' := ⟨#[.int .u64 x1, .int .u64 y2, undef, undef, .int .u64 0, .int .u64 0, .int .u64 (Go.bits .and .u64 x1 4294967295), .int .u64 (shr x1 32), .int .u64 (Go.bits .and .u64 y2 4294967295), .int .u64 (shr y2 32), .int .u64 (u64 ((Go.bits .and .u64 x1 4294967295) * (Go.bits .and .u64 y2 4294967295))), .int .u64 (u64 ((u64 ((shr x1 32) * (Go.bits .and .u64 y2 4294967295))) + (shr (u64 ((Go.bits .and .u64 x1 4294967295) * (Go.bits .and .u64 y2 4294967295))) 32))), .int .u64 (u64 ((Go.bits .and .u64 (u64 ((u64 ((shr x1 32) * (Go.bits .and .u64 y2 4294967295))) + (shr (u64 ((Go.bits .and .u64 x1 4294967295) * (Go.bits .and .u64 y2 4294967295))) 32))) 4294967295) + (u64 ((Go.bits .and .u64 x1 4294967295) * (shr y2 32))))), .int .u64 (shr (u64 ((u64 ((shr x1 32) * (Go.bits .and .u64 y2 4294967295))) + (shr (u64 ((Go.bits .and .u64 x1 4294967295) * (Go.bits .and .u64 y2 4294967295))) 32))) 32), .int .u64 x1, .int .u64 (Go.bits .and .u64 x1 4294967295), .int .u64 x1, .int .u64 (shr x1 32), .int .u64 y2, .int .u64 (Go.bits .and .u64 y2 4294967295), .int .u64 y2, .int .u64 (shr y2 32), .int .u64 (Go.bits .and .u64 x1 4294967295), .int .u64 (Go.bits .and .u64 y2 4294967295), .int .u64 (u64 ((Go.bits .and .u64 x1 4294967295) * (Go.bits .and .u64 y2 4294967295))), .int .u64 (shr x1 32), .int .u64 (Go.bits .and .u64 y2 4294967295), .int .u64 (u64 ((shr x1 32) * (Go.bits .and .u64 y2 4294967295))), .int .u64 (u64 ((Go.bits .and .u64 x1 4294967295) * (Go.bits .and .u64 y2 4294967295))), .int .u64 (shr (u64 ((Go.bits .and .u64 x1 4294967295) * (Go.bits .and .u64 y2 4294967295))) 32), .int .u64 (u64 ((u64 ((shr x1 32) * (Go.bits .and .u64 y2 4294967295))) + (shr (u64 ((Go.bits .and .u64 x1 4294967295) * (Go.bits .and .u64 y2 4294967295))) 32))), .int .u64 (u64 ((u64 ((shr x1 32) * (Go.bits .and .u64 y2 4294967295))) + (shr (u64 ((Go.bits .and .u64 x1 4294967295) * (Go.bits .and .u64 y2 4294967295))) 32))), .int .u64 (Go.bits .and .u64 (u64 ((u64 ((shr x1 32) * (Go.bits .and .u64 y2 4294967295))) + (shr (u64 ((Go.bits .and .u64 x1 4294967295) * (Go.bits .and .u64 y2 4294967295))) 32))) 4294967295), .int .u64 (u64 ((u64 ((shr x1 32) * (Go.bits .and .u64 y2 4294967295))) + (shr (u64 ((Go.bits .and .u64 x1 4294967295) * (Go.bits .and .u64 y2 4294967295))) 32))), .int .u64 (shr (u64 ((u64 ((shr x1 32) * (Go.bits .and .u64 y2 4294967295))) + (shr (u64 ((Go.bits .and .u64 x1 4294967295) * (Go.bits .and .u64 y2 4294967295))) 32))) 32), .int .u64 (Go.bits .and .u64 (u64 ((u64 ((shr x1 32) * (Go.bits .and .u64 y2 4294967295))) + (shr (u64 ((Go.bits .and .u64 x1 4294967295) * (Go.bits .and .u64 y2 4294967295))) 32))) 4294967295), .int .u64 (Go.bits .and .u64 x1 4294967295), .int .u64 (shr y2 32), .int .u64 (u64 ((Go.bits .and .u64 x1 4294967295) * (shr y2 32))), .int .u64 (u64 ((Go.bits .and .u64 (u64 ((u64 ((shr x1 32) * (Go.bits .and .u64 y2 4294967295))) + (shr (u64 ((Go.bits .and .u64 x1 4294967295) * (Go.bits .and .u64 y2 4294967295))) 32))) 4294967295) + (u64 ((Go.bits .and .u64 x1 4294967295) * (shr y2 32))))), undef, undef, undef, undef, undef, undef, undef, undef, undef, undef, undef], []⟩) (by kernel_rfl) ?_
  refine wpList_nil ?_
  refine hK22 _ _ ?_
  refine wp_seq_k (fun K23 hK24 => ?_)
  refine wp_region_lit ?_
  refine seqS9 (a' := ⟨#[.int .u64 x1, .int .u64 y2, undef, undef, .int .u64 (u64 ((u64 ((u64 ((shr x1 32) * (shr y2 32))) + (shr (u64 ((u64 ((shr x1 32) * (Go.bits .and .u64 y2 4294967295))) + (shr (u64 ((Go.bits .and .u64 x1 4294967295) * (Go.bits .and .u64 y2 4294967295))) 32))) 32))) + (shr (u64 ((Go.bits .and .u64 (u64 ((u64 ((shr x1 32) * (Go.bits .and .u64 y2 4294967295))) + (shr (u64 ((Go.bits .and .u64 x1 4294967295) * (Go.bits .and .u64 y2 4294967295))) 32))) 4294967295) + (u64 ((Go.bits .and .u64 x1 4294967295) * (shr y2 32))))) 32))), .int .u64 0, .int .u64 (Go.bits .and .u64 x1 4294967295), .int .u64 (shr x1 32), .int .u64 (Go.bits .and .u64 y2 4294967295), .int .u64 (shr y2 32), .int .u64 (u64 ((Go.bits .and .u64 x1 4294967295) * (Go.bits .and .u64 y2 4294967295))), .int .u64 (u64 ((u64 ((shr x1 32) * (Go.bits .and .u64 y2 4294967295))) + (shr (u64 ((Go.bits .and .u64 x1 4294967295) * (Go.bits .and .u64 y2 4294967295))) 32))), .int .u64 (u64 ((Go.bits .and .u64 (u64 ((u64 ((shr x1 32) * (Go.bits .and .u64 y2 4294967295))) + (shr (u64 ((Go.bits .and .u64 x1 4294967295) * (Go.bits .and .u64 y2 4294967295))) 32))) 4294967295) + (u64 ((Go.bits .and .u64 x1 4294967295) * (shr y2 32))))), .int .u64 (shr (u64 ((u64 ((shr x1 32) * (Go.bits .and .u64 y2 4294967295))) + (shr (u64 ((Go.bits .and .u64 x1 4294967295) * (Go.bits .and .u64 y2 4294967295))) 32))) 32), .int .u64 x1, .int .u64 (Go.bits .and .u64 x1 4294967295), .int .u64 x1, .int .u64 (shr x1 32), .int .u64 y2, .int .u64 (Go.bits .and .u64 y2 4294967295), .int .u64 y2, .int .u64 (shr y2 32), .int .u64 (Go.bits .and .u64 x1 4294967295), .int .u64 (Go.bits .and .u64 y2 4294967295), .int .u64 (u64 ((Go.bits .and .u64 x1 4294967295) * (Go.bits .and .u64 y2 4294967295))), .int .u64 (shr x1 32), .int .u64 (Go.bits .and .u64 y2 4294967295), .int .u64 (u64 ((shr x1 32) * (Go.bits .and .u64 y2 4294967295))), .int .u64 (u64 ((Go.bits .and .u64 x1 4294967295) * (Go.bits .and .u64 y2 4294967295))), .int .u64 (shr (u64 ((Go.bits .and .u64 x1 4294967295) * (Go.bits .and .u64 y2 4294967295))) 32), .int .u64 (u64 ((u64 ((shr x1 32) * (Go.bits .and .u64 y2 4294967295))) + (shr (u64 ((Go.bits .and .u64 x1 4294967295) * (Go.bits .and .u64 y2 4294967295))) 32))), .int .u64 (u64 ((u64 ((shr x1 32) * (Go.bits .and .u64 y2 4294967295))) + (shr (u64 ((Go.bits .and .u64 x1 4294967295) * (Go.bits .and .u64 y2 4294967295))) 32))), .int .u64 (Go.bits .and .u64 (u64 ((u64 ((shr x1 32) * (Go.bits .and .u64 y2 4294967295))) + (shr (u64 ((Go.bits .and .u64 x1 4294967295) * (Go.bits .and .u64 y2 4294967295))) 32))) 4294967295), .int .u64 (u64 ((u64 ((shr x1 32) * (Go.bits .and .u64 y2 4294967295))) + (shr (u64 ((Go.bits .and .u64 x1 4294967295) * (Go.bits .and .u64 y2 4294967295))) 32))), .int .u64 (shr (u64 ((u64 ((shr x1 32) * (Go.bits .and .u64 y2 4294967295))) + (shr (u64 ((Go.bits .and .u64 x1 4294967295) * (Go.bits .and .u64 y2 4294967295))) 32))) 32), .int .u64 (Go.bits .and .u64 (u64 ((u64 ((shr x1 32) * (Go.bits .and .u64 y2 4294967295))) + (shr (u64 ((Go.bits .and .u64 x1 4294967295) * (Go.bits .and .u64 y2 4294967295))) 32))) 4294967295), .int .u64 (Go.bits .and .u64 x1 4294967295), .int .u64 (shr y2 32), .int .u64 (u64 ((Go.bits .and .u64 x1 4294967295) * (shr y2 32))), .int .u64 (u64 ((Go.bits .and .u64 (u64 ((u64 ((shr x1 32) * (Go.bits .and .u64 y2 4294967295))) + (shr (u64 ((Go.bits .and .u64 x1 4294967295) * (Go.bits .and .u64 y2 4294967295))) 32))) 4294967295) + (u64 ((Go.bits .and .u64 x1 4294967295) * (shr y2 32))))), .int .u64 (shr x1 32), .int .u64 (shr y2 32), .int .u64 (u64 ((shr x1 32) * (shr y2 32))), .int .u64 (shr (u64 ((u64 ((shr x1 32) * (Go.bits .and .u64 y2 4294967295))) + (shr (u64 ((Go.bits .and .u64 x1 4294967295) * (Go.bits .and .u64 y2 4294967295))) 32))) 32), .int .u64 (u64 ((u64 ((shr x1 32) * (shr y2 32))) + (shr (u64 ((u64 ((shr x1 32) * (Go.bits .and .u64 y2 4294967295))) + (shr (u64 ((Go.bits .and .u64 x1 4294967295) * (Go.bits .and .u64 y2 4294967295))) 32))) 32))), .int .u64 (u64 ((Go.bits .and .u64 (u64 ((u64 ((shr x1 32) * (Go.bits .and .u64 y2 4294967295))) + (shr (u64 ((Go.bits .and .u64 x1 4294967295) * (Go.bits .and .u64 y2 4294967295))) 32))) 4294967295) + (u64 ((Go.bits .and .u64 x1 4294967295) * (shr y2 32))))), .int .u64 (shr (u64 ((Go.bits .and .u64 (u64 ((u64 ((shr x1 32) * (Go.bits .and .u64 y2 4294967295))) + (shr (u64 ((Go.bits .and .u64 x1 4294967295) * (Go.bits .and .u64 y2 4294967295))) 32))) 4294967295) + (u64 ((Go.bits .and .u64 x1 4294967295) * (shr y2 32))))) 32), .int .u64 (u64 ((u64 ((u64 ((shr x1 32) * (shr y2 32))) + (shr (u64 ((u64 ((shr x1 32) * (Go.bits .and .u64 y2 4294967295))) + (shr (u64 ((Go.bits .and .u64 x1 4294967295) * (Go.bits .and .u64 y2 4294967295))) 32))) 32))) + (shr (u64 ((Go.bits .and .u64 (u64 ((u64 ((shr x1 32) * (Go.bits .and .u64 y2 4294967295))) + (shr (u64 ((Go.bits .and .u64 x1 4294967295) * (Go.bits .and .u64 y2 4294967295))) 32))) 4294967295) + (u64 ((Go.bits .and .u64 x1 4294967295) * (shr y2 32))))) 32))), undef, undef, undef], []⟩) (by kernel_rfl) ?_
  refine wpList_nil ?_
  refine hK24 _ _ ?_
  refine wp_seq_k (fun K25 hK26 => ?_)
  refine wp_region_lit ?_
  refine seqS4 (a' := ⟨#[.int .u64 x1, .int .u64 y2, undef, undef, .int .u64 (u64 ((u64 ((u64 ((shr x1 32) * (shr y2 32))) + (shr (u64 ((u64 ((shr x1 32) * (Go.bits .and .u64 y2 4294967295))) + (shr (u64 ((Go.bits .and .u64 x1 4294967295) * (Go.bits .and .u64 y2 4294967295))) 32))) 32))) + (shr (u64 ((Go.bits .and .u64 (u64 ((u64 ((shr x1 32) * (Go.bits .and .u64 y2 4294967295))) + (shr (u64 ((Go.bits .and .u64 x1 4294967295) * (Go.bits .and .u64 y2 4294967295))) 32))) 4294967295) + (u64 ((Go.bits .and .u64 x1 4294967295) * (shr y2 32))))) 32))), .int .u64 (u64 (x1 * y2)), .int .u64 (Go.bits .and .u64 x1 4294967295), .int .u64 (shr x1 32), .int .u64 (Go.bits .and .u64 y2 4294967295), .int .u64 (shr y2 32), .int .u64 (u64 ((Go.bits .and .u64 x1 4294967295) * (Go.bits .and .u64 y2 4294967295))), .int .u64 (u64 ((u64 ((shr x1 32) * (Go.bits .and .u64 y2 4294967295))) + (shr (u64 ((Go.bits .and .u64 x1 4294967295) * (Go.bits .and .u64 y2 4294967295))) 32))), .int .u64 (u64 ((Go.bits .and .u64 (u64 ((u64 ((shr x1 32) * (Go.bits .and .u64 y2 4294967295))) + (shr (u64 ((Go.bits .and .u64 x1 4294967295) * (Go.bits .and .u64 y2 4294967295))) 32))) 4294967295) + (u64 ((Go.bits .and .u64 x1 4294967295) * (shr y2 32))))), .int .u64 (shr (u64 ((u64 ((shr x1 32) * (Go.bits .and .u64 y2 4294967295))) + (shr (u64 ((Go.bits .and .u64 x1 4294967295) * (Go.bits .and .u64 y2 4294967295))) 32))) 32), .int .u64 x1, .int .u64 (Go.bits .and .u64 x1 4294967295), .int .u64 x1, .int .u64 (shr x1 32), .int .u64 y2, .int .u64 (Go.bits .and .u64 y2 4294967295), .int .u64 y2, .int .u64 (shr y2 32), .int .u64 (Go.bits .and .u64 x1 4294967295), .int .u64 (Go.bits .and .u64 y2 4294967295), .int .u64 (u64 ((Go.bits .and .u64 x1 4294967295) * (Go.bits .and .u64 y2 4294967295))), .int .u64 (shr x1 32), .int .u64 (Go.bits .and .u64 y2 4294967295), .int .u64 (u64 ((shr x1 32) * (Go.bits .and .u64 y2 4294967295))), .int .u64 (u64 ((Go.bits .and .u64 x1 4294967295) * (Go.bits .and .u64 y2 4294967295))), .int .u64 (shr (u64 ((Go.bits .and .u64 x1 4294967295) * (Go.bits .and .u64 y2 4294967295))) 32), .int .u64 (u64 ((u64 ((shr x1 32) * (Go.bits .and .u64 y2 4294967295))) + (shr (u64 ((Go.bits .and .u64 x1 4294967295) * (Go.bits .and .u64 y2 4294967295))) 32))), .int .u64 (u64 ((u64 ((shr x1 32) * (Go.bits .and .u64 y2 4294967295))) + (shr (u64 ((Go.bits .and .u64 x1 4294967295) * (Go.bits .and .u64 y2 4294967295))) 32))), .int .u64 (Go.bits .and .u64 (u64 ((u64 ((shr x1 32) * (Go.bits .and .u64 y2 4294967295))) + (shr (u64 ((Go.bits .and .u64 x1 4294967295) * (Go.bits .and .u64 y2 4294967295))) 32))) 4294967295), .int .u64 (u64 ((u64 ((shr x1 32) * (Go.bits .and .u64 y2 4294967295))) + (shr (u64 ((Go.bits .and .u64 x1 4294967295) * (Go.bits .and .u64 y2 4294967295))) 32))), .int .u64 (shr (u64 ((u64 ((shr x1 32) * (Go.bits .and .u64 y2 4294967295))) + (shr (u64 ((Go.bits .and .u64 x1 4294967295) * (Go.bits .and .u64 y2 4294967295))) 32))) 32), .int .u64 (Go.bits .and .u64 (u64 ((u64 ((shr x1 32) * (Go.bits .and .u64 y2 4294967295))) + (shr (u64 ((Go.bits .and .u64 x1 4294967295) * (Go.bits .and .u64 y2 4294967295))) 32))) 4294967295), .int .u64 (Go.bits .and .u64 x1 4294967295), .int .u64 (shr y2 32), .int .u64 (u64 ((Go.bits .and .u64 x1 4294967295) * (shr y2 32))), .int .u64 (u64 ((Go.bits .and .u64 (u64 ((u64 ((shr x1 32) * (Go.bits .and .u64 y2 4294967295))) + (shr (u64 ((Go.bits .and .u64 x1 4294967295) * (Go.bits .and .u64 y2 4294967295))) 32))) 4294967295) + (u64 ((Go.bits .and .u64 x1 4294967295) * (shr y2 32))))), .int .u64 (shr x1 32), .int .u64 (shr y2 32), .int .u64 (u64 ((shr x1 32) * (shr y2 32))), .int .u64 (shr (u64 ((u64 ((shr x1 32) * (Go.bits .and .u64 y2 4294967295))) + (shr (u64 ((Go.bits .and .u64 x1 4294967295) * (Go.bits .and .u64 y2 4294967295))) 32))) 32), .int .u64 (u64 ((u64 ((shr x1 32) * (shr y2 32))) + (shr (u64 ((u64 ((shr x1 32) * (Go.bits .and .u64 y2 4294967295))) + (shr (u64 ((Go.bits .and .u64 x1 4294967295) * (Go.bits .and .u64 y2 4294967295))) 32))) 32))), .int .u64 (u64 ((Go.bits .and .u64 (u64 ((u64 ((shr x1 32) * (Go.bits .and .u64 y2 4294967295))) + (shr (u64 ((Go.bits .and .u64 x1 4294967295) * (Go.bits .and .u64 y2 4294967295))) 32))) 4294967295) + (u64 ((Go.bits .and .u64 x1 4294967295) * (shr y2 32))))), .int .u64 (shr (u64 ((Go.bits .and .u64 (u64 ((u64 ((shr x1 32) * (Go.bits .and .u64 y2 4294967295))) + (shr (u64 ((Go.bits .and .u64 x1 4294967295) * (Go.bits .and .u64 y2 4294967295))) 32))) 4294967295) + (u64 ((Go.bits .and .u64 x1 4294967295) * (shr y2 32))))) 32), .int .u64 (u64 ((u64 ((u64 ((shr x1 32) * (shr y2 32))) + (shr (u64 ((u64 ((shr x1 32) * (Go.bits .and .u64 y2 4294967295))) + (shr (u64 ((Go.bits .and .u64 x1 4294967295) * (Go.bits .and .u64 y2 4294967295))) 32))) 32))) + (shr (u64 ((Go.bits .and .u64 (u64 ((u64 ((shr x1 32) * (Go.bits .and .u64 y2 4294967295))) + (shr (u64 ((Go.bits .and .u64 x1 4294967295) * (Go.bits .and .u64 y2 4294967295))) 32))) 4294967295) + (u64 ((Go.bits .and .u64 x1 4294967295) * (shr y2 32))))) 32))), .int .u64 x1, .int .u64 y2, .int .u64 (u64 (x1 * y2))], []⟩) (by kernel_rfl) ?_
  refine wpList_nil ?_
  refine hK26 _ _ ?_
  refine wp_ret ?_
  refine hret _ _ ?_
  refine ends_still (v := Value.tuple #[.int .u64 (u64 ((u64 ((u64 ((shr x1 32) * (shr y2 32))) + (shr (u64 ((u64 ((shr x1 32) * (Go.bits .and .u64 y2 4294967295))) + (shr (u64 ((Go.bits .and .u64 x1 4294967295) * (Go.bits .and .u64 y2 4294967295))) 32))) 32))) + (shr (u64 ((Go.bits .and .u64 (u64 ((u64 ((shr x1 32) * (Go.bits .and .u64 y2 4294967295))) + (shr (u64 ((Go.bits .and .u64 x1 4294967295) * (Go.bits .and .u64 y2 4294967295))) 32))) 4294967295) + (u64 ((Go.bits .and .u64 x1 4294967295) * (shr y2 32))))) 32))), .int .u64 (u64 (x1 * y2))]) (by kernel_rfl) (by kernel_rfl) ?_
  injection h with h
  injection h with h0_ h
  subst h0_ h
  exact ⟨f, rfl, FM.le.refl _, HS⟩

end Go.Sp.T4
