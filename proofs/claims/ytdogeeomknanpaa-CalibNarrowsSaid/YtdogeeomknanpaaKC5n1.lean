import Derived.Test.YtdogeeomknanpaaProg
import Derived.Test.YtdogeeomknanpaaSpThree
import Derived.Test.YtdogeeomknanpaaFC5
import Derived.Test.YtdogeeomknanpaaKC5n0
namespace Go.Sp.C5
open Go Go.Sp Go.Proofs
set_option linter.unusedVariables false
attribute [local irreducible] wpList AnyL Code.wp Calls Does
set_option maxRecDepth 100000 in
set_option maxHeartbeats 4000000 in
theorem quanta_root.calls (k : Nat)  (q1 : Int) {t w : World} {f : FM} {H : List Seg} (HS : St t w f (H)) (r1 : Int) (h : quanta_root k q1 = some r1) :
    Calls Try.prog 59 #[.int .i64 q1] w (fun e w' => ∃ (g : FM), e = .returned (Value.int .i64 r1) ∧ FM.le f g ∧ St t w' g (H)) := by
  unfold quanta_root at h
  refine enter Try.func59 rfl (tm := #[.int .i64 q1, undef, undef, undef, undef]) (by kernel_rfl) ?_
  intro B hret hnor hnp
  refine wp_seq_k (fun K2 hK3 => ?_)
  refine wp_region_lit ?_
  refine seqS1 (a' := ⟨#[.int .i64 q1, undef, .int .i64 0, undef, undef], []⟩) (by kernel_rfl) ?_
  refine wpList_nil ?_
  refine hK3 _ _ ?_
  refine wp_seq_k (fun K4 hK5 => ?_)
  refine wp_region_lit ?_
  have hq_ := bind_some h; clear h; obtain ⟨vt6, hc7, h⟩ := hq_
  refine seqL1 (by kernel_rfl) ?_
  refine seqK rfl (does_call (f := 96) (args := #[.int .i64 q1]) (by kernel_rfl) (num_Sqrt.calls k q1 HS vt6 hc7) ?_)
  rintro _ W10 ⟨f8, rfl, L9, HS11⟩
  refine ⟨_, rfl, ?_⟩
  refine seqS1 (a' := ⟨#[.int .i64 q1, undef, .int .i64 vt6, .int .i64 q1, .int .i64 vt6], []⟩) (by kernel_rfl) ?_
  refine wpList_nil ?_
  refine hK5 _ _ ?_
  refine wp_ret ?_
  refine hret _ _ ?_
  refine ends_still (v := Value.int .i64 vt6) (by kernel_rfl) (by kernel_rfl) ?_
  injection h with h
  subst h
  exact ⟨f8, rfl, L9, HS11⟩

set_option maxRecDepth 100000 in
set_option maxHeartbeats 4000000 in
theorem quanta_least.calls (k : Nat)  (q1 : Int) {t w : World} {f : FM} {H : List Seg} (HS : St t w f (H)) (r1 : Int) (h : quanta_least k q1 = some r1) :
    Calls Try.prog 86 #[.int .i64 q1] w (fun e w' => ∃ (g : FM), e = .returned (Value.int .i64 r1) ∧ FM.le f g ∧ St t w' g (H)) := by
  unfold quanta_least at h
  refine enter Try.func86 rfl (tm := #[.int .i64 q1, undef, undef, undef, undef, undef, undef, undef, undef, undef, undef, undef, undef, undef, undef, undef, undef, undef, undef, undef, undef, undef, undef, undef, undef, undef, undef]) (by kernel_rfl) ?_
  intro B hret hnor hnp
  refine wp_seq_k (fun K2 hK3 => ?_)
  refine wp_region_lit ?_
  refine seqS1 (a' := ⟨#[.int .i64 q1, undef, .int .i64 0, undef, undef, undef, undef, undef, undef, undef, undef, undef, undef, undef, undef, undef, undef, undef, undef, undef, undef, undef, undef, undef, undef, undef, undef], []⟩) (by kernel_rfl) ?_
  refine wpList_nil ?_
  refine hK3 _ _ ?_
  refine wp_seq_k (fun K4 hK5 => ?_)
  refine wp_region_lit ?_
  refine seqS4 (a' := ⟨#[.int .i64 q1, undef, .int .i64 0, .int .i64 0, .int .i64 (mx 0 q1), undef, .int .i64 q1, .int .i64 (mx 0 q1), undef, undef, undef, undef, undef, undef, undef, undef, undef, undef, undef, undef, undef, undef, undef, undef, undef, undef, undef], []⟩) (by kernel_rfl) ?_
  refine wpList_nil ?_
  refine hK5 _ _ ?_
  refine wp_seq_k (fun K6 hK7 => ?_)
  refine blockK (fun B8 hx9 hn10 hr11 ho12 hp13 => ?_)
  have hq_ := bind_some h; clear h; obtain ⟨o14, hv56, h⟩ := hq_
  have J57 : ∀ (f50 : FM) (low55 : Int) (j54 : Nat → Value) (W52 : World) (a_ : Act), FM.le f f50 → some (low55) = some o14 → St t W52 f50 (H) → a_ = ⟨#[.int .i64 q1, undef, .int .i64 0, .int .i64 low55, (j54 0), (j54 1), .int .i64 q1, .int .i64 (mx 0 q1), (j54 2), (j54 3), (j54 4), (j54 5), (j54 6), (j54 7), (j54 8), (j54 9), (j54 10), (j54 11), (j54 12), (j54 13), (j54 14), (j54 15), (j54 16), (j54 17), (j54 18), (j54 19), undef], []⟩ → K6 a_ W52 := by
    intro f50 low55 j54 W52 a_ L51 hj58 HS53  hfr_; subst hfr_
    injection hj58 with hj58; subst hj58; try dsimp only at h
    refine hK7 _ _ ?_
    refine wp_seq_k (fun K59 hK60 => ?_)
    refine wp_region_lit ?_
    refine seqS2 (a' := ⟨#[.int .i64 q1, undef, .int .i64 low55, .int .i64 low55, (j54 0), (j54 1), .int .i64 q1, .int .i64 (mx 0 q1), (j54 2), (j54 3), (j54 4), (j54 5), (j54 6), (j54 7), (j54 8), (j54 9), (j54 10), (j54 11), (j54 12), (j54 13), (j54 14), (j54 15), (j54 16), (j54 17), (j54 18), (j54 19), .int .i64 low55], []⟩) (by kernel_rfl) ?_
    refine wpList_nil ?_
    refine hK60 _ _ ?_
    refine wp_ret ?_
    refine hret _ _ ?_
    refine ends_still (v := Value.int .i64 low55) (by kernel_rfl) (by kernel_rfl) ?_
    injection h with h
    subst h
    exact ⟨f50, rfl, L51, HS53⟩
  clear h; have h := hv56; clear hv56
  refine loopK (fun n_ a_ w_ => ∃ (f18 : FM) (low23 : Int) (high24 : Int) (j22 : Nat → Value), FM.le f f18 ∧ St t w_ f18 (H) ∧ quanta_least.l0 k q1 n_ low23 high24 = some o14 ∧ a_ = ⟨#[.int .i64 q1, undef, .int .i64 0, .int .i64 low23, .int .i64 high24, (j22 0), .int .i64 q1, .int .i64 (mx 0 q1), (j22 1), (j22 2), (j22 3), (j22 4), (j22 5), (j22 6), (j22 7), (j22 8), (j22 9), (j22 10), (j22 11), (j22 12), (j22 13), (j22 14), (j22 15), (j22 16), (j22 17), (j22 18), undef], []⟩) k ⟨f, 0, (mx 0 q1), (fun i_ => [undef, undef, undef, undef, undef, undef, undef, undef, undef, undef, undef, undef, undef, undef, undef, undef, undef, undef, undef].getD i_ undef), (FM.le.refl _), HS, h, (by kernel_rfl)⟩ ?_
  clear h
  rintro n17 _ W20 ⟨f18, low23, high24, j22, L19, HS21, h, rfl⟩ K15 hK16
  obtain _ | n17 := n17
  · exact nomatch h
  simp only [quanta_least.l0] at h
  refine wp_seq_k (fun K25 hK26 => ?_)
  refine wp_seq_k (fun K27 hK28 => ?_)
  refine wp_region_lit ?_
  refine seqS3 (a' := ⟨#[.int .i64 q1, undef, .int .i64 0, .int .i64 low23, .int .i64 high24, (j22 0), .int .i64 q1, .int .i64 (mx 0 q1), .int .i64 low23, .int .i64 high24, .bool (decide (low23 < high24)), (j22 4), (j22 5), (j22 6), (j22 7), (j22 8), (j22 9), (j22 10), (j22 11), (j22 12), (j22 13), (j22 14), (j22 15), (j22 16), (j22 17), (j22 18), undef], []⟩) (by kernel_rfl) ?_
  refine wpList_nil ?_
  refine hK28 _ _ ?_
  have hq_ := ite_some h; clear h; rcases hq_ with ⟨c30, h⟩ | ⟨c30, h⟩
  · have c30 : low23 < high24 := c30
    refine wpRwI 10 (x := (decide (low23 < high24))) (v := true) (by kernel_rfl) (decide_eq_true c30) ?_
    refine condT (by kernel_rfl) ?_
    refine wp_skip ?_
    refine hK26 _ _ ?_
    refine blockK (fun B31 hx32 hn33 hr34 ho35 hp36 => ?_)
    refine wp_seq_k (fun K38 hK39 => ?_)
    refine wp_region_lit ?_
    refine seqS5 (a' := ⟨#[.int .i64 q1, undef, .int .i64 0, .int .i64 low23, .int .i64 high24, .int .i64 (w64 (Int.tdiv (w64 (low23 + high24)) 2)), .int .i64 q1, .int .i64 (mx 0 q1), .int .i64 low23, .int .i64 high24, .bool true, .int .i64 low23, .int .i64 high24, .int .i64 (w64 (low23 + high24)), .int .i64 (w64 (Int.tdiv (w64 (low23 + high24)) 2)), (j22 8), (j22 9), (j22 10), (j22 11), (j22 12), (j22 13), (j22 14), (j22 15), (j22 16), (j22 17), (j22 18), undef], []⟩) (by kernel_rfl) ?_
    refine wpList_nil ?_
    refine hK39 _ _ ?_
    refine wp_seq_k (fun K40 hK41 => ?_)
    refine wp_region_lit ?_
    have hq_ := bind_some h; clear h; obtain ⟨vt42, hc43, h⟩ := hq_
    refine seqL3 (by kernel_rfl) ?_
    refine seqK rfl (does_call (f := 59) (args := #[.int .i64 (w64 (Int.tdiv (w64 (low23 + high24)) 2))]) (by kernel_rfl) (quanta_root.calls k (w64 (Int.tdiv (w64 (low23 + high24)) 2)) HS21 vt42 hc43) ?_)
    rintro _ W46 ⟨f44, rfl, L45, HS47⟩
    refine ⟨_, rfl, ?_⟩
    refine seqS4 (a' := ⟨#[.int .i64 q1, undef, .int .i64 0, .int .i64 low23, .int .i64 high24, .int .i64 (w64 (Int.tdiv (w64 (low23 + high24)) 2)), .int .i64 q1, .int .i64 (mx 0 q1), .int .i64 low23, .int .i64 high24, .bool true, .int .i64 low23, .int .i64 high24, .int .i64 (w64 (low23 + high24)), .int .i64 (w64 (Int.tdiv (w64 (low23 + high24)) 2)), .int .i64 (w64 (Int.tdiv (w64 (low23 + high24)) 2)), .int .i64 (w64 ((w64 (Int.tdiv (w64 (low23 + high24)) 2)) + 1)), .int .i64 (w64 (Int.tdiv (w64 (low23 + high24)) 2)), .int .i64 vt42, .int .i64 (w64 (3 * vt42)), .int .i64 (w64 ((w64 ((w64 (Int.tdiv (w64 (low23 + high24)) 2)) + 1)) + (w64 (3 * vt42)))), .int .i64 q1, .bool (decide ((w64 ((w64 ((w64 (Int.tdiv (w64 (low23 + high24)) 2)) + 1)) + (w64 (3 * vt42)))) ≥ q1)), (j22 16), (j22 17), (j22 18), undef], []⟩) (by kernel_rfl) ?_
    refine wpList_nil ?_
    refine hK41 _ _ ?_
    have hq_ := ite_some h; clear h; rcases hq_ with ⟨c49, h⟩ | ⟨c49, h⟩
    · have c49 : (w64 ((w64 ((w64 (Int.tdiv (w64 (low23 + high24)) 2)) + 1)) + (w64 (3 * vt42)))) ≥ q1 := c49
      refine wpRwI 22 (x := (decide ((w64 ((w64 ((w64 (Int.tdiv (w64 (low23 + high24)) 2)) + 1)) + (w64 (3 * vt42)))) ≥ q1))) (v := true) (by kernel_rfl) (decide_eq_true c49) ?_
      refine condT (by kernel_rfl) ?_
      refine wp_region_lit ?_
      refine seqS2 (a' := ⟨#[.int .i64 q1, undef, .int .i64 0, .int .i64 low23, .int .i64 (w64 (Int.tdiv (w64 (low23 + high24)) 2)), .int .i64 (w64 (Int.tdiv (w64 (low23 + high24)) 2)), .int .i64 q1, .int .i64 (mx 0 q1), .int .i64 low23, .int .i64 high24, .bool true, .int .i64 low23, .int .i64 high24, .int .i64 (w64 (low23 + high24)), .int .i64 (w64 (Int.tdiv (w64 (low23 + high24)) 2)), .int .i64 (w64 (Int.tdiv (w64 (low23 + high24)) 2)), .int .i64 (w64 ((w64 (Int.tdiv (w64 (low23 + high24)) 2)) + 1)), .int .i64 (w64 (Int.tdiv (w64 (low23 + high24)) 2)), .int .i64 vt42, .int .i64 (w64 (3 * vt42)), .int .i64 (w64 ((w64 ((w64 (Int.tdiv (w64 (low23 + high24)) 2)) + 1)) + (w64 (3 * vt42)))), .int .i64 q1, .bool true, .int .i64 (w64 (Int.tdiv (w64 (low23 + high24)) 2)), (j22 17), (j22 18), undef], []⟩) (by kernel_rfl) ?_
      refine wpList_nil ?_
      refine hn33 _ _ ?_
      refine hK16 n17 _ _ (Nat.lt_succ_self _) ?_
      exact ⟨f44, low23, (w64 (Int.tdiv (w64 (low23 + high24)) 2)), (fun i_ => [Value.int .i64 (w64 (Int.tdiv (w64 (low23 + high24)) 2)), Value.int .i64 low23, Value.int .i64 high24, Value.bool true, Value.int .i64 low23, Value.int .i64 high24, Value.int .i64 (w64 (low23 + high24)), Value.int .i64 (w64 (Int.tdiv (w64 (low23 + high24)) 2)), Value.int .i64 (w64 (Int.tdiv (w64 (low23 + high24)) 2)), Value.int .i64 (w64 ((w64 (Int.tdiv (w64 (low23 + high24)) 2)) + 1)), Value.int .i64 (w64 (Int.tdiv (w64 (low23 + high24)) 2)), Value.int .i64 vt42, Value.int .i64 (w64 (3 * vt42)), Value.int .i64 (w64 ((w64 ((w64 (Int.tdiv (w64 (low23 + high24)) 2)) + 1)) + (w64 (3 * vt42)))), Value.int .i64 q1, Value.bool true, Value.int .i64 (w64 (Int.tdiv (w64 (low23 + high24)) 2)), (j22 17), (j22 18)].getD i_ undef), (L19.trans L45), HS47, h, (by kernel_rfl)⟩
    · have c49 : ¬ ((w64 ((w64 ((w64 (Int.tdiv (w64 (low23 + high24)) 2)) + 1)) + (w64 (3 * vt42)))) ≥ q1) := c49
      refine wpRwI 22 (x := (decide ((w64 ((w64 ((w64 (Int.tdiv (w64 (low23 + high24)) 2)) + 1)) + (w64 (3 * vt42)))) ≥ q1))) (v := false) (by kernel_rfl) (decide_eq_false c49) ?_
      refine condF (by kernel_rfl) ?_
      refine wp_region_lit ?_
      refine seqS3 (a' := ⟨#[.int .i64 q1, undef, .int .i64 0, .int .i64 (w64 ((w64 (Int.tdiv (w64 (low23 + high24)) 2)) + 1)), .int .i64 high24, .int .i64 (w64 (Int.tdiv (w64 (low23 + high24)) 2)), .int .i64 q1, .int .i64 (mx 0 q1), .int .i64 low23, .int .i64 high24, .bool true, .int .i64 low23, .int .i64 high24, .int .i64 (w64 (low23 + high24)), .int .i64 (w64 (Int.tdiv (w64 (low23 + high24)) 2)), .int .i64 (w64 (Int.tdiv (w64 (low23 + high24)) 2)), .int .i64 (w64 ((w64 (Int.tdiv (w64 (low23 + high24)) 2)) + 1)), .int .i64 (w64 (Int.tdiv (w64 (low23 + high24)) 2)), .int .i64 vt42, .int .i64 (w64 (3 * vt42)), .int .i64 (w64 ((w64 ((w64 (Int.tdiv (w64 (low23 + high24)) 2)) + 1)) + (w64 (3 * vt42)))), .int .i64 q1, .bool false, (j22 16), .int .i64 (w64 (Int.tdiv (w64 (low23 + high24)) 2)), .int .i64 (w64 ((w64 (Int.tdiv (w64 (low23 + high24)) 2)) + 1)), undef], []⟩) (by kernel_rfl) ?_
      refine wpList_nil ?_
      refine hn33 _ _ ?_
      refine hK16 n17 _ _ (Nat.lt_succ_self _) ?_
      exact ⟨f44, (w64 ((w64 (Int.tdiv (w64 (low23 + high24)) 2)) + 1)), high24, (fun i_ => [Value.int .i64 (w64 (Int.tdiv (w64 (low23 + high24)) 2)), Value.int .i64 low23, Value.int .i64 high24, Value.bool true, Value.int .i64 low23, Value.int .i64 high24, Value.int .i64 (w64 (low23 + high24)), Value.int .i64 (w64 (Int.tdiv (w64 (low23 + high24)) 2)), Value.int .i64 (w64 (Int.tdiv (w64 (low23 + high24)) 2)), Value.int .i64 (w64 ((w64 (Int.tdiv (w64 (low23 + high24)) 2)) + 1)), Value.int .i64 (w64 (Int.tdiv (w64 (low23 + high24)) 2)), Value.int .i64 vt42, Value.int .i64 (w64 (3 * vt42)), Value.int .i64 (w64 ((w64 ((w64 (Int.tdiv (w64 (low23 + high24)) 2)) + 1)) + (w64 (3 * vt42)))), Value.int .i64 q1, Value.bool false, (j22 16), Value.int .i64 (w64 (Int.tdiv (w64 (low23 + high24)) 2)), Value.int .i64 (w64 ((w64 (Int.tdiv (w64 (low23 + high24)) 2)) + 1))].getD i_ undef), (L19.trans L45), HS47, h, (by kernel_rfl)⟩
  · have c30 : ¬ (low23 < high24) := c30
    refine wpRwI 10 (x := (decide (low23 < high24))) (v := false) (by kernel_rfl) (decide_eq_false c30) ?_
    refine condF (by kernel_rfl) ?_
    refine wp_exit ?_
    refine hx9 _ _ ?_
    exact J57 f18 low23 (fun i_ => [Value.int .i64 high24, (j22 0), Value.int .i64 low23, Value.int .i64 high24, Value.bool false, (j22 4), (j22 5), (j22 6), (j22 7), (j22 8), (j22 9), (j22 10), (j22 11), (j22 12), (j22 13), (j22 14), (j22 15), (j22 16), (j22 17), (j22 18)].getD i_ undef) W20 _ L19 h HS21 (by kernel_rfl)

set_option maxRecDepth 100000 in
set_option maxHeartbeats 4000000 in
theorem quanta_most.calls (k : Nat)  (q1 : Int) {t w : World} {f : FM} {H : List Seg} (HS : St t w f (H)) (r1 : Int) (h : quanta_most k q1 = some r1) :
    Calls Try.prog 87 #[.int .i64 q1] w (fun e w' => ∃ (g : FM), e = .returned (Value.int .i64 r1) ∧ FM.le f g ∧ St t w' g (H)) := by
  unfold quanta_most at h
  refine enter Try.func87 rfl (tm := #[.int .i64 q1, undef, undef, undef, undef, undef, undef, undef, undef, undef, undef, undef, undef, undef, undef, undef, undef, undef, undef, undef, undef, undef]) (by kernel_rfl) ?_
  intro B hret hnor hnp
  refine wp_seq_k (fun K2 hK3 => ?_)
  refine wp_region_lit ?_
  refine seqS1 (a' := ⟨#[.int .i64 q1, undef, .int .i64 0, undef, undef, undef, undef, undef, undef, undef, undef, undef, undef, undef, undef, undef, undef, undef, undef, undef, undef, undef], []⟩) (by kernel_rfl) ?_
  refine wpList_nil ?_
  refine hK3 _ _ ?_
  refine wp_seq_k (fun K4 hK5 => ?_)
  refine wp_region_lit ?_
  have hq_ := bind_some h; clear h; obtain ⟨vt6, hc7, h⟩ := hq_
  refine seqL3 (by kernel_rfl) ?_
  refine seqK rfl (does_call (f := 59) (args := #[.int .i64 (w64 (9 + (w64 (4 * q1))))]) (by kernel_rfl) (quanta_root.calls k (w64 (9 + (w64 (4 * q1)))) HS vt6 hc7) ?_)
  rintro _ W10 ⟨f8, rfl, L9, HS11⟩
  refine ⟨_, rfl, ?_⟩
  refine seqS3 (a' := ⟨#[.int .i64 q1, undef, .int .i64 0, .int .i64 (w64 (Int.tdiv (w64 (3 + vt6)) 2)), .int .i64 q1, .int .i64 (w64 (4 * q1)), .int .i64 (w64 (9 + (w64 (4 * q1)))), .int .i64 vt6, .int .i64 (w64 (3 + vt6)), .int .i64 (w64 (Int.tdiv (w64 (3 + vt6)) 2)), undef, undef, undef, undef, undef, undef, undef, undef, undef, undef, undef, undef], []⟩) (by kernel_rfl) ?_
  refine wpList_nil ?_
  refine hK5 _ _ ?_
  refine wp_seq_k (fun K12 hK13 => ?_)
  refine wp_region_lit ?_
  refine seqS13 (a' := ⟨#[.int .i64 q1, undef, .int .i64 (w64 ((mn (w64 ((w64 ((w64 (Int.tdiv (w64 (3 + vt6)) 2)) * (w64 (Int.tdiv (w64 (3 + vt6)) 2)))) + (w64 (2 * (w64 (Int.tdiv (w64 (3 + vt6)) 2)))))) (w64 (q1 + (w64 (3 * (w64 (Int.tdiv (w64 (3 + vt6)) 2))))))) + 1)), .int .i64 (w64 (Int.tdiv (w64 (3 + vt6)) 2)), .int .i64 q1, .int .i64 (w64 (4 * q1)), .int .i64 (w64 (9 + (w64 (4 * q1)))), .int .i64 vt6, .int .i64 (w64 (3 + vt6)), .int .i64 (w64 (Int.tdiv (w64 (3 + vt6)) 2)), .int .i64 (w64 (Int.tdiv (w64 (3 + vt6)) 2)), .int .i64 (w64 (Int.tdiv (w64 (3 + vt6)) 2)), .int .i64 (w64 ((w64 (Int.tdiv (w64 (3 + vt6)) 2)) * (w64 (Int.tdiv (w64 (3 + vt6)) 2)))), .int .i64 (w64 (Int.tdiv (w64 (3 + vt6)) 2)), .int .i64 (w64 (2 * (w64 (Int.tdiv (w64 (3 + vt6)) 2)))), .int .i64 (w64 ((w64 ((w64 (Int.tdiv (w64 (3 + vt6)) 2)) * (w64 (Int.tdiv (w64 (3 + vt6)) 2)))) + (w64 (2 * (w64 (Int.tdiv (w64 (3 + vt6)) 2)))))), .int .i64 q1, .int .i64 (w64 (Int.tdiv (w64 (3 + vt6)) 2)), .int .i64 (w64 (3 * (w64 (Int.tdiv (w64 (3 + vt6)) 2)))), .int .i64 (w64 (q1 + (w64 (3 * (w64 (Int.tdiv (w64 (3 + vt6)) 2)))))), .int .i64 (mn (w64 ((w64 ((w64 (Int.tdiv (w64 (3 + vt6)) 2)) * (w64 (Int.tdiv (w64 (3 + vt6)) 2)))) + (w64 (2 * (w64 (Int.tdiv (w64 (3 + vt6)) 2)))))) (w64 (q1 + (w64 (3 * (w64 (Int.tdiv (w64 (3 + vt6)) 2))))))), .int .i64 (w64 ((mn (w64 ((w64 ((w64 (Int.tdiv (w64 (3 + vt6)) 2)) * (w64 (Int.tdiv (w64 (3 + vt6)) 2)))) + (w64 (2 * (w64 (Int.tdiv (w64 (3 + vt6)) 2)))))) (w64 (q1 + (w64 (3 * (w64 (Int.tdiv (w64 (3 + vt6)) 2))))))) + 1))], []⟩) (by kernel_rfl) ?_
  refine wpList_nil ?_
  refine hK13 _ _ ?_
  refine wp_ret ?_
  refine hret _ _ ?_
  refine ends_still (v := Value.int .i64 (w64 ((mn (w64 ((w64 ((w64 (Int.tdiv (w64 (3 + vt6)) 2)) * (w64 (Int.tdiv (w64 (3 + vt6)) 2)))) + (w64 (2 * (w64 (Int.tdiv (w64 (3 + vt6)) 2)))))) (w64 (q1 + (w64 (3 * (w64 (Int.tdiv (w64 (3 + vt6)) 2))))))) + 1))) (by kernel_rfl) (by kernel_rfl) ?_
  injection h with h
  subst h
  exact ⟨f8, rfl, L9, HS11⟩

set_option maxRecDepth 100000 in
set_option maxHeartbeats 4000000 in
theorem quanta_Means.calls (k : Nat)  (q1 : S_Bound) {t w : World} {f : FM} {H : List Seg} (HS : St t w f (H)) (r1 : S_Bound) (h : quanta_Means k q1 = some r1) :
    Calls Try.prog 50 #[.agg #[.int .i64 q1.Lo, .int .i64 q1.Hi, .bool q1.Unknown]] w (fun e w' => ∃ (g : FM), e = .returned (Value.agg #[.int .i64 r1.Lo, .int .i64 r1.Hi, .bool r1.Unknown]) ∧ FM.le f g ∧ St t w' g (H)) := by
  unfold quanta_Means at h
  refine enter Try.func50 rfl (tm := #[.agg #[.int .i64 q1.Lo, .int .i64 q1.Hi, .bool q1.Unknown], undef, undef, undef, undef, undef, undef, undef, undef, undef, undef, undef, undef, undef, undef, undef, undef, undef, undef, undef, undef, undef, undef, undef, undef]) (by kernel_rfl) ?_
  intro B hret hnor hnp
  refine wp_seq_k (fun K2 hK3 => ?_)
  refine wp_region_lit ?_
  refine seqK rfl (does_box (cs := #[.int .i64 q1.Lo, .int .i64 q1.Hi, .bool q1.Unknown]) rfl (by kernel_rfl : _ = Value.agg #[.int .i64 q1.Lo, .int .i64 q1.Hi, .bool q1.Unknown]) rfl HS ?_)
  intro b4 W5 HS6
  refine seqK rfl (does_alloc (z := Value.agg #[.int .i64 0, .int .i64 0, .bool false]) (cs := #[.int .i64 0, .int .i64 0, .bool false]) rfl (by kernel_rfl) rfl HS6 ?_)
  intro b8 W9 HS10
  refine wpList_nil ?_
  refine hK3 _ _ ?_
  refine wp_seq_k (fun K12 hK13 => ?_)
  refine wp_region_lit ?_
  refine seqK rfl (does_run (run_loadN (n := 3) rfl Try.underlying44 rfl (by kernel_rfl) (by kernel_rfl : _ = Value.pointer (some ⟨b4, 0, none⟩)) (cs := [.int .i64 q1.Lo, .int .i64 q1.Hi, .bool q1.Unknown]) rfl (HS10.u1.cells 0 3 _ rfl)) ?_)
  have hq_ := bind_some h; clear h; obtain ⟨vt14, hc15, h⟩ := hq_
  refine seqK rfl (does_call (f := 45) (args := #[.agg #[.int .i64 q1.Lo, .int .i64 q1.Hi, .bool q1.Unknown]]) (by kernel_rfl) (bound_Norm_Quanta.calls k q1 HS10 vt14 hc15) ?_)
  rintro _ W18 ⟨f16, rfl, L17, HS19⟩
  refine ⟨_, rfl, ?_⟩
  have HS20 := HS19.u1
  refine seqK rfl (does_store (n := 3) (vs := [.int .i64 vt14.Lo, .int .i64 vt14.Hi, .bool vt14.Unknown]) (cs' := #[.int .i64 vt14.Lo, .int .i64 vt14.Hi, .bool vt14.Unknown]) rfl (by kernel_rfl) (by kernel_rfl : _ = Value.pointer (some ⟨b4, 0, none⟩)) (by kernel_rfl : _ = Value.agg #[.int .i64 vt14.Lo, .int .i64 vt14.Hi, .bool vt14.Unknown]) rfl rfl (by intro u_ hu_; simp only [List.mem_cons, List.not_mem_nil, or_false] at hu_; rcases hu_ with rfl | rfl | rfl <;> rfl) HS20 (Nat.le_of_ble_eq_true rfl) (by kernel_rfl) ?_)
  intro W21 HS22
  refine wpList_nil ?_
  refine hK13 _ _ ?_
  refine wp_seq_k (fun K23 hK24 => ?_)
  refine wp_seq_k (fun K25 hK26 => ?_)
  refine wp_region_lit ?_
  refine seqL1 (by kernel_rfl) ?_
  refine seqK rfl (does_run (run_load rfl Try.underlying4 rfl (by kernel_rfl : _ = Value.pointer (some ⟨b4, 2, none⟩)) (HS22.cell 2)) ?_)
  refine seqS1 (a' := ⟨#[.agg #[.int .i64 q1.Lo, .int .i64 q1.Hi, .bool q1.Unknown], .pointer (some ⟨b4, 0, none⟩), .pointer (some ⟨b8, 0, none⟩), .agg #[.int .i64 q1.Lo, .int .i64 q1.Hi, .bool q1.Unknown], .agg #[.int .i64 vt14.Lo, .int .i64 vt14.Hi, .bool vt14.Unknown], .pointer (some ⟨b4, 2, none⟩), .bool vt14.Unknown, .bool vt14.Unknown, undef, undef, undef, undef, undef, undef, undef, undef, undef, undef, undef, undef, undef, undef, undef, undef, undef], []⟩) (by kernel_rfl) ?_
  have hq_ := ite_some h; clear h; rcases hq_ with ⟨c27, h⟩ | ⟨c27, h⟩
  · have c27 : vt14.Unknown = true := c27
    refine seqRwI 6 (x := vt14.Unknown) (v := true) (by kernel_rfl) c27 ?_
    refine seqRwI 7 (x := vt14.Unknown) (v := true) (by kernel_rfl) c27 ?_
    refine seqS9 (a' := ⟨#[.agg #[.int .i64 q1.Lo, .int .i64 q1.Hi, .bool q1.Unknown], .pointer (some ⟨b4, 0, none⟩), .pointer (some ⟨b8, 0, none⟩), .agg #[.int .i64 q1.Lo, .int .i64 q1.Hi, .bool q1.Unknown], .agg #[.int .i64 vt14.Lo, .int .i64 vt14.Hi, .bool vt14.Unknown], .pointer (some ⟨b4, 2, none⟩), .bool true, .bool true, undef, undef, undef, .bool true, .bool true, undef, undef, undef, .bool true, undef, undef, undef, undef, undef, undef, undef, undef], []⟩) (by kernel_rfl) ?_
    refine wpList_nil ?_
    refine hK26 _ _ ?_
    refine condT (by kernel_rfl) ?_
    refine wp_seq_k (fun K28 hK29 => ?_)
    refine wp_region_lit ?_
    have hq_ := bind_some h; clear h; obtain ⟨vt30, hc31, h⟩ := hq_
    refine seqK rfl (does_call (f := 32) (args := #[]) (by kernel_rfl) (bound_None_Quanta.calls k  HS22 vt30 hc31) ?_)
    rintro _ W34 ⟨f32, rfl, L33, HS35⟩
    refine ⟨_, rfl, ?_⟩
    have HS36 := HS35.u1
    refine seqK rfl (does_store (n := 3) (vs := [.int .i64 vt30.Lo, .int .i64 vt30.Hi, .bool vt30.Unknown]) (cs' := #[.int .i64 vt30.Lo, .int .i64 vt30.Hi, .bool vt30.Unknown]) rfl (by kernel_rfl) (by kernel_rfl : _ = Value.pointer (some ⟨b8, 0, none⟩)) (by kernel_rfl : _ = Value.agg #[.int .i64 vt30.Lo, .int .i64 vt30.Hi, .bool vt30.Unknown]) rfl rfl (by intro u_ hu_; simp only [List.mem_cons, List.not_mem_nil, or_false] at hu_; rcases hu_ with rfl | rfl | rfl <;> rfl) HS36 (Nat.le_of_ble_eq_true rfl) (by kernel_rfl) ?_)
    intro W37 HS38
    refine wpList_nil ?_
    refine hK29 _ _ ?_
    refine wp_ret ?_
    refine hret _ _ ?_
    refine ends (v := Value.agg #[.int .i64 vt30.Lo, .int .i64 vt30.Hi, .bool vt30.Unknown]) (results1 (q1 := .cell 2 44) (by kernel_rfl) (resN (n := 3) (cs := [.int .i64 vt30.Lo, .int .i64 vt30.Hi, .bool vt30.Unknown]) (by kernel_rfl : _ = Value.pointer (some ⟨b8, 0, none⟩)) Try.underlying44 rfl (by kernel_rfl) rfl (HS38.cells 0 3 _ rfl))) (by kernel_rfl) ?_
    have HS83 := HS38.drop
    have HS84 := HS83.drop
    injection h with h
    subst h
    exact ⟨f32, rfl, (L17.trans L33), HS84⟩
  · have c27 : ¬ (vt14.Unknown = true) := c27
    refine seqRwI 6 (x := vt14.Unknown) (v := false) (by kernel_rfl) (Bool.eq_false_iff.mpr c27) ?_
    refine seqRwI 7 (x := vt14.Unknown) (v := false) (by kernel_rfl) (Bool.eq_false_iff.mpr c27) ?_
    refine seqL1 (by kernel_rfl) ?_
    refine seqG (by kernel_rfl) (does_run (run_load rfl Try.underlying42 rfl (by kernel_rfl : _ = Value.pointer (some ⟨b4, 1, none⟩)) (HS22.cell 1)) ?_)
    refine seqS3 (a' := ⟨#[.agg #[.int .i64 q1.Lo, .int .i64 q1.Hi, .bool q1.Unknown], .pointer (some ⟨b4, 0, none⟩), .pointer (some ⟨b8, 0, none⟩), .agg #[.int .i64 q1.Lo, .int .i64 q1.Hi, .bool q1.Unknown], .agg #[.int .i64 vt14.Lo, .int .i64 vt14.Hi, .bool vt14.Unknown], .pointer (some ⟨b4, 2, none⟩), .bool false, .bool false, .pointer (some ⟨b4, 1, none⟩), .int .i64 vt14.Hi, .bool (decide (vt14.Hi < 0)), .bool (decide (vt14.Hi < 0)), .bool (decide (vt14.Hi < 0)), undef, undef, undef, undef, undef, undef, undef, undef, undef, undef, undef, undef], []⟩) (by kernel_rfl) ?_
    have hq_ := ite_some h; clear h; rcases hq_ with ⟨c39, h⟩ | ⟨c39, h⟩
    · have c39 : vt14.Hi < 0 := c39
      refine seqRwI 10 (x := (decide (vt14.Hi < 0))) (v := true) (by kernel_rfl) (decide_eq_true c39) ?_
      refine seqRwI 11 (x := (decide (vt14.Hi < 0))) (v := true) (by kernel_rfl) (decide_eq_true c39) ?_
      refine seqRwI 12 (x := (decide (vt14.Hi < 0))) (v := true) (by kernel_rfl) (decide_eq_true c39) ?_
      refine seqS4 (a' := ⟨#[.agg #[.int .i64 q1.Lo, .int .i64 q1.Hi, .bool q1.Unknown], .pointer (some ⟨b4, 0, none⟩), .pointer (some ⟨b8, 0, none⟩), .agg #[.int .i64 q1.Lo, .int .i64 q1.Hi, .bool q1.Unknown], .agg #[.int .i64 vt14.Lo, .int .i64 vt14.Hi, .bool vt14.Unknown], .pointer (some ⟨b4, 2, none⟩), .bool false, .bool false, .pointer (some ⟨b4, 1, none⟩), .int .i64 vt14.Hi, .bool true, .bool true, .bool true, undef, undef, undef, .bool true, undef, undef, undef, undef, undef, undef, undef, undef], []⟩) (by kernel_rfl) ?_
      refine wpList_nil ?_
      refine hK26 _ _ ?_
      refine condT (by kernel_rfl) ?_
      refine wp_seq_k (fun K40 hK41 => ?_)
      refine wp_region_lit ?_
      have hq_ := bind_some h; clear h; obtain ⟨vt42, hc43, h⟩ := hq_
      refine seqK rfl (does_call (f := 32) (args := #[]) (by kernel_rfl) (bound_None_Quanta.calls k  HS22 vt42 hc43) ?_)
      rintro _ W46 ⟨f44, rfl, L45, HS47⟩
      refine ⟨_, rfl, ?_⟩
      have HS48 := HS47.u1
      refine seqK rfl (does_store (n := 3) (vs := [.int .i64 vt42.Lo, .int .i64 vt42.Hi, .bool vt42.Unknown]) (cs' := #[.int .i64 vt42.Lo, .int .i64 vt42.Hi, .bool vt42.Unknown]) rfl (by kernel_rfl) (by kernel_rfl : _ = Value.pointer (some ⟨b8, 0, none⟩)) (by kernel_rfl : _ = Value.agg #[.int .i64 vt42.Lo, .int .i64 vt42.Hi, .bool vt42.Unknown]) rfl rfl (by intro u_ hu_; simp only [List.mem_cons, List.not_mem_nil, or_false] at hu_; rcases hu_ with rfl | rfl | rfl <;> rfl) HS48 (Nat.le_of_ble_eq_true rfl) (by kernel_rfl) ?_)
      intro W49 HS50
      refine wpList_nil ?_
      refine hK41 _ _ ?_
      refine wp_ret ?_
      refine hret _ _ ?_
      refine ends (v := Value.agg #[.int .i64 vt42.Lo, .int .i64 vt42.Hi, .bool vt42.Unknown]) (results1 (q1 := .cell 2 44) (by kernel_rfl) (resN (n := 3) (cs := [.int .i64 vt42.Lo, .int .i64 vt42.Hi, .bool vt42.Unknown]) (by kernel_rfl : _ = Value.pointer (some ⟨b8, 0, none⟩)) Try.underlying44 rfl (by kernel_rfl) rfl (HS50.cells 0 3 _ rfl))) (by kernel_rfl) ?_
      have HS85 := HS50.drop
      have HS86 := HS85.drop
      injection h with h
      subst h
      exact ⟨f44, rfl, (L17.trans L45), HS86⟩
    · have c39 : ¬ (vt14.Hi < 0) := c39
      refine seqRwI 10 (x := (decide (vt14.Hi < 0))) (v := false) (by kernel_rfl) (decide_eq_false c39) ?_
      refine seqRwI 11 (x := (decide (vt14.Hi < 0))) (v := false) (by kernel_rfl) (decide_eq_false c39) ?_
      refine seqRwI 12 (x := (decide (vt14.Hi < 0))) (v := false) (by kernel_rfl) (decide_eq_false c39) ?_
      refine seqL1 (by kernel_rfl) ?_
      refine seqG (by kernel_rfl) (does_run (run_load rfl Try.underlying42 rfl (by kernel_rfl : _ = Value.pointer (some ⟨b4, 1, none⟩)) (HS22.cell 1)) ?_)
      refine seqS2 (a' := ⟨#[.agg #[.int .i64 q1.Lo, .int .i64 q1.Hi, .bool q1.Unknown], .pointer (some ⟨b4, 0, none⟩), .pointer (some ⟨b8, 0, none⟩), .agg #[.int .i64 q1.Lo, .int .i64 q1.Hi, .bool q1.Unknown], .agg #[.int .i64 vt14.Lo, .int .i64 vt14.Hi, .bool vt14.Unknown], .pointer (some ⟨b4, 2, none⟩), .bool false, .bool false, .pointer (some ⟨b4, 1, none⟩), .int .i64 vt14.Hi, .bool false, .bool false, .bool false, .pointer (some ⟨b4, 1, none⟩), .int .i64 vt14.Hi, .bool (decide (vt14.Hi > 34359738368)), .bool (decide (vt14.Hi > 34359738368)), undef, undef, undef, undef, undef, undef, undef, undef], []⟩) (by kernel_rfl) ?_
      refine wpList_nil ?_
      refine hK26 _ _ ?_
      have hq_ := ite_some h; clear h; rcases hq_ with ⟨c52, h⟩ | ⟨c52, h⟩
      · have c52 : vt14.Hi > 34359738368 := c52
        refine wpRwI 15 (x := (decide (vt14.Hi > 34359738368))) (v := true) (by kernel_rfl) (decide_eq_true c52) ?_
        refine wpRwI 16 (x := (decide (vt14.Hi > 34359738368))) (v := true) (by kernel_rfl) (decide_eq_true c52) ?_
        refine condT (by kernel_rfl) ?_
        refine wp_seq_k (fun K53 hK54 => ?_)
        refine wp_region_lit ?_
        have hq_ := bind_some h; clear h; obtain ⟨vt55, hc56, h⟩ := hq_
        refine seqK rfl (does_call (f := 32) (args := #[]) (by kernel_rfl) (bound_None_Quanta.calls k  HS22 vt55 hc56) ?_)
        rintro _ W59 ⟨f57, rfl, L58, HS60⟩
        refine ⟨_, rfl, ?_⟩
        have HS61 := HS60.u1
        refine seqK rfl (does_store (n := 3) (vs := [.int .i64 vt55.Lo, .int .i64 vt55.Hi, .bool vt55.Unknown]) (cs' := #[.int .i64 vt55.Lo, .int .i64 vt55.Hi, .bool vt55.Unknown]) rfl (by kernel_rfl) (by kernel_rfl : _ = Value.pointer (some ⟨b8, 0, none⟩)) (by kernel_rfl : _ = Value.agg #[.int .i64 vt55.Lo, .int .i64 vt55.Hi, .bool vt55.Unknown]) rfl rfl (by intro u_ hu_; simp only [List.mem_cons, List.not_mem_nil, or_false] at hu_; rcases hu_ with rfl | rfl | rfl <;> rfl) HS61 (Nat.le_of_ble_eq_true rfl) (by kernel_rfl) ?_)
        intro W62 HS63
        refine wpList_nil ?_
        refine hK54 _ _ ?_
        refine wp_ret ?_
        refine hret _ _ ?_
        refine ends (v := Value.agg #[.int .i64 vt55.Lo, .int .i64 vt55.Hi, .bool vt55.Unknown]) (results1 (q1 := .cell 2 44) (by kernel_rfl) (resN (n := 3) (cs := [.int .i64 vt55.Lo, .int .i64 vt55.Hi, .bool vt55.Unknown]) (by kernel_rfl : _ = Value.pointer (some ⟨b8, 0, none⟩)) Try.underlying44 rfl (by kernel_rfl) rfl (HS63.cells 0 3 _ rfl))) (by kernel_rfl) ?_
        have HS87 := HS63.drop
        have HS88 := HS87.drop
        injection h with h
        subst h
        exact ⟨f57, rfl, (L17.trans L58), HS88⟩
      · have c52 : ¬ (vt14.Hi > 34359738368) := c52
        refine wpRwI 15 (x := (decide (vt14.Hi > 34359738368))) (v := false) (by kernel_rfl) (decide_eq_false c52) ?_
        refine wpRwI 16 (x := (decide (vt14.Hi > 34359738368))) (v := false) (by kernel_rfl) (decide_eq_false c52) ?_
        refine condF (by kernel_rfl) ?_
        refine wp_skip ?_
        refine hK24 _ _ ?_
        refine wp_seq_k (fun K64 hK65 => ?_)
        have HS66 := HS22.u1
        refine heldG (S := Sg t f16 ([(b4, .cells #[.int .i64 vt14.Lo, .int .i64 vt14.Hi, .bool vt14.Unknown] 44 (0, 0))] :: H) [(7, [(b8, .cells #[.int .i64 0, .int .i64 0, .bool false] 44 (0, 0))])]) (n := 8) (by kernel_rfl) rfl HS66 ?_
        intro W67 HS68
        refine takeG [0] (n := 8) (fuel := 7) (l' := #[true, false, false, false, false, false, false, false]) (a' := ⟨#[.agg #[.int .i64 q1.Lo, .int .i64 q1.Hi, .bool q1.Unknown], .pointer (some ⟨b4, 0, none⟩), .pointer (some ⟨b8, 0, none⟩), .agg #[.int .i64 q1.Lo, .int .i64 q1.Hi, .bool q1.Unknown], .agg #[.int .i64 vt14.Lo, .int .i64 vt14.Hi, .bool vt14.Unknown], .pointer (some ⟨b4, 2, none⟩), .bool false, .bool false, .pointer (some ⟨b4, 1, none⟩), .int .i64 vt14.Hi, .bool false, .bool false, .bool false, .pointer (some ⟨b4, 1, none⟩), .int .i64 vt14.Hi, .bool false, .bool false, undef, .pointer (some ⟨b4, 0, none⟩), undef, undef, undef, undef, undef, undef], []⟩) rfl (by kernel_rfl) (by kernel_rfl) (by kernel_rfl) hnp (Sg.g1 (Sx.of [[(b8, .cells #[.int .i64 0, .int .i64 0, .bool false] 44 (0, 0))]] (FM.le.refl _) HS68) (fun _ => St.only [] HS68 (FM.le.refl _))) ?_
        refine takeGQ 1 [] rfl (by kernel_rfl) (by kernel_rfl) (by kernel_rfl) (by kernel_rfl) (by kernel_rfl) (by kernel_rfl) hnp (Sg.g1 (Sx.of [[(b8, .cells #[.int .i64 0, .int .i64 0, .bool false] 44 (0, 0))]] (FM.le.refl _) HS68) (fun _ => St.only [] HS68 (FM.le.refl _))) (fun w_ hw_ => by obtain ⟨g_, hl_, hS_⟩ := hw_.st; exact run_load rfl Try.underlying42 rfl (by kernel_rfl : _ = Value.pointer (some ⟨b4, 0, none⟩)) (hS_.cell 0)) ?_
        refine takeG [3] (n := 6) (fuel := 5) (l' := #[true, true, false, true, false, false, false, false]) (a' := ⟨#[.agg #[.int .i64 q1.Lo, .int .i64 q1.Hi, .bool q1.Unknown], .pointer (some ⟨b4, 0, none⟩), .pointer (some ⟨b8, 0, none⟩), .agg #[.int .i64 q1.Lo, .int .i64 q1.Hi, .bool q1.Unknown], .agg #[.int .i64 vt14.Lo, .int .i64 vt14.Hi, .bool vt14.Unknown], .pointer (some ⟨b4, 2, none⟩), .bool false, .bool false, .pointer (some ⟨b4, 1, none⟩), .int .i64 vt14.Hi, .bool false, .bool false, .bool false, .pointer (some ⟨b4, 1, none⟩), .int .i64 vt14.Hi, .bool false, .bool false, undef, .pointer (some ⟨b4, 0, none⟩), .int .i64 vt14.Lo, undef, .pointer (some ⟨b4, 1, none⟩), undef, undef, undef], []⟩) rfl (by kernel_rfl) (by kernel_rfl) (by kernel_rfl) hnp (Sg.g1 (Sx.of [[(b8, .cells #[.int .i64 0, .int .i64 0, .bool false] 44 (0, 0))]] (FM.le.refl _) HS68) (fun _ => St.only [] HS68 (FM.le.refl _))) ?_
        refine takeGQ 4 [] rfl (by kernel_rfl) (by kernel_rfl) (by kernel_rfl) (by kernel_rfl) (by kernel_rfl) (by kernel_rfl) hnp (Sg.g1 (Sx.of [[(b8, .cells #[.int .i64 0, .int .i64 0, .bool false] 44 (0, 0))]] (FM.le.refl _) HS68) (fun _ => St.only [] HS68 (FM.le.refl _))) (fun w_ hw_ => by obtain ⟨g_, hl_, hS_⟩ := hw_.st; exact run_load rfl Try.underlying42 rfl (by kernel_rfl : _ = Value.pointer (some ⟨b4, 1, none⟩)) (hS_.cell 1)) ?_
        have hq_ := bind_some h; clear h; obtain ⟨vt69, hc70, h⟩ := hq_
        refine takeGE 2 (by kernel_rfl) rfl (by kernel_rfl) (does_call (f := 86) (args := #[.int .i64 vt14.Lo]) (by kernel_rfl) (quanta_least.calls k vt14.Lo HS68 vt69 hc70) ?_)
        rintro _ W73 ⟨f71, rfl, L72, HS74⟩
        refine ⟨_, rfl, ?_⟩
        refine ⟨(Sg.g1 (Sx.of [[(b8, .cells #[.int .i64 0, .int .i64 0, .bool false] 44 (0, 0))]] L72 HS74) (fun _ => St.only [] HS74 L72)), ?_⟩
        have hq_ := bind_some h; clear h; obtain ⟨vt75, hc76, h⟩ := hq_
        refine takeGE 5 (by kernel_rfl) rfl (by kernel_rfl) (does_call (f := 87) (args := #[.int .i64 vt14.Hi]) (by kernel_rfl) (quanta_most.calls k vt14.Hi HS74 vt75 hc76) ?_)
        rintro _ W79 ⟨f77, rfl, L78, HS80⟩
        refine ⟨_, rfl, ?_⟩
        refine ⟨(Sg.g1 (Sx.of [[(b8, .cells #[.int .i64 0, .int .i64 0, .bool false] 44 (0, 0))]] (L72.trans L78) HS80) (fun _ => St.only [] HS80 (L72.trans L78))), ?_⟩
        refine takeG [6] (n := 2) (fuel := 1) (l' := #[true, true, true, true, true, true, true, false]) (a' := ⟨#[.agg #[.int .i64 q1.Lo, .int .i64 q1.Hi, .bool q1.Unknown], .pointer (some ⟨b4, 0, none⟩), .pointer (some ⟨b8, 0, none⟩), .agg #[.int .i64 q1.Lo, .int .i64 q1.Hi, .bool q1.Unknown], .agg #[.int .i64 vt14.Lo, .int .i64 vt14.Hi, .bool vt14.Unknown], .pointer (some ⟨b4, 2, none⟩), .bool false, .bool false, .pointer (some ⟨b4, 1, none⟩), .int .i64 vt14.Hi, .bool false, .bool false, .bool false, .pointer (some ⟨b4, 1, none⟩), .int .i64 vt14.Hi, .bool false, .bool false, undef, .pointer (some ⟨b4, 0, none⟩), .int .i64 vt14.Lo, .int .i64 vt69, .pointer (some ⟨b4, 1, none⟩), .int .i64 vt14.Hi, .int .i64 vt75, .agg #[.int .i64 vt69, .int .i64 vt75, .bool false]], []⟩) rfl (by kernel_rfl) (by kernel_rfl) (by kernel_rfl) hnp (Sg.g1 (Sx.of [[(b8, .cells #[.int .i64 0, .int .i64 0, .bool false] 44 (0, 0))]] (L72.trans L78) HS80) (fun _ => St.only [] HS80 (L72.trans L78))) ?_
        refine takeGE 7 (by kernel_rfl) rfl (by kernel_rfl) (does_store (n := 3) (vs := [.int .i64 vt69, .int .i64 vt75, .bool false]) (cs' := #[.int .i64 vt69, .int .i64 vt75, .bool false]) rfl (by kernel_rfl) (by kernel_rfl : _ = Value.pointer (some ⟨b8, 0, none⟩)) (by kernel_rfl : _ = Value.agg #[.int .i64 vt69, .int .i64 vt75, .bool false]) rfl rfl (by intro u_ hu_; simp only [List.mem_cons, List.not_mem_nil, or_false] at hu_; rcases hu_ with rfl | rfl | rfl <;> rfl) HS80 (Nat.le_of_ble_eq_true rfl) (by kernel_rfl) ?_)
        intro W81 HS82
        refine ⟨(Sg.g1 (Sx.of [[(b8, .cells #[.int .i64 vt69, .int .i64 vt75, .bool false] 44 (0, 0))]] (L72.trans L78) HS82) (fun hl_ => Bool.noConfusion (show true = false from hl_))), ?_⟩
        refine doneG (by kernel_rfl) ?_ _
        refine hK65 _ _ ?_
        refine wp_ret ?_
        refine hret _ _ ?_
        refine ends (v := Value.agg #[.int .i64 vt69, .int .i64 vt75, .bool false]) (results1 (q1 := .cell 2 44) (by kernel_rfl) (resN (n := 3) (cs := [.int .i64 vt69, .int .i64 vt75, .bool false]) (by kernel_rfl : _ = Value.pointer (some ⟨b8, 0, none⟩)) Try.underlying44 rfl (by kernel_rfl) rfl (HS82.cells 0 3 _ rfl))) (by kernel_rfl) ?_
        have HS89 := HS82.drop
        have HS90 := HS89.drop
        injection h with h
        subst h
        exact ⟨f77, rfl, (L17.trans (L72.trans L78)), HS90⟩

set_option maxRecDepth 100000 in
set_option maxHeartbeats 4000000 in
theorem bound_As_Light_Quanta.calls (k : Nat)  (b1 : S_Bound) {t w : World} {f : FM} {H : List Seg} (HS : St t w f (H)) (r1 : S_Bound) (h : bound_As_Light_Quanta k b1 = some r1) :
    Calls Try.prog 49 #[.agg #[.int .i64 b1.Lo, .int .i64 b1.Hi, .bool b1.Unknown]] w (fun e w' => ∃ (g : FM), e = .returned (Value.agg #[.int .i64 r1.Lo, .int .i64 r1.Hi, .bool r1.Unknown]) ∧ FM.le f g ∧ St t w' g (H)) := by
  unfold bound_As_Light_Quanta at h
  refine enter Try.func49 rfl (tm := #[.agg #[.int .i64 b1.Lo, .int .i64 b1.Hi, .bool b1.Unknown], undef, undef, undef, undef, undef, undef, undef, undef, undef, undef, undef]) (by kernel_rfl) ?_
  intro B hret hnor hnp
  refine wp_seq_k (fun K2 hK3 => ?_)
  refine wp_region_lit ?_
  refine seqK rfl (does_box (cs := #[.int .i64 b1.Lo, .int .i64 b1.Hi, .bool b1.Unknown]) rfl (by kernel_rfl : _ = Value.agg #[.int .i64 b1.Lo, .int .i64 b1.Hi, .bool b1.Unknown]) rfl HS ?_)
  intro b4 W5 HS6
  refine seqK rfl (does_alloc (z := Value.agg #[.int .i64 0, .int .i64 0, .bool false]) (cs := #[.int .i64 0, .int .i64 0, .bool false]) rfl (by kernel_rfl) rfl HS6 ?_)
  intro b8 W9 HS10
  refine wpList_nil ?_
  refine hK3 _ _ ?_
  refine wp_seq_k (fun K12 hK13 => ?_)
  refine wp_region_lit ?_
  refine seqK rfl (does_run (run_loadN (n := 3) rfl Try.underlying44 rfl (by kernel_rfl) (by kernel_rfl : _ = Value.pointer (some ⟨b4, 0, none⟩)) (cs := [.int .i64 b1.Lo, .int .i64 b1.Hi, .bool b1.Unknown]) rfl (HS10.u1.cells 0 3 _ rfl)) ?_)
  have hq_ := bind_some h; clear h; obtain ⟨vt14, hc15, h⟩ := hq_
  refine seqK rfl (does_call (f := 45) (args := #[.agg #[.int .i64 b1.Lo, .int .i64 b1.Hi, .bool b1.Unknown]]) (by kernel_rfl) (bound_Norm_Quanta.calls k b1 HS10 vt14 hc15) ?_)
  rintro _ W18 ⟨f16, rfl, L17, HS19⟩
  refine ⟨_, rfl, ?_⟩
  have HS20 := HS19.u1
  refine seqK rfl (does_store (n := 3) (vs := [.int .i64 vt14.Lo, .int .i64 vt14.Hi, .bool vt14.Unknown]) (cs' := #[.int .i64 vt14.Lo, .int .i64 vt14.Hi, .bool vt14.Unknown]) rfl (by kernel_rfl) (by kernel_rfl : _ = Value.pointer (some ⟨b4, 0, none⟩)) (by kernel_rfl : _ = Value.agg #[.int .i64 vt14.Lo, .int .i64 vt14.Hi, .bool vt14.Unknown]) rfl rfl (by intro u_ hu_; simp only [List.mem_cons, List.not_mem_nil, or_false] at hu_; rcases hu_ with rfl | rfl | rfl <;> rfl) HS20 (Nat.le_of_ble_eq_true rfl) (by kernel_rfl) ?_)
  intro W21 HS22
  refine wpList_nil ?_
  refine hK13 _ _ ?_
  refine wp_seq_k (fun K23 hK24 => ?_)
  refine wp_region_lit ?_
  refine seqL1 (by kernel_rfl) ?_
  refine seqK rfl (does_run (run_load rfl Try.underlying42 rfl (by kernel_rfl : _ = Value.pointer (some ⟨b4, 0, none⟩)) (HS22.cell 0)) ?_)
  refine seqL1 (by kernel_rfl) ?_
  refine seqK rfl (does_run (run_load rfl Try.underlying42 rfl (by kernel_rfl : _ = Value.pointer (some ⟨b4, 1, none⟩)) (HS22.cell 1)) ?_)
  refine seqL1 (by kernel_rfl) ?_
  refine seqK rfl (does_run (run_load rfl Try.underlying4 rfl (by kernel_rfl : _ = Value.pointer (some ⟨b4, 2, none⟩)) (HS22.cell 2)) ?_)
  have HS25 := HS22.u1
  refine seqL1 (by kernel_rfl) ?_
  refine seqK rfl (does_store (n := 3) (vs := [.int .i64 vt14.Lo, .int .i64 vt14.Hi, .bool vt14.Unknown]) (cs' := #[.int .i64 vt14.Lo, .int .i64 vt14.Hi, .bool vt14.Unknown]) rfl (by kernel_rfl) (by kernel_rfl : _ = Value.pointer (some ⟨b8, 0, none⟩)) (by kernel_rfl : _ = Value.agg #[.int .i64 vt14.Lo, .int .i64 vt14.Hi, .bool vt14.Unknown]) rfl rfl (by intro u_ hu_; simp only [List.mem_cons, List.not_mem_nil, or_false] at hu_; rcases hu_ with rfl | rfl | rfl <;> rfl) HS25 (Nat.le_of_ble_eq_true rfl) (by kernel_rfl) ?_)
  intro W26 HS27
  refine wpList_nil ?_
  refine hK24 _ _ ?_
  refine wp_ret ?_
  refine hret _ _ ?_
  refine ends (v := Value.agg #[.int .i64 vt14.Lo, .int .i64 vt14.Hi, .bool vt14.Unknown]) (results1 (q1 := .cell 2 54) (by kernel_rfl) (resN (n := 3) (cs := [.int .i64 vt14.Lo, .int .i64 vt14.Hi, .bool vt14.Unknown]) (by kernel_rfl : _ = Value.pointer (some ⟨b8, 0, none⟩)) Try.underlying54 rfl (by kernel_rfl) rfl (HS27.cells 0 3 _ rfl))) (by kernel_rfl) ?_
  have HS28 := HS27.drop
  have HS29 := HS28.drop
  injection h with h
  subst h
  exact ⟨f16, rfl, L17, HS29⟩

set_option maxRecDepth 100000 in
set_option maxHeartbeats 4000000 in
theorem bound_Exact_Light.calls (k : Nat)  (v1 : Int) {t w : World} {f : FM} {H : List Seg} (HS : St t w f (H)) (r1 : S_Bound) (h : bound_Exact_Light k v1 = some r1) :
    Calls Try.prog 31 #[.int .i64 v1] w (fun e w' => ∃ (g : FM), e = .returned (Value.agg #[.int .i64 r1.Lo, .int .i64 r1.Hi, .bool r1.Unknown]) ∧ FM.le f g ∧ St t w' g (H)) := by
  unfold bound_Exact_Light at h
  refine enter Try.func31 rfl (tm := #[.int .i64 v1, undef, undef, undef, undef, undef]) (by kernel_rfl) ?_
  intro B hret hnor hnp
  refine wp_seq_k (fun K2 hK3 => ?_)
  refine wp_region_lit ?_
  refine seqK rfl (does_alloc (z := Value.agg #[.int .i64 0, .int .i64 0, .bool false]) (cs := #[.int .i64 0, .int .i64 0, .bool false]) rfl (by kernel_rfl) rfl HS ?_)
  intro b4 W5 HS6
  refine wpList_nil ?_
  refine hK3 _ _ ?_
  refine wp_seq_k (fun K8 hK9 => ?_)
  refine wp_region_lit ?_
  have hq_ := bind_some h; clear h; obtain ⟨vt10, hc11, h⟩ := hq_
  refine seqL2 (by kernel_rfl) ?_
  refine seqK rfl (does_call (f := 23) (args := #[.int .i64 v1, .int .i64 v1]) (by kernel_rfl) (bound_Of_Light.calls k v1 v1 HS6 vt10 hc11) ?_)
  rintro _ W14 ⟨f12, rfl, L13, HS15⟩
  refine ⟨_, rfl, ?_⟩
  refine seqK rfl (does_store (n := 3) (vs := [.int .i64 vt10.Lo, .int .i64 vt10.Hi, .bool vt10.Unknown]) (cs' := #[.int .i64 vt10.Lo, .int .i64 vt10.Hi, .bool vt10.Unknown]) rfl (by kernel_rfl) (by kernel_rfl : _ = Value.pointer (some ⟨b4, 0, none⟩)) (by kernel_rfl : _ = Value.agg #[.int .i64 vt10.Lo, .int .i64 vt10.Hi, .bool vt10.Unknown]) rfl rfl (by intro u_ hu_; simp only [List.mem_cons, List.not_mem_nil, or_false] at hu_; rcases hu_ with rfl | rfl | rfl <;> rfl) HS15 (Nat.le_of_ble_eq_true rfl) (by kernel_rfl) ?_)
  intro W16 HS17
  refine wpList_nil ?_
  refine hK9 _ _ ?_
  refine wp_ret ?_
  refine hret _ _ ?_
  refine ends (v := Value.agg #[.int .i64 vt10.Lo, .int .i64 vt10.Hi, .bool vt10.Unknown]) (results1 (q1 := .cell 2 54) (by kernel_rfl) (resN (n := 3) (cs := [.int .i64 vt10.Lo, .int .i64 vt10.Hi, .bool vt10.Unknown]) (by kernel_rfl : _ = Value.pointer (some ⟨b4, 0, none⟩)) Try.underlying54 rfl (by kernel_rfl) rfl (HS17.cells 0 3 _ rfl))) (by kernel_rfl) ?_
  have HS18 := HS17.drop
  injection h with h
  subst h
  exact ⟨f12, rfl, L13, HS18⟩

set_option maxRecDepth 100000 in
set_option maxHeartbeats 4000000 in
theorem bound_vague_Light.calls (k : Nat)  (a1 : S_Bound) (b2 : S_Bound) {t w : World} {f : FM} {H : List Seg} (HS : St t w f (H)) (r1 : Bool) (h : bound_vague_Light k a1 b2 = some r1) :
    Calls Try.prog 108 #[.agg #[.int .i64 a1.Lo, .int .i64 a1.Hi, .bool a1.Unknown], .agg #[.int .i64 b2.Lo, .int .i64 b2.Hi, .bool b2.Unknown]] w (fun e w' => ∃ (g : FM), e = .returned (Value.bool r1) ∧ FM.le f g ∧ St t w' g (H)) := by
  unfold bound_vague_Light at h
  refine enter Try.func108 rfl (tm := #[.agg #[.int .i64 a1.Lo, .int .i64 a1.Hi, .bool a1.Unknown], .agg #[.int .i64 b2.Lo, .int .i64 b2.Hi, .bool b2.Unknown], undef, undef, undef, undef, undef, undef, undef, undef, undef, undef, undef]) (by kernel_rfl) ?_
  intro B hret hnor hnp
  refine wp_seq_k (fun K3 hK4 => ?_)
  refine wp_region_lit ?_
  refine seqK rfl (does_box (cs := #[.int .i64 a1.Lo, .int .i64 a1.Hi, .bool a1.Unknown]) rfl (by kernel_rfl : _ = Value.agg #[.int .i64 a1.Lo, .int .i64 a1.Hi, .bool a1.Unknown]) rfl HS ?_)
  intro b5 W6 HS7
  refine seqK rfl (does_box (cs := #[.int .i64 b2.Lo, .int .i64 b2.Hi, .bool b2.Unknown]) rfl (by kernel_rfl : _ = Value.agg #[.int .i64 b2.Lo, .int .i64 b2.Hi, .bool b2.Unknown]) rfl HS7 ?_)
  intro b9 W10 HS11
  refine seqS1 (a' := ⟨#[.agg #[.int .i64 a1.Lo, .int .i64 a1.Hi, .bool a1.Unknown], .agg #[.int .i64 b2.Lo, .int .i64 b2.Hi, .bool b2.Unknown], .pointer (some ⟨b5, 0, none⟩), .pointer (some ⟨b9, 0, none⟩), .bool false, undef, undef, undef, undef, undef, undef, undef, undef], []⟩) (by kernel_rfl) ?_
  refine wpList_nil ?_
  refine hK4 _ _ ?_
  refine wp_seq_k (fun K13 hK14 => ?_)
  refine wp_region_lit ?_
  refine seqK rfl (does_run (run_loadN (n := 3) rfl Try.underlying54 rfl (by kernel_rfl) (by kernel_rfl : _ = Value.pointer (some ⟨b5, 0, none⟩)) (cs := [.int .i64 a1.Lo, .int .i64 a1.Hi, .bool a1.Unknown]) rfl (HS11.u1.cells 0 3 _ rfl)) ?_)
  have hq_ := bind_some h; clear h; obtain ⟨vt15, hc16, h⟩ := hq_
  refine seqK rfl (does_call (f := 46) (args := #[.agg #[.int .i64 a1.Lo, .int .i64 a1.Hi, .bool a1.Unknown]]) (by kernel_rfl) (bound_Norm_Light.calls k a1 HS11 vt15 hc16) ?_)
  rintro _ W19 ⟨f17, rfl, L18, HS20⟩
  refine ⟨_, rfl, ?_⟩
  refine seqS2 (a' := ⟨#[.agg #[.int .i64 a1.Lo, .int .i64 a1.Hi, .bool a1.Unknown], .agg #[.int .i64 b2.Lo, .int .i64 b2.Hi, .bool b2.Unknown], .pointer (some ⟨b5, 0, none⟩), .pointer (some ⟨b9, 0, none⟩), .bool false, .agg #[.int .i64 a1.Lo, .int .i64 a1.Hi, .bool a1.Unknown], .agg #[.int .i64 vt15.Lo, .int .i64 vt15.Hi, .bool vt15.Unknown], .bool vt15.Unknown, .bool vt15.Unknown, undef, undef, undef, undef], []⟩) (by kernel_rfl) ?_
  have hq_ := ite_some h; clear h; rcases hq_ with ⟨c21, h⟩ | ⟨c21, h⟩
  · have c21 : vt15.Unknown = true := c21
    refine seqRwI 7 (x := vt15.Unknown) (v := true) (by kernel_rfl) c21 ?_
    refine seqRwI 8 (x := vt15.Unknown) (v := true) (by kernel_rfl) c21 ?_
    refine seqS5 (a' := ⟨#[.agg #[.int .i64 a1.Lo, .int .i64 a1.Hi, .bool a1.Unknown], .agg #[.int .i64 b2.Lo, .int .i64 b2.Hi, .bool b2.Unknown], .pointer (some ⟨b5, 0, none⟩), .pointer (some ⟨b9, 0, none⟩), .bool true, .agg #[.int .i64 a1.Lo, .int .i64 a1.Hi, .bool a1.Unknown], .agg #[.int .i64 vt15.Lo, .int .i64 vt15.Hi, .bool vt15.Unknown], .bool true, .bool true, undef, undef, undef, .bool true], []⟩) (by kernel_rfl) ?_
    refine wpList_nil ?_
    refine hK14 _ _ ?_
    refine wp_ret ?_
    refine hret _ _ ?_
    refine ends_still (v := Value.bool true) (by kernel_rfl) (by kernel_rfl) ?_
    have HS28 := HS20.drop
    have HS29 := HS28.drop
    injection h with h
    subst h
    exact ⟨f17, rfl, L18, HS29⟩
  · have c21 : ¬ (vt15.Unknown = true) := c21
    refine seqRwI 7 (x := vt15.Unknown) (v := false) (by kernel_rfl) (Bool.eq_false_iff.mpr c21) ?_
    refine seqRwI 8 (x := vt15.Unknown) (v := false) (by kernel_rfl) (Bool.eq_false_iff.mpr c21) ?_
    refine seqG (by kernel_rfl) (does_run (run_loadN (n := 3) rfl Try.underlying54 rfl (by kernel_rfl) (by kernel_rfl : _ = Value.pointer (some ⟨b9, 0, none⟩)) (cs := [.int .i64 b2.Lo, .int .i64 b2.Hi, .bool b2.Unknown]) rfl (HS20.cells 0 3 _ rfl)) ?_)
    have hq_ := bind_some h; clear h; obtain ⟨vt22, hc23, h⟩ := hq_
    refine seqG (by kernel_rfl) (does_call (f := 46) (args := #[.agg #[.int .i64 b2.Lo, .int .i64 b2.Hi, .bool b2.Unknown]]) (by kernel_rfl) (bound_Norm_Light.calls k b2 HS20 vt22 hc23) ?_)
    rintro _ W26 ⟨f24, rfl, L25, HS27⟩
    refine ⟨_, rfl, ?_⟩
    refine seqS3 (a' := ⟨#[.agg #[.int .i64 a1.Lo, .int .i64 a1.Hi, .bool a1.Unknown], .agg #[.int .i64 b2.Lo, .int .i64 b2.Hi, .bool b2.Unknown], .pointer (some ⟨b5, 0, none⟩), .pointer (some ⟨b9, 0, none⟩), .bool vt22.Unknown, .agg #[.int .i64 a1.Lo, .int .i64 a1.Hi, .bool a1.Unknown], .agg #[.int .i64 vt15.Lo, .int .i64 vt15.Hi, .bool vt15.Unknown], .bool false, .bool false, .agg #[.int .i64 b2.Lo, .int .i64 b2.Hi, .bool b2.Unknown], .agg #[.int .i64 vt22.Lo, .int .i64 vt22.Hi, .bool vt22.Unknown], .bool vt22.Unknown, .bool vt22.Unknown], []⟩) (by kernel_rfl) ?_
    refine wpList_nil ?_
    refine hK14 _ _ ?_
    refine wp_ret ?_
    refine hret _ _ ?_
    refine ends_still (v := Value.bool vt22.Unknown) (by kernel_rfl) (by kernel_rfl) ?_
    have HS30 := HS27.drop
    have HS31 := HS30.drop
    injection h with h
    subst h
    exact ⟨f24, rfl, (L18.trans L25), HS31⟩

set_option maxRecDepth 100000 in
set_option maxHeartbeats 4000000 in
theorem num_size.calls (k : Nat)  (a1 : Int) {t w : World} {f : FM} {H : List Seg} (HS : St t w f (H)) (r1 : Int) (h : num_size k a1 = some r1) :
    Calls Try.prog 112 #[.int .i64 a1] w (fun e w' => ∃ (g : FM), e = .returned (Value.int .u64 r1) ∧ FM.le f g ∧ St t w' g (H)) := by
  unfold num_size at h
  refine enter Try.func112 rfl (tm := #[.int .i64 a1, undef, undef, undef, undef, undef, undef, undef, undef, undef]) (by kernel_rfl) ?_
  intro B hret hnor hnp
  refine wp_seq_k (fun K2 hK3 => ?_)
  refine wp_region_lit ?_
  refine seqS1 (a' := ⟨#[.int .i64 a1, undef, .int .u64 0, undef, undef, undef, undef, undef, undef, undef], []⟩) (by kernel_rfl) ?_
  refine wpList_nil ?_
  refine hK3 _ _ ?_
  refine wp_seq_k (fun K4 hK5 => ?_)
  refine wp_seq_k (fun K6 hK7 => ?_)
  refine wp_region_lit ?_
  refine seqS2 (a' := ⟨#[.int .i64 a1, undef, .int .u64 0, .int .i64 a1, .bool (decide (a1 < 0)), undef, undef, undef, undef, undef], []⟩) (by kernel_rfl) ?_
  refine wpList_nil ?_
  refine hK7 _ _ ?_
  have hq_ := ite_some h; clear h; rcases hq_ with ⟨c9, h⟩ | ⟨c9, h⟩
  · have c9 : a1 < 0 := c9
    refine wpRwI 4 (x := (decide (a1 < 0))) (v := true) (by kernel_rfl) (decide_eq_true c9) ?_
    refine condT (by kernel_rfl) ?_
    refine wp_seq_k (fun K10 hK11 => ?_)
    refine wp_region_lit ?_
    refine seqS4 (a' := ⟨#[.int .i64 a1, undef, .int .u64 (u64 (0 - (u64 (a1)))), .int .i64 a1, .bool true, .int .i64 a1, .int .u64 (u64 (a1)), .int .u64 (u64 (0 - (u64 (a1)))), undef, undef], []⟩) (by kernel_rfl) ?_
    refine wpList_nil ?_
    refine hK11 _ _ ?_
    refine wp_ret ?_
    refine hret _ _ ?_
    refine ends_still (v := Value.int .u64 (u64 (0 - (u64 (a1))))) (by kernel_rfl) (by kernel_rfl) ?_
    injection h with h
    subst h
    exact ⟨f, rfl, FM.le.refl _, HS⟩
  · have c9 : ¬ (a1 < 0) := c9
    refine wpRwI 4 (x := (decide (a1 < 0))) (v := false) (by kernel_rfl) (decide_eq_false c9) ?_
    refine condF (by kernel_rfl) ?_
    refine wp_skip ?_
    refine hK5 _ _ ?_
    refine wp_seq_k (fun K12 hK13 => ?_)
    refine wp_region_lit ?_
    refine seqS3 (a' := ⟨#[.int .i64 a1, undef, .int .u64 (u64 (a1)), .int .i64 a1, .bool false, undef, undef, undef, .int .i64 a1, .int .u64 (u64 (a1))], []⟩) (by kernel_rfl) ?_
    refine wpList_nil ?_
    refine hK13 _ _ ?_
    refine wp_ret ?_
    refine hret _ _ ?_
    refine ends_still (v := Value.int .u64 (u64 (a1))) (by kernel_rfl) (by kernel_rfl) ?_
    injection h with h
    subst h
    exact ⟨f, rfl, FM.le.refl _, HS⟩

set_option maxRecDepth 100000 in
set_option maxHeartbeats 4000000 in
theorem num_Wide_Neg.calls (k : Nat)  (vw1 : S_Wide) {t w : World} {f : FM} {H : List Seg} (HS : St t w f (H)) (r1 : S_Wide) (h : num_Wide_Neg k vw1 = some r1) :
    Calls Try.prog 113 #[.agg #[.int .i64 vw1.Hi, .int .u64 vw1.Lo]] w (fun e w' => ∃ (g : FM), e = .returned (Value.agg #[.int .i64 r1.Hi, .int .u64 r1.Lo]) ∧ FM.le f g ∧ St t w' g (H)) := by
  unfold num_Wide_Neg at h
  refine enter Try.func113 rfl (tm := #[.agg #[.int .i64 vw1.Hi, .int .u64 vw1.Lo], undef, undef, undef, undef, undef, undef, undef, undef, undef, undef, undef, undef, undef, undef, undef, undef, undef, undef, undef, undef, undef, undef, undef, undef, undef, undef]) (by kernel_rfl) ?_
  intro B hret hnor hnp
  refine wp_seq_k (fun K2 hK3 => ?_)
  refine wp_region_lit ?_
  refine seqK rfl (does_box (cs := #[.int .i64 vw1.Hi, .int .u64 vw1.Lo]) rfl (by kernel_rfl : _ = Value.agg #[.int .i64 vw1.Hi, .int .u64 vw1.Lo]) rfl HS ?_)
  intro b4 W5 HS6
  refine seqK rfl (does_alloc (z := Value.agg #[.int .i64 0, .int .u64 0]) (cs := #[.int .i64 0, .int .u64 0]) rfl (by kernel_rfl) rfl HS6 ?_)
  intro b8 W9 HS10
  refine wpList_nil ?_
  refine hK3 _ _ ?_
  refine wp_seq_k (fun K12 hK13 => ?_)
  refine wp_region_lit ?_
  refine seqL1 (by kernel_rfl) ?_
  refine seqK rfl (does_run (run_load rfl Try.underlying61 rfl (by kernel_rfl : _ = Value.pointer (some ⟨b4, 1, none⟩)) (HS10.u1.cell 1)) ?_)
  have hq_ := guard_some h; clear h; obtain ⟨c14, h⟩ := hq_
  have c14 : 0 ≤ (Go.bits .xor .u64 IntKind.u64.max vw1.Lo) := c14
  refine seqL1 (by kernel_rfl) ?_
  refine seqK rfl (does_run (run_add64op (x := Go.bits .xor .u64 IntKind.u64.max vw1.Lo) (y := 1) (c := 0) (by kernel_rfl) Try.func132 (by kernel_rfl) (by kernel_rfl) (by kernel_rfl) (by kernel_rfl) c14 (by decide) (by decide) (by decide) W9) ?_)
  refine seqS5 (a' := ⟨#[.agg #[.int .i64 vw1.Hi, .int .u64 vw1.Lo], .pointer (some ⟨b4, 0, none⟩), .pointer (some ⟨b8, 0, none⟩), .int .u64 (((Go.bits .xor .u64 IntKind.u64.max vw1.Lo) + 1 + 0) % 18446744073709551616), .int .u64 (((Go.bits .xor .u64 IntKind.u64.max vw1.Lo) + 1 + 0) / 18446744073709551616), undef, undef, .tuple #[.int .u64 (((Go.bits .xor .u64 IntKind.u64.max vw1.Lo) + 1 + 0) % 18446744073709551616), .int .u64 (((Go.bits .xor .u64 IntKind.u64.max vw1.Lo) + 1 + 0) / 18446744073709551616)], .pointer (some ⟨b4, 1, none⟩), .int .u64 vw1.Lo, .int .u64 (Go.bits .xor .u64 IntKind.u64.max vw1.Lo), .tuple #[.int .u64 (((Go.bits .xor .u64 IntKind.u64.max vw1.Lo) + 1 + 0) % 18446744073709551616), .int .u64 (((Go.bits .xor .u64 IntKind.u64.max vw1.Lo) + 1 + 0) / 18446744073709551616)], .int .u64 (((Go.bits .xor .u64 IntKind.u64.max vw1.Lo) + 1 + 0) % 18446744073709551616), .int .u64 (((Go.bits .xor .u64 IntKind.u64.max vw1.Lo) + 1 + 0) / 18446744073709551616), undef, undef, undef, undef, undef, undef, undef, undef, undef, undef, undef, undef, undef], []⟩) (by kernel_rfl) ?_
  refine wpList_nil ?_
  refine hK13 _ _ ?_
  refine wp_seq_k (fun K15 hK16 => ?_)
  refine wp_region_lit ?_
  refine seqL1 (by kernel_rfl) ?_
  refine seqK rfl (does_run (run_load rfl Try.underlying2 rfl (by kernel_rfl : _ = Value.pointer (some ⟨b4, 0, none⟩)) (HS10.u1.cell 0)) ?_)
  have hq_ := guard_some h; clear h; obtain ⟨c17, h⟩ := hq_
  have c17 : 0 ≤ (Go.bits .xor .u64 IntKind.u64.max (u64 (vw1.Hi))) := c17
  have hq_ := guard_some h; clear h; obtain ⟨c18, h⟩ := hq_
  have c18 : 0 ≤ (((Go.bits .xor .u64 IntKind.u64.max vw1.Lo) + 1 + 0) / 18446744073709551616) := c18
  have hq_ := guard_some h; clear h; obtain ⟨c19, h⟩ := hq_
  have c19 : (((Go.bits .xor .u64 IntKind.u64.max vw1.Lo) + 1 + 0) / 18446744073709551616) ≤ 1 := c19
  refine seqL3 (by kernel_rfl) ?_
  refine seqK rfl (does_run (run_add64op (x := Go.bits .xor .u64 IntKind.u64.max (u64 (vw1.Hi))) (y := 0) (c := ((Go.bits .xor .u64 IntKind.u64.max vw1.Lo) + 1 + 0) / 18446744073709551616) (by kernel_rfl) Try.func132 (by kernel_rfl) (by kernel_rfl) (by kernel_rfl) (by kernel_rfl) c17 (by decide) c18 c19 W9) ?_)
  refine seqS5 (a' := ⟨#[.agg #[.int .i64 vw1.Hi, .int .u64 vw1.Lo], .pointer (some ⟨b4, 0, none⟩), .pointer (some ⟨b8, 0, none⟩), .int .u64 (((Go.bits .xor .u64 IntKind.u64.max vw1.Lo) + 1 + 0) % 18446744073709551616), .int .u64 (((Go.bits .xor .u64 IntKind.u64.max vw1.Lo) + 1 + 0) / 18446744073709551616), .int .u64 (((Go.bits .xor .u64 IntKind.u64.max (u64 (vw1.Hi))) + 0 + (((Go.bits .xor .u64 IntKind.u64.max vw1.Lo) + 1 + 0) / 18446744073709551616)) % 18446744073709551616), .int .u64 (((Go.bits .xor .u64 IntKind.u64.max (u64 (vw1.Hi))) + 0 + (((Go.bits .xor .u64 IntKind.u64.max vw1.Lo) + 1 + 0) / 18446744073709551616)) / 18446744073709551616), .tuple #[.int .u64 (((Go.bits .xor .u64 IntKind.u64.max vw1.Lo) + 1 + 0) % 18446744073709551616), .int .u64 (((Go.bits .xor .u64 IntKind.u64.max vw1.Lo) + 1 + 0) / 18446744073709551616)], .pointer (some ⟨b4, 1, none⟩), .int .u64 vw1.Lo, .int .u64 (Go.bits .xor .u64 IntKind.u64.max vw1.Lo), .tuple #[.int .u64 (((Go.bits .xor .u64 IntKind.u64.max vw1.Lo) + 1 + 0) % 18446744073709551616), .int .u64 (((Go.bits .xor .u64 IntKind.u64.max vw1.Lo) + 1 + 0) / 18446744073709551616)], .int .u64 (((Go.bits .xor .u64 IntKind.u64.max vw1.Lo) + 1 + 0) % 18446744073709551616), .int .u64 (((Go.bits .xor .u64 IntKind.u64.max vw1.Lo) + 1 + 0) / 18446744073709551616), .tuple #[.int .u64 (((Go.bits .xor .u64 IntKind.u64.max (u64 (vw1.Hi))) + 0 + (((Go.bits .xor .u64 IntKind.u64.max vw1.Lo) + 1 + 0) / 18446744073709551616)) % 18446744073709551616), .int .u64 (((Go.bits .xor .u64 IntKind.u64.max (u64 (vw1.Hi))) + 0 + (((Go.bits .xor .u64 IntKind.u64.max vw1.Lo) + 1 + 0) / 18446744073709551616)) / 18446744073709551616)], .pointer (some ⟨b4, 0, none⟩), .int .i64 vw1.Hi, .int .u64 (u64 (vw1.Hi)), .int .u64 (Go.bits .xor .u64 IntKind.u64.max (u64 (vw1.Hi))), .int .u64 (((Go.bits .xor .u64 IntKind.u64.max vw1.Lo) + 1 + 0) / 18446744073709551616), .tuple #[.int .u64 (((Go.bits .xor .u64 IntKind.u64.max (u64 (vw1.Hi))) + 0 + (((Go.bits .xor .u64 IntKind.u64.max vw1.Lo) + 1 + 0) / 18446744073709551616)) % 18446744073709551616), .int .u64 (((Go.bits .xor .u64 IntKind.u64.max (u64 (vw1.Hi))) + 0 + (((Go.bits .xor .u64 IntKind.u64.max vw1.Lo) + 1 + 0) / 18446744073709551616)) / 18446744073709551616)], .int .u64 (((Go.bits .xor .u64 IntKind.u64.max (u64 (vw1.Hi))) + 0 + (((Go.bits .xor .u64 IntKind.u64.max vw1.Lo) + 1 + 0) / 18446744073709551616)) % 18446744073709551616), .int .u64 (((Go.bits .xor .u64 IntKind.u64.max (u64 (vw1.Hi))) + 0 + (((Go.bits .xor .u64 IntKind.u64.max vw1.Lo) + 1 + 0) / 18446744073709551616)) / 18446744073709551616), undef, undef, undef, undef], []⟩) (by kernel_rfl) ?_
  refine wpList_nil ?_
  refine hK16 _ _ ?_
  refine wp_seq_k (fun K20 hK21 => ?_)
  refine wp_region_lit ?_
  refine seqL4 (by kernel_rfl) ?_
  refine seqK rfl (does_store (n := 2) (vs := [.int .i64 (w64 (((Go.bits .xor .u64 IntKind.u64.max (u64 (vw1.Hi))) + 0 + (((Go.bits .xor .u64 IntKind.u64.max vw1.Lo) + 1 + 0) / 18446744073709551616)) % 18446744073709551616)), .int .u64 (((Go.bits .xor .u64 IntKind.u64.max vw1.Lo) + 1 + 0) % 18446744073709551616)]) (cs' := #[.int .i64 (w64 (((Go.bits .xor .u64 IntKind.u64.max (u64 (vw1.Hi))) + 0 + (((Go.bits .xor .u64 IntKind.u64.max vw1.Lo) + 1 + 0) / 18446744073709551616)) % 18446744073709551616)), .int .u64 (((Go.bits .xor .u64 IntKind.u64.max vw1.Lo) + 1 + 0) % 18446744073709551616)]) rfl (by kernel_rfl) (by kernel_rfl : _ = Value.pointer (some ⟨b8, 0, none⟩)) (by kernel_rfl : _ = Value.agg #[.int .i64 (w64 (((Go.bits .xor .u64 IntKind.u64.max (u64 (vw1.Hi))) + 0 + (((Go.bits .xor .u64 IntKind.u64.max vw1.Lo) + 1 + 0) / 18446744073709551616)) % 18446744073709551616)), .int .u64 (((Go.bits .xor .u64 IntKind.u64.max vw1.Lo) + 1 + 0) % 18446744073709551616)]) rfl rfl (by intro u_ hu_; simp only [List.mem_cons, List.not_mem_nil, or_false] at hu_; rcases hu_ with rfl | rfl <;> rfl) HS10 (Nat.le_of_ble_eq_true rfl) (by kernel_rfl) ?_)
  intro W22 HS23
  refine wpList_nil ?_
  refine hK21 _ _ ?_
  refine wp_ret ?_
  refine hret _ _ ?_
  refine ends (v := Value.agg #[.int .i64 (w64 (((Go.bits .xor .u64 IntKind.u64.max (u64 (vw1.Hi))) + 0 + (((Go.bits .xor .u64 IntKind.u64.max vw1.Lo) + 1 + 0) / 18446744073709551616)) % 18446744073709551616)), .int .u64 (((Go.bits .xor .u64 IntKind.u64.max vw1.Lo) + 1 + 0) % 18446744073709551616)]) (results1 (q1 := .cell 2 126) (by kernel_rfl) (resN (n := 2) (cs := [.int .i64 (w64 (((Go.bits .xor .u64 IntKind.u64.max (u64 (vw1.Hi))) + 0 + (((Go.bits .xor .u64 IntKind.u64.max vw1.Lo) + 1 + 0) / 18446744073709551616)) % 18446744073709551616)), .int .u64 (((Go.bits .xor .u64 IntKind.u64.max vw1.Lo) + 1 + 0) % 18446744073709551616)]) (by kernel_rfl : _ = Value.pointer (some ⟨b8, 0, none⟩)) Try.underlying126 rfl (by kernel_rfl) rfl (HS23.cells 0 2 _ rfl))) (by kernel_rfl) ?_
  have HS24 := HS23.drop
  have HS25 := HS24.drop
  injection h with h
  subst h
  exact ⟨f, rfl, FM.le.refl _, HS25⟩

set_option maxRecDepth 100000 in
set_option maxHeartbeats 4000000 in
theorem num_Product.calls (k : Nat)  (a1 : Int) (b2 : Int) {t w : World} {f : FM} {H : List Seg} (HS : St t w f (H)) (r1 : S_Wide) (h : num_Product k a1 b2 = some r1) :
    Calls Try.prog 90 #[.int .i64 a1, .int .i64 b2] w (fun e w' => ∃ (g : FM), e = .returned (Value.agg #[.int .i64 r1.Hi, .int .u64 r1.Lo]) ∧ FM.le f g ∧ St t w' g (H)) := by
  unfold num_Product at h
  refine enter Try.func90 rfl (tm := #[.int .i64 a1, .int .i64 b2, undef, undef, undef, undef, undef, undef, undef, undef, undef, undef, undef, undef, undef, undef, undef, undef, undef, undef, undef, undef, undef, undef, undef, undef, undef, undef]) (by kernel_rfl) ?_
  intro B hret hnor hnp
  refine wp_seq_k (fun K3 hK4 => ?_)
  refine wp_region_lit ?_
  refine seqK rfl (does_alloc (z := Value.agg #[.int .i64 0, .int .u64 0]) (cs := #[.int .i64 0, .int .u64 0]) rfl (by kernel_rfl) rfl HS ?_)
  intro b5 W6 HS7
  refine wpList_nil ?_
  refine hK4 _ _ ?_
  refine wp_seq_k (fun K9 hK10 => ?_)
  refine wp_region_lit ?_
  have hq_ := bind_some h; clear h; obtain ⟨vt11, hc12, h⟩ := hq_
  refine seqL1 (by kernel_rfl) ?_
  refine seqK rfl (does_call (f := 112) (args := #[.int .i64 a1]) (by kernel_rfl) (num_size.calls k a1 HS7 vt11 hc12) ?_)
  rintro _ W15 ⟨f13, rfl, L14, HS16⟩
  refine ⟨_, rfl, ?_⟩
  have hq_ := bind_some h; clear h; obtain ⟨vt17, hc18, h⟩ := hq_
  refine seqL1 (by kernel_rfl) ?_
  refine seqK rfl (does_call (f := 112) (args := #[.int .i64 b2]) (by kernel_rfl) (num_size.calls k b2 HS16 vt17 hc18) ?_)
  rintro _ W21 ⟨f19, rfl, L20, HS22⟩
  refine ⟨_, rfl, ?_⟩
  have hq_ := bind_some h; clear h; obtain ⟨⟨vt23, vt24⟩, hc25, h⟩ := hq_
  refine seqK rfl (does_call (f := 97) (args := #[.int .u64 vt11, .int .u64 vt17]) (by kernel_rfl) (bits_Mul64.calls k vt11 vt17 HS22 vt23 vt24 hc25) ?_)
  rintro _ W28 ⟨f26, rfl, L27, HS29⟩
  refine ⟨_, rfl, ?_⟩
  refine seqS5 (a' := ⟨#[.int .i64 a1, .int .i64 b2, undef, undef, .pointer (some ⟨b5, 0, none⟩), .int .u64 vt23, .int .u64 vt24, undef, .tuple #[.int .u64 vt23, .int .u64 vt24], .int .i64 a1, .int .u64 vt11, .int .i64 b2, .int .u64 vt17, .tuple #[.int .u64 vt23, .int .u64 vt24], .int .u64 vt23, .int .u64 vt24, undef, undef, undef, undef, undef, undef, undef, undef, undef, undef, undef, undef], []⟩) (by kernel_rfl) ?_
  refine wpList_nil ?_
  refine hK10 _ _ ?_
  refine wp_seq_k (fun K30 hK31 => ?_)
  refine wp_region_lit ?_
  refine seqL4 (by kernel_rfl) ?_
  refine seqK rfl (does_alloc (z := Value.agg #[.int .i64 0, .int .u64 0]) (cs := #[.int .i64 0, .int .u64 0]) rfl (by kernel_rfl) rfl HS29 ?_)
  intro b32 W33 HS34
  refine seqK rfl (does_store (n := 2) (vs := [.int .i64 (w64 (vt23)), .int .u64 vt24]) (cs' := #[.int .i64 (w64 (vt23)), .int .u64 vt24]) rfl (by kernel_rfl) (by kernel_rfl : _ = Value.pointer (some ⟨b32, 0, none⟩)) (by kernel_rfl : _ = Value.agg #[.int .i64 (w64 (vt23)), .int .u64 vt24]) rfl rfl (by intro u_ hu_; simp only [List.mem_cons, List.not_mem_nil, or_false] at hu_; rcases hu_ with rfl | rfl <;> rfl) HS34 (Nat.le_of_ble_eq_true rfl) (by kernel_rfl) ?_)
  intro W36 HS37
  refine wpList_nil ?_
  refine hK31 _ _ ?_
  refine wp_seq_k (fun K38 hK39 => ?_)
  refine wp_seq_k (fun K40 hK41 => ?_)
  refine wp_region_lit ?_
  refine seqS5 (a' := ⟨#[.int .i64 a1, .int .i64 b2, undef, undef, .pointer (some ⟨b5, 0, none⟩), .int .u64 vt23, .int .u64 vt24, .pointer (some ⟨b32, 0, none⟩), .tuple #[.int .u64 vt23, .int .u64 vt24], .int .i64 a1, .int .u64 vt11, .int .i64 b2, .int .u64 vt17, .tuple #[.int .u64 vt23, .int .u64 vt24], .int .u64 vt23, .int .u64 vt24, .int .u64 vt23, .int .i64 (w64 (vt23)), .int .u64 vt24, .agg #[.int .i64 (w64 (vt23)), .int .u64 vt24], .int .i64 a1, .bool (decide (a1 < 0)), .int .i64 b2, .bool (decide (b2 < 0)), .bool ((decide (a1 < 0)) != (decide (b2 < 0))), undef, undef, undef], []⟩) (by kernel_rfl) ?_
  refine wpList_nil ?_
  refine hK41 _ _ ?_
  have hq_ := ite_some h; clear h; rcases hq_ with ⟨c43, h⟩ | ⟨c43, h⟩
  · have c43 : ((decide (a1 < 0)) != (decide (b2 < 0))) = true := c43
    refine wpRwI 24 (x := ((decide (a1 < 0)) != (decide (b2 < 0)))) (v := true) (by kernel_rfl) c43 ?_
    refine condT (by kernel_rfl) ?_
    refine wp_seq_k (fun K44 hK45 => ?_)
    refine wp_region_lit ?_
    refine seqK rfl (does_run (run_loadN (n := 2) rfl Try.underlying126 rfl (by kernel_rfl) (by kernel_rfl : _ = Value.pointer (some ⟨b32, 0, none⟩)) (cs := [.int .i64 (w64 (vt23)), .int .u64 vt24]) rfl (HS37.cells 0 2 _ rfl)) ?_)
    have hq_ := bind_some h; clear h; obtain ⟨vt46, hc47, h⟩ := hq_
    refine seqK rfl (does_call (f := 113) (args := #[.agg #[.int .i64 (w64 (vt23)), .int .u64 vt24]]) (by kernel_rfl) (num_Wide_Neg.calls k (⟨w64 (vt23), vt24⟩ : S_Wide) HS37 vt46 hc47) ?_)
    rintro _ W50 ⟨f48, rfl, L49, HS51⟩
    refine ⟨_, rfl, ?_⟩
    have HS52 := HS51.u1
    refine seqK rfl (does_store (n := 2) (vs := [.int .i64 vt46.Hi, .int .u64 vt46.Lo]) (cs' := #[.int .i64 vt46.Hi, .int .u64 vt46.Lo]) rfl (by kernel_rfl) (by kernel_rfl : _ = Value.pointer (some ⟨b5, 0, none⟩)) (by kernel_rfl : _ = Value.agg #[.int .i64 vt46.Hi, .int .u64 vt46.Lo]) rfl rfl (by intro u_ hu_; simp only [List.mem_cons, List.not_mem_nil, or_false] at hu_; rcases hu_ with rfl | rfl <;> rfl) HS52 (Nat.le_of_ble_eq_true rfl) (by kernel_rfl) ?_)
    intro W53 HS54
    refine wpList_nil ?_
    refine hK45 _ _ ?_
    refine wp_ret ?_
    refine hret _ _ ?_
    refine ends (v := Value.agg #[.int .i64 vt46.Hi, .int .u64 vt46.Lo]) (results1 (q1 := .cell 4 126) (by kernel_rfl) (resN (n := 2) (cs := [.int .i64 vt46.Hi, .int .u64 vt46.Lo]) (by kernel_rfl : _ = Value.pointer (some ⟨b5, 0, none⟩)) Try.underlying126 rfl (by kernel_rfl) rfl (HS54.cells 0 2 _ rfl))) (by kernel_rfl) ?_
    have HS60 := HS54.drop
    have HS61 := HS60.drop
    injection h with h
    subst h
    exact ⟨f48, rfl, (L14.trans (L20.trans (L27.trans L49))), HS61⟩
  · have c43 : ¬ (((decide (a1 < 0)) != (decide (b2 < 0))) = true) := c43
    refine wpRwI 24 (x := ((decide (a1 < 0)) != (decide (b2 < 0)))) (v := false) (by kernel_rfl) (Bool.eq_false_iff.mpr c43) ?_
    refine condF (by kernel_rfl) ?_
    refine wp_skip ?_
    refine hK39 _ _ ?_
    refine wp_seq_k (fun K55 hK56 => ?_)
    refine wp_region_lit ?_
    refine seqK rfl (does_run (run_loadN (n := 2) rfl Try.underlying126 rfl (by kernel_rfl) (by kernel_rfl : _ = Value.pointer (some ⟨b32, 0, none⟩)) (cs := [.int .i64 (w64 (vt23)), .int .u64 vt24]) rfl (HS37.cells 0 2 _ rfl)) ?_)
    have HS57 := HS37.u1
    refine seqK rfl (does_store (n := 2) (vs := [.int .i64 (w64 (vt23)), .int .u64 vt24]) (cs' := #[.int .i64 (w64 (vt23)), .int .u64 vt24]) rfl (by kernel_rfl) (by kernel_rfl : _ = Value.pointer (some ⟨b5, 0, none⟩)) (by kernel_rfl : _ = Value.agg #[.int .i64 (w64 (vt23)), .int .u64 vt24]) rfl rfl (by intro u_ hu_; simp only [List.mem_cons, List.not_mem_nil, or_false] at hu_; rcases hu_ with rfl | rfl <;> rfl) HS57 (Nat.le_of_ble_eq_true rfl) (by kernel_rfl) ?_)
    intro W58 HS59
    refine wpList_nil ?_
    refine hK56 _ _ ?_
    refine wp_ret ?_
    refine hret _ _ ?_
    refine ends (v := Value.agg #[.int .i64 (w64 (vt23)), .int .u64 vt24]) (results1 (q1 := .cell 4 126) (by kernel_rfl) (resN (n := 2) (cs := [.int .i64 (w64 (vt23)), .int .u64 vt24]) (by kernel_rfl : _ = Value.pointer (some ⟨b5, 0, none⟩)) Try.underlying126 rfl (by kernel_rfl) rfl (HS59.cells 0 2 _ rfl))) (by kernel_rfl) ?_
    have HS62 := HS59.drop
    have HS63 := HS62.drop
    injection h with h
    subst h
    exact ⟨f26, rfl, (L14.trans (L20.trans L27)), HS63⟩

set_option maxRecDepth 100000 in
set_option maxHeartbeats 4000000 in
theorem bits_Len64.calls (k : Nat)  (x1 : Int) {t w : World} {f : FM} {H : List Seg} (HS : St t w f (H)) (r1 : Int) (h : bits_Len64 k x1 = some r1) :
    Calls Try.prog 129 #[.int .u64 x1] w (fun e w' => ∃ (g : FM), e = .returned (Value.int .i64 r1) ∧ FM.le f g ∧ St t w' g (H)) := by
  unfold bits_Len64 at h
  refine enter Try.func129 rfl (tm := #[.int .u64 x1, undef, undef, undef, undef, undef, undef, undef, undef, undef, undef, undef, undef, undef, undef, undef, undef, undef, undef, undef, undef, undef, undef, undef, undef]) (by kernel_rfl) ?_
  intro B hret hnor hnp
  refine wp_seq_k (fun K2 hK3 => ?_)
  refine wp_region_lit ?_
  refine seqS1 (a' := ⟨#[.int .u64 x1, undef, .int .i64 0, undef, undef, undef, undef, undef, undef, undef, undef, undef, undef, undef, undef, undef, undef, undef, undef, undef, undef, undef, undef, undef, undef], []⟩) (by kernel_rfl) ?_
  refine wpList_nil ?_
  refine hK3 _ _ ?_
  refine wp_seq_k (fun K4 hK5 => ?_)
  refine wp_seq_k (fun K6 hK7 => ?_)
  refine wp_region_lit ?_
  refine seqS2 (a' := ⟨#[.int .u64 x1, undef, .int .i64 0, .int .u64 x1, .bool (decide (x1 ≥ 4294967296)), undef, undef, undef, undef, undef, undef, undef, undef, undef, undef, undef, undef, undef, undef, undef, undef, undef, undef, undef, undef], []⟩) (by kernel_rfl) ?_
  refine wpList_nil ?_
  refine hK7 _ _ ?_
  have hq_ := bind_some h; clear h; obtain ⟨v8, hv19, h⟩ := hq_
  have J20 : ∀ (f12 : FM) (x17 : Int) (n18 : Int) (j16 : Nat → Value) (W14 : World) (a_ : Act), FM.le f f12 → some ((x17, n18)) = some v8 → St t W14 f12 (H) → a_ = ⟨#[.int .u64 x17, undef, .int .i64 n18, .int .u64 x1, (j16 0), (j16 1), (j16 2), undef, undef, undef, undef, undef, undef, undef, undef, undef, undef, undef, undef, undef, undef, undef, undef, undef, undef], []⟩ → K4 a_ W14 := by
    intro f12 x17 n18 j16 W14 a_ L13 hj21 HS15  hfr_; subst hfr_
    injection hj21 with hj21; subst hj21; try dsimp only at h
    refine hK5 _ _ ?_
    refine wp_seq_k (fun K22 hK23 => ?_)
    refine wp_seq_k (fun K24 hK25 => ?_)
    refine wp_region_lit ?_
    refine seqS2 (a' := ⟨#[.int .u64 x17, undef, .int .i64 n18, .int .u64 x1, (j16 0), (j16 1), (j16 2), .int .u64 x17, .bool (decide (x17 ≥ 65536)), undef, undef, undef, undef, undef, undef, undef, undef, undef, undef, undef, undef, undef, undef, undef, undef], []⟩) (by kernel_rfl) ?_
    refine wpList_nil ?_
    refine hK25 _ _ ?_
    have hq_ := bind_some h; clear h; obtain ⟨v26, hv37, h⟩ := hq_
    have J38 : ∀ (f30 : FM) (x35 : Int) (n36 : Int) (j34 : Nat → Value) (W32 : World) (a_ : Act), FM.le f12 f30 → some ((x35, n36)) = some v26 → St t W32 f30 (H) → a_ = ⟨#[.int .u64 x35, undef, .int .i64 n36, .int .u64 x1, (j16 0), (j16 1), (j16 2), .int .u64 x17, (j34 0), (j34 1), (j34 2), (j34 3), (j34 4), undef, undef, undef, undef, undef, undef, undef, undef, undef, undef, undef, undef], []⟩ → K22 a_ W32 := by
      intro f30 x35 n36 j34 W32 a_ L31 hj39 HS33  hfr_; subst hfr_
      injection hj39 with hj39; subst hj39; try dsimp only at h
      refine hK23 _ _ ?_
      refine wp_seq_k (fun K40 hK41 => ?_)
      refine wp_seq_k (fun K42 hK43 => ?_)
      refine wp_region_lit ?_
      refine seqS2 (a' := ⟨#[.int .u64 x35, undef, .int .i64 n36, .int .u64 x1, (j16 0), (j16 1), (j16 2), .int .u64 x17, (j34 0), (j34 1), (j34 2), (j34 3), (j34 4), .int .u64 x35, .bool (decide (x35 ≥ 256)), undef, undef, undef, undef, undef, undef, undef, undef, undef, undef], []⟩) (by kernel_rfl) ?_
      refine wpList_nil ?_
      refine hK43 _ _ ?_
      have hq_ := ite_some h; clear h; rcases hq_ with ⟨c45, h⟩ | ⟨c45, h⟩
      · have c45 : x35 ≥ 256 := c45
        refine wpRwI 14 (x := (decide (x35 ≥ 256))) (v := true) (by kernel_rfl) (decide_eq_true c45) ?_
        refine condT (by kernel_rfl) ?_
        refine wp_seq_k (fun K46 hK47 => ?_)
        refine wp_region_lit ?_
        refine seqS3 (a' := ⟨#[.int .u64 (shr x35 8), undef, .int .i64 n36, .int .u64 x1, (j16 0), (j16 1), (j16 2), .int .u64 x17, (j34 0), (j34 1), (j34 2), (j34 3), (j34 4), .int .u64 x35, .bool true, .int .u64 x35, .int .u64 (shr x35 8), undef, undef, undef, undef, undef, undef, undef, undef], []⟩) (by kernel_rfl) ?_
        refine wpList_nil ?_
        refine hK47 _ _ ?_
        refine wp_region_lit ?_
        refine seqS3 (a' := ⟨#[.int .u64 (shr x35 8), undef, .int .i64 (w64 (n36 + 8)), .int .u64 x1, (j16 0), (j16 1), (j16 2), .int .u64 x17, (j34 0), (j34 1), (j34 2), (j34 3), (j34 4), .int .u64 x35, .bool true, .int .u64 x35, .int .u64 (shr x35 8), .int .i64 n36, .int .i64 (w64 (n36 + 8)), undef, undef, undef, undef, undef, undef], []⟩) (by kernel_rfl) ?_
        refine wpList_nil ?_
        refine hK41 _ _ ?_
        refine wp_seq_k (fun K48 hK49 => ?_)
        refine wp_region_lit ?_
        have hq_ := guard_some h; clear h; obtain ⟨c50, h⟩ := hq_
        have c50 : 0 ≤ (u8 (shr x35 8)) := c50
        have hq_ := guard_some h; clear h; obtain ⟨c51, h⟩ := hq_
        have c51 : (u8 (shr x35 8)) < (str0.size : Int) := c51
        refine seqL3 (by kernel_rfl) ?_
        refine seqK rfl (does_run (run_byte rfl Try.underlying9 (by kernel_rfl : _ = Value.string str0) (by kernel_rfl : _ = Value.int .u8 (u8 (shr x35 8))) c50 c51 W32) ?_)
        refine seqS3 (a' := ⟨#[.int .u64 (shr x35 8), undef, .int .i64 (w64 ((w64 (n36 + 8)) + (w64 ((bt str0 (u8 (shr x35 8))))))), .int .u64 x1, (j16 0), (j16 1), (j16 2), .int .u64 x17, (j34 0), (j34 1), (j34 2), (j34 3), (j34 4), .int .u64 x35, .bool true, .int .u64 x35, .int .u64 (shr x35 8), .int .i64 n36, .int .i64 (w64 (n36 + 8)), .int .i64 (w64 (n36 + 8)), .int .u64 (shr x35 8), .int .u8 (u8 (shr x35 8)), .int .u8 (bt str0 (u8 (shr x35 8))), .int .i64 (w64 ((bt str0 (u8 (shr x35 8))))), .int .i64 (w64 ((w64 (n36 + 8)) + (w64 ((bt str0 (u8 (shr x35 8)))))))], []⟩) (by kernel_rfl) ?_
        refine wpList_nil ?_
        refine hK49 _ _ ?_
        refine wp_ret ?_
        refine hret _ _ ?_
        refine ends_still (v := Value.int .i64 (w64 ((w64 (n36 + 8)) + (w64 ((bt str0 (u8 (shr x35 8)))))))) (by kernel_rfl) (by kernel_rfl) ?_
        injection h with h
        subst h
        exact ⟨f30, rfl, (L13.trans L31), HS33⟩
      · have c45 : ¬ (x35 ≥ 256) := c45
        refine wpRwI 14 (x := (decide (x35 ≥ 256))) (v := false) (by kernel_rfl) (decide_eq_false c45) ?_
        refine condF (by kernel_rfl) ?_
        refine wp_skip ?_
        refine hK41 _ _ ?_
        refine wp_seq_k (fun K52 hK53 => ?_)
        refine wp_region_lit ?_
        have hq_ := guard_some h; clear h; obtain ⟨c54, h⟩ := hq_
        have c54 : 0 ≤ (u8 (x35)) := c54
        have hq_ := guard_some h; clear h; obtain ⟨c55, h⟩ := hq_
        have c55 : (u8 (x35)) < (str0.size : Int) := c55
        refine seqL3 (by kernel_rfl) ?_
        refine seqK rfl (does_run (run_byte rfl Try.underlying9 (by kernel_rfl : _ = Value.string str0) (by kernel_rfl : _ = Value.int .u8 (u8 (x35))) c54 c55 W32) ?_)
        refine seqS3 (a' := ⟨#[.int .u64 x35, undef, .int .i64 (w64 (n36 + (w64 ((bt str0 (u8 (x35))))))), .int .u64 x1, (j16 0), (j16 1), (j16 2), .int .u64 x17, (j34 0), (j34 1), (j34 2), (j34 3), (j34 4), .int .u64 x35, .bool false, undef, undef, undef, undef, .int .i64 n36, .int .u64 x35, .int .u8 (u8 (x35)), .int .u8 (bt str0 (u8 (x35))), .int .i64 (w64 ((bt str0 (u8 (x35))))), .int .i64 (w64 (n36 + (w64 ((bt str0 (u8 (x35)))))))], []⟩) (by kernel_rfl) ?_
        refine wpList_nil ?_
        refine hK53 _ _ ?_
        refine wp_ret ?_
        refine hret _ _ ?_
        refine ends_still (v := Value.int .i64 (w64 (n36 + (w64 ((bt str0 (u8 (x35)))))))) (by kernel_rfl) (by kernel_rfl) ?_
        injection h with h
        subst h
        exact ⟨f30, rfl, (L13.trans L31), HS33⟩
    clear h; have h := hv37; clear hv37
    have hq_ := ite_some h; clear h; rcases hq_ with ⟨c27, h⟩ | ⟨c27, h⟩
    · have c27 : x17 ≥ 65536 := c27
      refine wpRwI 8 (x := (decide (x17 ≥ 65536))) (v := true) (by kernel_rfl) (decide_eq_true c27) ?_
      refine condT (by kernel_rfl) ?_
      refine wp_seq_k (fun K28 hK29 => ?_)
      refine wp_region_lit ?_
      refine seqS3 (a' := ⟨#[.int .u64 (shr x17 16), undef, .int .i64 n18, .int .u64 x1, (j16 0), (j16 1), (j16 2), .int .u64 x17, .bool true, .int .u64 x17, .int .u64 (shr x17 16), undef, undef, undef, undef, undef, undef, undef, undef, undef, undef, undef, undef, undef, undef], []⟩) (by kernel_rfl) ?_
      refine wpList_nil ?_
      refine hK29 _ _ ?_
      refine wp_region_lit ?_
      refine seqS3 (a' := ⟨#[.int .u64 (shr x17 16), undef, .int .i64 (w64 (n18 + 16)), .int .u64 x1, (j16 0), (j16 1), (j16 2), .int .u64 x17, .bool true, .int .u64 x17, .int .u64 (shr x17 16), .int .i64 n18, .int .i64 (w64 (n18 + 16)), undef, undef, undef, undef, undef, undef, undef, undef, undef, undef, undef, undef], []⟩) (by kernel_rfl) ?_
      refine wpList_nil ?_
      exact J38 f12 (shr x17 16) (w64 (n18 + 16)) (fun i_ => [Value.bool true, Value.int .u64 x17, Value.int .u64 (shr x17 16), Value.int .i64 n18, Value.int .i64 (w64 (n18 + 16))].getD i_ undef) W14 _ (FM.le.refl _) h HS15 (by kernel_rfl)
    · have c27 : ¬ (x17 ≥ 65536) := c27
      refine wpRwI 8 (x := (decide (x17 ≥ 65536))) (v := false) (by kernel_rfl) (decide_eq_false c27) ?_
      refine condF (by kernel_rfl) ?_
      refine wp_skip ?_
      exact J38 f12 x17 n18 (fun i_ => [Value.bool false, undef, undef, undef, undef].getD i_ undef) W14 _ (FM.le.refl _) h HS15 (by kernel_rfl)
  clear h; have h := hv19; clear hv19
  have hq_ := ite_some h; clear h; rcases hq_ with ⟨c9, h⟩ | ⟨c9, h⟩
  · have c9 : x1 ≥ 4294967296 := c9
    refine wpRwI 4 (x := (decide (x1 ≥ 4294967296))) (v := true) (by kernel_rfl) (decide_eq_true c9) ?_
    refine condT (by kernel_rfl) ?_
    refine wp_seq_k (fun K10 hK11 => ?_)
    refine wp_region_lit ?_
    refine seqS3 (a' := ⟨#[.int .u64 (shr x1 32), undef, .int .i64 0, .int .u64 x1, .bool true, .int .u64 x1, .int .u64 (shr x1 32), undef, undef, undef, undef, undef, undef, undef, undef, undef, undef, undef, undef, undef, undef, undef, undef, undef, undef], []⟩) (by kernel_rfl) ?_
    refine wpList_nil ?_
    refine hK11 _ _ ?_
    refine wp_region_lit ?_
    refine seqS1 (a' := ⟨#[.int .u64 (shr x1 32), undef, .int .i64 32, .int .u64 x1, .bool true, .int .u64 x1, .int .u64 (shr x1 32), undef, undef, undef, undef, undef, undef, undef, undef, undef, undef, undef, undef, undef, undef, undef, undef, undef, undef], []⟩) (by kernel_rfl) ?_
    refine wpList_nil ?_
    exact J20 f (shr x1 32) 32 (fun i_ => [Value.bool true, Value.int .u64 x1, Value.int .u64 (shr x1 32)].getD i_ undef) w _ (FM.le.refl _) h HS (by kernel_rfl)
  · have c9 : ¬ (x1 ≥ 4294967296) := c9
    refine wpRwI 4 (x := (decide (x1 ≥ 4294967296))) (v := false) (by kernel_rfl) (decide_eq_false c9) ?_
    refine condF (by kernel_rfl) ?_
    refine wp_skip ?_
    exact J20 f x1 0 (fun i_ => [Value.bool false, undef, undef].getD i_ undef) w _ (FM.le.refl _) h HS (by kernel_rfl)

set_option maxRecDepth 100000 in
set_option maxHeartbeats 4000000 in
theorem bits_LeadingZeros64.calls (k : Nat)  (x1 : Int) {t w : World} {f : FM} {H : List Seg} (HS : St t w f (H)) (r1 : Int) (h : bits_LeadingZeros64 k x1 = some r1) :
    Calls Try.prog 133 #[.int .u64 x1] w (fun e w' => ∃ (g : FM), e = .returned (Value.int .i64 r1) ∧ FM.le f g ∧ St t w' g (H)) := by
  unfold bits_LeadingZeros64 at h
  refine enter Try.func133 rfl (tm := #[.int .u64 x1, undef, undef, undef, undef, undef]) (by kernel_rfl) ?_
  intro B hret hnor hnp
  refine wp_seq_k (fun K2 hK3 => ?_)
  refine wp_region_lit ?_
  refine seqS1 (a' := ⟨#[.int .u64 x1, undef, .int .i64 0, undef, undef, undef], []⟩) (by kernel_rfl) ?_
  refine wpList_nil ?_
  refine hK3 _ _ ?_
  refine wp_seq_k (fun K4 hK5 => ?_)
  refine wp_region_lit ?_
  have hq_ := bind_some h; clear h; obtain ⟨vt6, hc7, h⟩ := hq_
  refine seqL1 (by kernel_rfl) ?_
  refine seqK rfl (does_call (f := 129) (args := #[.int .u64 x1]) (by kernel_rfl) (bits_Len64.calls k x1 HS vt6 hc7) ?_)
  rintro _ W10 ⟨f8, rfl, L9, HS11⟩
  refine ⟨_, rfl, ?_⟩
  refine seqS2 (a' := ⟨#[.int .u64 x1, undef, .int .i64 (w64 (64 - vt6)), .int .u64 x1, .int .i64 vt6, .int .i64 (w64 (64 - vt6))], []⟩) (by kernel_rfl) ?_
  refine wpList_nil ?_
  refine hK5 _ _ ?_
  refine wp_ret ?_
  refine hret _ _ ?_
  refine ends_still (v := Value.int .i64 (w64 (64 - vt6))) (by kernel_rfl) (by kernel_rfl) ?_
  injection h with h
  subst h
  exact ⟨f8, rfl, L9, HS11⟩

end Go.Sp.C5
