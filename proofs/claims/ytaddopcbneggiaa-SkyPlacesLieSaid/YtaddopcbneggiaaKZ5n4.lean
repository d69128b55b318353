import Derived.Test.YtaddopcbneggiaaProg
import Derived.Test.YtaddopcbneggiaaSpTwo
import Derived.Test.YtaddopcbneggiaaFZ5
import Derived.Test.YtaddopcbneggiaaKZ5n0
import Derived.Test.YtaddopcbneggiaaKZ5n1
import Derived.Test.YtaddopcbneggiaaKZ5n2
import Derived.Test.YtaddopcbneggiaaKZ5n3
namespace Go.Sp.Z5
open Go Go.Sp Go.Proofs
set_option linter.unusedVariables false
attribute [local irreducible] wpList AnyL Code.wp Calls Does
set_option maxRecDepth 100000 in
set_option maxHeartbeats 4000000 in
theorem sky_Place.calls (k : Nat)  (b1 : S_Body) (vt2 : Int) {t w : World} {f : FM} {H : List Seg} (HS : St t w f (H)) (r1 : S_Vec) (r2 : Int) (h : sky_Place k b1 vt2 = some (r1, r2)) :
    Calls Try.prog 18 #[.agg #[.int .i64 b1.ID, .int .i64 b1.Was.X, .int .i64 b1.Was.Y, .int .i64 b1.Was.Z, .int .i64 b1.Here.X, .int .i64 b1.Here.Y, .int .i64 b1.Here.Z, .int .i64 b1.Rate], .int .i64 vt2] w (fun e w' => ∃ (g : FM), e = .returned (Value.tuple #[.agg #[.int .i64 r1.X, .int .i64 r1.Y, .int .i64 r1.Z], .int .i64 r2]) ∧ FM.le f g ∧ St t w' g (H)) := by
  unfold sky_Place at h
  refine enter Try.func18 rfl (tm := #[.agg #[.int .i64 b1.ID, .int .i64 b1.Was.X, .int .i64 b1.Was.Y, .int .i64 b1.Was.Z, .int .i64 b1.Here.X, .int .i64 b1.Here.Y, .int .i64 b1.Here.Z, .int .i64 b1.Rate], .int .i64 vt2, undef, undef, undef, undef, undef, undef, undef, undef, undef, undef, undef, undef, undef, undef, undef, undef, undef, undef, undef, undef, undef, undef, undef, undef, undef, undef, undef, undef, undef, undef, undef, undef, undef, undef, undef, undef, undef, undef, undef, undef, undef, undef, undef, undef, undef, undef, undef, undef, undef, undef, undef, undef, undef, undef, undef, undef, undef, undef, undef, undef, undef, undef, undef, undef, undef]) (by kernel_rfl) ?_
  intro B hret hnor hnp
  refine wp_seq_k (fun K3 hK4 => ?_)
  refine wp_region_lit ?_
  refine seqK rfl (does_box (cs := #[.int .i64 b1.ID, .int .i64 b1.Was.X, .int .i64 b1.Was.Y, .int .i64 b1.Was.Z, .int .i64 b1.Here.X, .int .i64 b1.Here.Y, .int .i64 b1.Here.Z, .int .i64 b1.Rate]) rfl (by kernel_rfl : _ = Value.agg #[.int .i64 b1.ID, .int .i64 b1.Was.X, .int .i64 b1.Was.Y, .int .i64 b1.Was.Z, .int .i64 b1.Here.X, .int .i64 b1.Here.Y, .int .i64 b1.Here.Z, .int .i64 b1.Rate]) rfl HS ?_)
  intro b5 W6 HS7
  refine seqK rfl (does_alloc (z := Value.agg #[.int .i64 0, .int .i64 0, .int .i64 0]) (cs := #[.int .i64 0, .int .i64 0, .int .i64 0]) rfl (by kernel_rfl) rfl HS7 ?_)
  intro b9 W10 HS11
  refine seqS1 (a' := ⟨#[.agg #[.int .i64 b1.ID, .int .i64 b1.Was.X, .int .i64 b1.Was.Y, .int .i64 b1.Was.Z, .int .i64 b1.Here.X, .int .i64 b1.Here.Y, .int .i64 b1.Here.Z, .int .i64 b1.Rate], .int .i64 vt2, .pointer (some ⟨b5, 0, none⟩), undef, .pointer (some ⟨b9, 0, none⟩), .int .i64 0, undef, undef, undef, undef, undef, undef, undef, undef, undef, undef, undef, undef, undef, undef, undef, undef, undef, undef, undef, undef, undef, undef, undef, undef, undef, undef, undef, undef, undef, undef, undef, undef, undef, undef, undef, undef, undef, undef, undef, undef, undef, undef, undef, undef, undef, undef, undef, undef, undef, undef, undef, undef, undef, undef, undef, undef, undef, undef, undef, undef, undef], []⟩) (by kernel_rfl) ?_
  refine wpList_nil ?_
  refine hK4 _ _ ?_
  refine wp_seq_k (fun K13 hK14 => ?_)
  refine wp_region_lit ?_
  have hq_ := bind_some h; clear h; obtain ⟨vt15, hc16, h⟩ := hq_
  refine seqL1 (by kernel_rfl) ?_
  refine seqK rfl (does_call (f := 35) (args := #[.int .i64 vt2, .int .i64 86400000]) (by kernel_rfl) (num_FloorDiv.calls k vt2 86400000 HS11 vt15 hc16) ?_)
  rintro _ W19 ⟨f17, rfl, L18, HS20⟩
  refine ⟨_, rfl, ?_⟩
  refine seqS1 (a' := ⟨#[.agg #[.int .i64 b1.ID, .int .i64 b1.Was.X, .int .i64 b1.Was.Y, .int .i64 b1.Was.Z, .int .i64 b1.Here.X, .int .i64 b1.Here.Y, .int .i64 b1.Here.Z, .int .i64 b1.Rate], .int .i64 vt2, .pointer (some ⟨b5, 0, none⟩), undef, .pointer (some ⟨b9, 0, none⟩), .int .i64 0, .int .i64 vt15, undef, undef, undef, undef, undef, undef, .int .i64 vt2, .int .i64 vt15, undef, undef, undef, undef, undef, undef, undef, undef, undef, undef, undef, undef, undef, undef, undef, undef, undef, undef, undef, undef, undef, undef, undef, undef, undef, undef, undef, undef, undef, undef, undef, undef, undef, undef, undef, undef, undef, undef, undef, undef, undef, undef, undef, undef, undef, undef, undef, undef, undef, undef, undef, undef], []⟩) (by kernel_rfl) ?_
  refine wpList_nil ?_
  refine hK14 _ _ ?_
  refine wp_seq_k (fun K21 hK22 => ?_)
  refine wp_seq_k (fun K23 hK24 => ?_)
  refine wp_region_lit ?_
  refine seqS3 (a' := ⟨#[.agg #[.int .i64 b1.ID, .int .i64 b1.Was.X, .int .i64 b1.Was.Y, .int .i64 b1.Was.Z, .int .i64 b1.Here.X, .int .i64 b1.Here.Y, .int .i64 b1.Here.Z, .int .i64 b1.Rate], .int .i64 vt2, .pointer (some ⟨b5, 0, none⟩), undef, .pointer (some ⟨b9, 0, none⟩), .int .i64 0, .int .i64 vt15, undef, undef, undef, undef, undef, undef, .int .i64 vt2, .int .i64 vt15, .int .i64 vt15, .bool (decide (vt15 < (-400))), .bool (decide (vt15 < (-400))), undef, undef, undef, undef, undef, undef, undef, undef, undef, undef, undef, undef, undef, undef, undef, undef, undef, undef, undef, undef, undef, undef, undef, undef, undef, undef, undef, undef, undef, undef, undef, undef, undef, undef, undef, undef, undef, undef, undef, undef, undef, undef, undef, undef, undef, undef, undef, undef, undef], []⟩) (by kernel_rfl) ?_
  have hq_ := ite_some h; clear h; rcases hq_ with ⟨c25, h⟩ | ⟨c25, h⟩
  · have c25 : vt15 < (-400) := c25
    refine seqRwI 16 (x := (decide (vt15 < (-400)))) (v := true) (by kernel_rfl) (decide_eq_true c25) ?_
    refine seqRwI 17 (x := (decide (vt15 < (-400)))) (v := true) (by kernel_rfl) (decide_eq_true c25) ?_
    refine seqS3 (a' := ⟨#[.agg #[.int .i64 b1.ID, .int .i64 b1.Was.X, .int .i64 b1.Was.Y, .int .i64 b1.Was.Z, .int .i64 b1.Here.X, .int .i64 b1.Here.Y, .int .i64 b1.Here.Z, .int .i64 b1.Rate], .int .i64 vt2, .pointer (some ⟨b5, 0, none⟩), undef, .pointer (some ⟨b9, 0, none⟩), .int .i64 0, .int .i64 vt15, undef, undef, undef, undef, undef, undef, .int .i64 vt2, .int .i64 vt15, .int .i64 vt15, .bool true, .bool true, undef, undef, .bool true, undef, undef, undef, undef, undef, undef, undef, undef, undef, undef, undef, undef, undef, undef, undef, undef, undef, undef, undef, undef, undef, undef, undef, undef, undef, undef, undef, undef, undef, undef, undef, undef, undef, undef, undef, undef, undef, undef, undef, undef, undef, undef, undef, undef, undef, undef], []⟩) (by kernel_rfl) ?_
    refine wpList_nil ?_
    refine hK24 _ _ ?_
    refine condT (by kernel_rfl) ?_
    refine wp_seq_k (fun K26 hK27 => ?_)
    refine wp_region_lit ?_
    refine seqL1 (by kernel_rfl) ?_
    refine seqK rfl (does_store (n := 3) (vs := [.int .i64 0, .int .i64 0, .int .i64 0]) (cs' := #[.int .i64 0, .int .i64 0, .int .i64 0]) rfl (by kernel_rfl) (by kernel_rfl : _ = Value.pointer (some ⟨b9, 0, none⟩)) (by kernel_rfl : _ = Value.agg #[.int .i64 0, .int .i64 0, .int .i64 0]) rfl rfl (by intro u_ hu_; simp only [List.mem_cons, List.not_mem_nil, or_false] at hu_; rcases hu_ with rfl | rfl | rfl <;> rfl) HS20 (Nat.le_of_ble_eq_true rfl) (by kernel_rfl) ?_)
    intro W28 HS29
    refine seqS1 (a' := ⟨#[.agg #[.int .i64 b1.ID, .int .i64 b1.Was.X, .int .i64 b1.Was.Y, .int .i64 b1.Was.Z, .int .i64 b1.Here.X, .int .i64 b1.Here.Y, .int .i64 b1.Here.Z, .int .i64 b1.Rate], .int .i64 vt2, .pointer (some ⟨b5, 0, none⟩), undef, .pointer (some ⟨b9, 0, none⟩), .int .i64 4, .int .i64 vt15, undef, undef, undef, undef, undef, undef, .int .i64 vt2, .int .i64 vt15, .int .i64 vt15, .bool true, .bool true, undef, undef, .bool true, .agg #[.int .i64 0, .int .i64 0, .int .i64 0], undef, undef, undef, undef, undef, undef, undef, undef, undef, undef, undef, undef, undef, undef, undef, undef, undef, undef, undef, undef, undef, undef, undef, undef, undef, undef, undef, undef, undef, undef, undef, undef, undef, undef, undef, undef, undef, undef, undef, undef, undef, undef, undef, undef, undef], []⟩) (by kernel_rfl) ?_
    refine wpList_nil ?_
    refine hK27 _ _ ?_
    refine wp_ret ?_
    refine hret _ _ ?_
    refine ends (v := Value.tuple #[.agg #[.int .i64 0, .int .i64 0, .int .i64 0], .int .i64 4]) (results2 (q1 := .cell 4 23) (q2 := .tmp 5) (by kernel_rfl) (resN (n := 3) (cs := [.int .i64 0, .int .i64 0, .int .i64 0]) (by kernel_rfl : _ = Value.pointer (some ⟨b9, 0, none⟩)) Try.underlying23 rfl (by kernel_rfl) rfl (HS29.cells 0 3 _ rfl)) (resT (by kernel_rfl : _ = Value.int .i64 4))) (by kernel_rfl) ?_
    have HS158 := HS29.drop
    have HS159 := HS158.drop
    injection h with h
    injection h with h0_ h
    subst h0_ h
    exact ⟨f17, rfl, L18, HS159⟩
  · have c25 : ¬ (vt15 < (-400)) := c25
    refine seqRwI 16 (x := (decide (vt15 < (-400)))) (v := false) (by kernel_rfl) (decide_eq_false c25) ?_
    refine seqRwI 17 (x := (decide (vt15 < (-400)))) (v := false) (by kernel_rfl) (decide_eq_false c25) ?_
    refine seqS3 (a' := ⟨#[.agg #[.int .i64 b1.ID, .int .i64 b1.Was.X, .int .i64 b1.Was.Y, .int .i64 b1.Was.Z, .int .i64 b1.Here.X, .int .i64 b1.Here.Y, .int .i64 b1.Here.Z, .int .i64 b1.Rate], .int .i64 vt2, .pointer (some ⟨b5, 0, none⟩), undef, .pointer (some ⟨b9, 0, none⟩), .int .i64 0, .int .i64 vt15, undef, undef, undef, undef, undef, undef, .int .i64 vt2, .int .i64 vt15, .int .i64 vt15, .bool false, .bool false, .int .i64 vt15, .bool (decide (vt15 ≥ 400)), .bool (decide (vt15 ≥ 400)), undef, undef, undef, undef, undef, undef, undef, undef, undef, undef, undef, undef, undef, undef, undef, undef, undef, undef, undef, undef, undef, undef, undef, undef, undef, undef, undef, undef, undef, undef, undef, undef, undef, undef, undef, undef, undef, undef, undef, undef, undef, undef, undef, undef, undef, undef], []⟩) (by kernel_rfl) ?_
    refine wpList_nil ?_
    refine hK24 _ _ ?_
    have hq_ := ite_some h; clear h; rcases hq_ with ⟨c31, h⟩ | ⟨c31, h⟩
    · have c31 : vt15 ≥ 400 := c31
      refine wpRwI 19 (x := (decide (vt15 ≥ 400))) (v := true) (by kernel_rfl) (decide_eq_true c31) ?_
      refine wpRwI 20 (x := (decide (vt15 ≥ 400))) (v := true) (by kernel_rfl) (decide_eq_true c31) ?_
      refine condT (by kernel_rfl) ?_
      refine wp_seq_k (fun K32 hK33 => ?_)
      refine wp_region_lit ?_
      refine seqL1 (by kernel_rfl) ?_
      refine seqK rfl (does_store (n := 3) (vs := [.int .i64 0, .int .i64 0, .int .i64 0]) (cs' := #[.int .i64 0, .int .i64 0, .int .i64 0]) rfl (by kernel_rfl) (by kernel_rfl : _ = Value.pointer (some ⟨b9, 0, none⟩)) (by kernel_rfl : _ = Value.agg #[.int .i64 0, .int .i64 0, .int .i64 0]) rfl rfl (by intro u_ hu_; simp only [List.mem_cons, List.not_mem_nil, or_false] at hu_; rcases hu_ with rfl | rfl | rfl <;> rfl) HS20 (Nat.le_of_ble_eq_true rfl) (by kernel_rfl) ?_)
      intro W34 HS35
      refine seqS1 (a' := ⟨#[.agg #[.int .i64 b1.ID, .int .i64 b1.Was.X, .int .i64 b1.Was.Y, .int .i64 b1.Was.Z, .int .i64 b1.Here.X, .int .i64 b1.Here.Y, .int .i64 b1.Here.Z, .int .i64 b1.Rate], .int .i64 vt2, .pointer (some ⟨b5, 0, none⟩), undef, .pointer (some ⟨b9, 0, none⟩), .int .i64 4, .int .i64 vt15, undef, undef, undef, undef, undef, undef, .int .i64 vt2, .int .i64 vt15, .int .i64 vt15, .bool false, .bool false, .int .i64 vt15, .bool true, .bool true, .agg #[.int .i64 0, .int .i64 0, .int .i64 0], undef, undef, undef, undef, undef, undef, undef, undef, undef, undef, undef, undef, undef, undef, undef, undef, undef, undef, undef, undef, undef, undef, undef, undef, undef, undef, undef, undef, undef, undef, undef, undef, undef, undef, undef, undef, undef, undef, undef, undef, undef, undef, undef, undef, undef], []⟩) (by kernel_rfl) ?_
      refine wpList_nil ?_
      refine hK33 _ _ ?_
      refine wp_ret ?_
      refine hret _ _ ?_
      refine ends (v := Value.tuple #[.agg #[.int .i64 0, .int .i64 0, .int .i64 0], .int .i64 4]) (results2 (q1 := .cell 4 23) (q2 := .tmp 5) (by kernel_rfl) (resN (n := 3) (cs := [.int .i64 0, .int .i64 0, .int .i64 0]) (by kernel_rfl : _ = Value.pointer (some ⟨b9, 0, none⟩)) Try.underlying23 rfl (by kernel_rfl) rfl (HS35.cells 0 3 _ rfl)) (resT (by kernel_rfl : _ = Value.int .i64 4))) (by kernel_rfl) ?_
      have HS160 := HS35.drop
      have HS161 := HS160.drop
      injection h with h
      injection h with h0_ h
      subst h0_ h
      exact ⟨f17, rfl, L18, HS161⟩
    · have c31 : ¬ (vt15 ≥ 400) := c31
      refine wpRwI 19 (x := (decide (vt15 ≥ 400))) (v := false) (by kernel_rfl) (decide_eq_false c31) ?_
      refine wpRwI 20 (x := (decide (vt15 ≥ 400))) (v := false) (by kernel_rfl) (decide_eq_false c31) ?_
      refine condF (by kernel_rfl) ?_
      refine wp_skip ?_
      refine hK22 _ _ ?_
      refine wp_seq_k (fun K36 hK37 => ?_)
      refine wp_region_lit ?_
      refine seqK rfl (does_run (run_loadN (n := 8) rfl Try.underlying36 rfl (by kernel_rfl) (by kernel_rfl : _ = Value.pointer (some ⟨b5, 0, none⟩)) (cs := [.int .i64 b1.ID, .int .i64 b1.Was.X, .int .i64 b1.Was.Y, .int .i64 b1.Was.Z, .int .i64 b1.Here.X, .int .i64 b1.Here.Y, .int .i64 b1.Here.Z, .int .i64 b1.Rate]) rfl (HS20.u1.cells 0 8 _ rfl)) ?_)
      have hq_ := bind_some h; clear h; obtain ⟨⟨vt38, vt39, vt40⟩, hc41, h⟩ := hq_
      refine seqL1 (by kernel_rfl) ?_
      refine seqK rfl (does_call (f := 16) (args := #[.agg #[.int .i64 b1.ID, .int .i64 b1.Was.X, .int .i64 b1.Was.Y, .int .i64 b1.Was.Z, .int .i64 b1.Here.X, .int .i64 b1.Here.Y, .int .i64 b1.Here.Z, .int .i64 b1.Rate], .int .i64 vt15]) (by kernel_rfl) (sky_Path.calls k b1 vt15 HS20 vt38 vt39 vt40 hc41) ?_)
      rintro _ W44 ⟨f42, rfl, L43, HS45⟩
      refine ⟨_, rfl, ?_⟩
      refine seqL4 (by kernel_rfl) ?_
      refine seqK rfl (does_alloc (z := Value.agg #[.int .i64 0, .int .i64 0, .int .i64 0]) (cs := #[.int .i64 0, .int .i64 0, .int .i64 0]) rfl (by kernel_rfl) rfl HS45 ?_)
      intro b46 W47 HS48
      refine seqK rfl (does_alloc (z := Value.agg #[.int .i64 0, .int .i64 0, .int .i64 0]) (cs := #[.int .i64 0, .int .i64 0, .int .i64 0]) rfl (by kernel_rfl) rfl HS48 ?_)
      intro b50 W51 HS52
      have HS54 := HS52.u1
      refine seqK rfl (does_store (n := 3) (vs := [.int .i64 vt38.X, .int .i64 vt38.Y, .int .i64 vt38.Z]) (cs' := #[.int .i64 vt38.X, .int .i64 vt38.Y, .int .i64 vt38.Z]) rfl (by kernel_rfl) (by kernel_rfl : _ = Value.pointer (some ⟨b46, 0, none⟩)) (by kernel_rfl : _ = Value.agg #[.int .i64 vt38.X, .int .i64 vt38.Y, .int .i64 vt38.Z]) rfl rfl (by intro u_ hu_; simp only [List.mem_cons, List.not_mem_nil, or_false] at hu_; rcases hu_ with rfl | rfl | rfl <;> rfl) HS54 (Nat.le_of_ble_eq_true rfl) (by kernel_rfl) ?_)
      intro W55 HS56
      have HS57 := HS56.u1
      refine seqK rfl (does_store (n := 3) (vs := [.int .i64 vt39.X, .int .i64 vt39.Y, .int .i64 vt39.Z]) (cs' := #[.int .i64 vt39.X, .int .i64 vt39.Y, .int .i64 vt39.Z]) rfl (by kernel_rfl) (by kernel_rfl : _ = Value.pointer (some ⟨b50, 0, none⟩)) (by kernel_rfl : _ = Value.agg #[.int .i64 vt39.X, .int .i64 vt39.Y, .int .i64 vt39.Z]) rfl rfl (by intro u_ hu_; simp only [List.mem_cons, List.not_mem_nil, or_false] at hu_; rcases hu_ with rfl | rfl | rfl <;> rfl) HS57 (Nat.le_of_ble_eq_true rfl) (by kernel_rfl) ?_)
      intro W58 HS59
      refine seqS1 (a' := ⟨#[.agg #[.int .i64 b1.ID, .int .i64 b1.Was.X, .int .i64 b1.Was.Y, .int .i64 b1.Was.Z, .int .i64 b1.Here.X, .int .i64 b1.Here.Y, .int .i64 b1.Here.Z, .int .i64 b1.Rate], .int .i64 vt2, .pointer (some ⟨b5, 0, none⟩), undef, .pointer (some ⟨b9, 0, none⟩), .int .i64 0, .int .i64 vt15, .pointer (some ⟨b46, 0, none⟩), .pointer (some ⟨b50, 0, none⟩), .int .i64 vt40, undef, undef, undef, .int .i64 vt2, .int .i64 vt15, .int .i64 vt15, .bool false, .bool false, .int .i64 vt15, .bool false, .bool false, undef, .tuple #[.agg #[.int .i64 vt38.X, .int .i64 vt38.Y, .int .i64 vt38.Z], .agg #[.int .i64 vt39.X, .int .i64 vt39.Y, .int .i64 vt39.Z], .int .i64 vt40], .agg #[.int .i64 b1.ID, .int .i64 b1.Was.X, .int .i64 b1.Was.Y, .int .i64 b1.Was.Z, .int .i64 b1.Here.X, .int .i64 b1.Here.Y, .int .i64 b1.Here.Z, .int .i64 b1.Rate], .int .i64 vt15, .tuple #[.agg #[.int .i64 vt38.X, .int .i64 vt38.Y, .int .i64 vt38.Z], .agg #[.int .i64 vt39.X, .int .i64 vt39.Y, .int .i64 vt39.Z], .int .i64 vt40], .agg #[.int .i64 vt38.X, .int .i64 vt38.Y, .int .i64 vt38.Z], .agg #[.int .i64 vt39.X, .int .i64 vt39.Y, .int .i64 vt39.Z], .int .i64 vt40, undef, undef, undef, undef, undef, undef, undef, undef, undef, undef, undef, undef, undef, undef, undef, undef, undef, undef, undef, undef, undef, undef, undef, undef, undef, undef, undef, undef, undef, undef, undef, undef, undef, undef, undef, undef, undef, undef], []⟩) (by kernel_rfl) ?_
      refine wpList_nil ?_
      refine hK37 _ _ ?_
      refine wp_seq_k (fun K60 hK61 => ?_)
      refine wp_seq_k (fun K62 hK63 => ?_)
      refine wp_region_lit ?_
      refine seqS2 (a' := ⟨#[.agg #[.int .i64 b1.ID, .int .i64 b1.Was.X, .int .i64 b1.Was.Y, .int .i64 b1.Was.Z, .int .i64 b1.Here.X, .int .i64 b1.Here.Y, .int .i64 b1.Here.Z, .int .i64 b1.Rate], .int .i64 vt2, .pointer (some ⟨b5, 0, none⟩), undef, .pointer (some ⟨b9, 0, none⟩), .int .i64 0, .int .i64 vt15, .pointer (some ⟨b46, 0, none⟩), .pointer (some ⟨b50, 0, none⟩), .int .i64 vt40, undef, undef, undef, .int .i64 vt2, .int .i64 vt15, .int .i64 vt15, .bool false, .bool false, .int .i64 vt15, .bool false, .bool false, undef, .tuple #[.agg #[.int .i64 vt38.X, .int .i64 vt38.Y, .int .i64 vt38.Z], .agg #[.int .i64 vt39.X, .int .i64 vt39.Y, .int .i64 vt39.Z], .int .i64 vt40], .agg #[.int .i64 b1.ID, .int .i64 b1.Was.X, .int .i64 b1.Was.Y, .int .i64 b1.Was.Z, .int .i64 b1.Here.X, .int .i64 b1.Here.Y, .int .i64 b1.Here.Z, .int .i64 b1.Rate], .int .i64 vt15, .tuple #[.agg #[.int .i64 vt38.X, .int .i64 vt38.Y, .int .i64 vt38.Z], .agg #[.int .i64 vt39.X, .int .i64 vt39.Y, .int .i64 vt39.Z], .int .i64 vt40], .agg #[.int .i64 vt38.X, .int .i64 vt38.Y, .int .i64 vt38.Z], .agg #[.int .i64 vt39.X, .int .i64 vt39.Y, .int .i64 vt39.Z], .int .i64 vt40, .int .i64 vt40, .bool (vt40 != 0), undef, undef, undef, undef, undef, undef, undef, undef, undef, undef, undef, undef, undef, undef, undef, undef, undef, undef, undef, undef, undef, undef, undef, undef, undef, undef, undef, undef, undef, undef, undef, undef, undef, undef, undef, undef], []⟩) (by kernel_rfl) ?_
      refine wpList_nil ?_
      refine hK63 _ _ ?_
      have hq_ := ite_some h; clear h; rcases hq_ with ⟨c65, h⟩ | ⟨c65, h⟩
      · have c65 : vt40 ≠ 0 := c65
        refine wpRwI 30 (x := (vt40 != 0)) (v := true) (by kernel_rfl) (bne_iff_ne.mpr c65) ?_
        refine condT (by kernel_rfl) ?_
        refine wp_seq_k (fun K66 hK67 => ?_)
        refine wp_region_lit ?_
        have HS68 := HS59.u2
        refine seqL2 (by kernel_rfl) ?_
        refine seqK rfl (does_store (n := 3) (vs := [.int .i64 0, .int .i64 0, .int .i64 0]) (cs' := #[.int .i64 0, .int .i64 0, .int .i64 0]) rfl (by kernel_rfl) (by kernel_rfl : _ = Value.pointer (some ⟨b9, 0, none⟩)) (by kernel_rfl : _ = Value.agg #[.int .i64 0, .int .i64 0, .int .i64 0]) rfl rfl (by intro u_ hu_; simp only [List.mem_cons, List.not_mem_nil, or_false] at hu_; rcases hu_ with rfl | rfl | rfl <;> rfl) HS68 (Nat.le_of_ble_eq_true rfl) (by kernel_rfl) ?_)
        intro W69 HS70
        refine seqS1 (a' := ⟨#[.agg #[.int .i64 b1.ID, .int .i64 b1.Was.X, .int .i64 b1.Was.Y, .int .i64 b1.Was.Z, .int .i64 b1.Here.X, .int .i64 b1.Here.Y, .int .i64 b1.Here.Z, .int .i64 b1.Rate], .int .i64 vt2, .pointer (some ⟨b5, 0, none⟩), undef, .pointer (some ⟨b9, 0, none⟩), .int .i64 vt40, .int .i64 vt15, .pointer (some ⟨b46, 0, none⟩), .pointer (some ⟨b50, 0, none⟩), .int .i64 vt40, undef, undef, undef, .int .i64 vt2, .int .i64 vt15, .int .i64 vt15, .bool false, .bool false, .int .i64 vt15, .bool false, .bool false, undef, .tuple #[.agg #[.int .i64 vt38.X, .int .i64 vt38.Y, .int .i64 vt38.Z], .agg #[.int .i64 vt39.X, .int .i64 vt39.Y, .int .i64 vt39.Z], .int .i64 vt40], .agg #[.int .i64 b1.ID, .int .i64 b1.Was.X, .int .i64 b1.Was.Y, .int .i64 b1.Was.Z, .int .i64 b1.Here.X, .int .i64 b1.Here.Y, .int .i64 b1.Here.Z, .int .i64 b1.Rate], .int .i64 vt15, .tuple #[.agg #[.int .i64 vt38.X, .int .i64 vt38.Y, .int .i64 vt38.Z], .agg #[.int .i64 vt39.X, .int .i64 vt39.Y, .int .i64 vt39.Z], .int .i64 vt40], .agg #[.int .i64 vt38.X, .int .i64 vt38.Y, .int .i64 vt38.Z], .agg #[.int .i64 vt39.X, .int .i64 vt39.Y, .int .i64 vt39.Z], .int .i64 vt40, .int .i64 vt40, .bool true, .agg #[.int .i64 0, .int .i64 0, .int .i64 0], .int .i64 vt40, undef, undef, undef, undef, undef, undef, undef, undef, undef, undef, undef, undef, undef, undef, undef, undef, undef, undef, undef, undef, undef, undef, undef, undef, undef, undef, undef, undef, undef, undef, undef, undef, undef, undef], []⟩) (by kernel_rfl) ?_
        refine wpList_nil ?_
        refine hK67 _ _ ?_
        refine wp_ret ?_
        refine hret _ _ ?_
        refine ends (v := Value.tuple #[.agg #[.int .i64 0, .int .i64 0, .int .i64 0], .int .i64 vt40]) (results2 (q1 := .cell 4 23) (q2 := .tmp 5) (by kernel_rfl) (resN (n := 3) (cs := [.int .i64 0, .int .i64 0, .int .i64 0]) (by kernel_rfl : _ = Value.pointer (some ⟨b9, 0, none⟩)) Try.underlying23 rfl (by kernel_rfl) rfl (HS70.cells 0 3 _ rfl)) (resT (by kernel_rfl : _ = Value.int .i64 vt40))) (by kernel_rfl) ?_
        have HS162 := HS70.drop
        have HS163 := HS162.drop
        have HS164 := HS163.drop
        have HS165 := HS164.drop
        injection h with h
        injection h with h0_ h
        subst h0_ h
        exact ⟨f42, rfl, (L18.trans L43), HS165⟩
      · have c65 : ¬ (vt40 ≠ 0) := c65
        refine wpRwI 30 (x := (vt40 != 0)) (v := false) (by kernel_rfl) (bne_eq_false_iff_eq.mpr (Decidable.of_not_not c65)) ?_
        refine condF (by kernel_rfl) ?_
        refine wp_skip ?_
        refine hK61 _ _ ?_
        refine wp_seq_k (fun K71 hK72 => ?_)
        refine wp_region_lit ?_
        refine seqK rfl (does_run (run_loadN (n := 3) rfl Try.underlying23 rfl (by kernel_rfl) (by kernel_rfl : _ = Value.pointer (some ⟨b46, 0, none⟩)) (cs := [.int .i64 vt38.X, .int .i64 vt38.Y, .int .i64 vt38.Z]) rfl (HS59.u1.cells 0 3 _ rfl)) ?_)
        refine seqK rfl (does_run (run_loadN (n := 3) rfl Try.underlying23 rfl (by kernel_rfl) (by kernel_rfl : _ = Value.pointer (some ⟨b50, 0, none⟩)) (cs := [.int .i64 vt39.X, .int .i64 vt39.Y, .int .i64 vt39.Z]) rfl (HS59.cells 0 3 _ rfl)) ?_)
        have hq_ := bind_some h; clear h; obtain ⟨⟨vt73, vt74⟩, hc75, h⟩ := hq_
        refine seqK rfl (does_call (f := 8) (args := #[.agg #[.int .i64 vt38.X, .int .i64 vt38.Y, .int .i64 vt38.Z], .agg #[.int .i64 vt39.X, .int .i64 vt39.Y, .int .i64 vt39.Z]]) (by kernel_rfl) (sky_Step.calls k vt38 vt39 HS59 vt73 vt74 hc75) ?_)
        rintro _ W78 ⟨f76, rfl, L77, HS79⟩
        refine ⟨_, rfl, ?_⟩
        refine seqL3 (by kernel_rfl) ?_
        refine seqK rfl (does_alloc (z := Value.agg #[.int .i64 0, .int .i64 0, .int .i64 0]) (cs := #[.int .i64 0, .int .i64 0, .int .i64 0]) rfl (by kernel_rfl) rfl HS79 ?_)
        intro b80 W81 HS82
        refine seqK rfl (does_store (n := 3) (vs := [.int .i64 vt73.X, .int .i64 vt73.Y, .int .i64 vt73.Z]) (cs' := #[.int .i64 vt73.X, .int .i64 vt73.Y, .int .i64 vt73.Z]) rfl (by kernel_rfl) (by kernel_rfl : _ = Value.pointer (some ⟨b80, 0, none⟩)) (by kernel_rfl : _ = Value.agg #[.int .i64 vt73.X, .int .i64 vt73.Y, .int .i64 vt73.Z]) rfl rfl (by intro u_ hu_; simp only [List.mem_cons, List.not_mem_nil, or_false] at hu_; rcases hu_ with rfl | rfl | rfl <;> rfl) HS82 (Nat.le_of_ble_eq_true rfl) (by kernel_rfl) ?_)
        intro W84 HS85
        refine seqS1 (a' := ⟨#[.agg #[.int .i64 b1.ID, .int .i64 b1.Was.X, .int .i64 b1.Was.Y, .int .i64 b1.Was.Z, .int .i64 b1.Here.X, .int .i64 b1.Here.Y, .int .i64 b1.Here.Z, .int .i64 b1.Rate], .int .i64 vt2, .pointer (some ⟨b5, 0, none⟩), undef, .pointer (some ⟨b9, 0, none⟩), .int .i64 0, .int .i64 vt15, .pointer (some ⟨b46, 0, none⟩), .pointer (some ⟨b50, 0, none⟩), .int .i64 vt74, .pointer (some ⟨b80, 0, none⟩), undef, undef, .int .i64 vt2, .int .i64 vt15, .int .i64 vt15, .bool false, .bool false, .int .i64 vt15, .bool false, .bool false, undef, .tuple #[.agg #[.int .i64 vt38.X, .int .i64 vt38.Y, .int .i64 vt38.Z], .agg #[.int .i64 vt39.X, .int .i64 vt39.Y, .int .i64 vt39.Z], .int .i64 vt40], .agg #[.int .i64 b1.ID, .int .i64 b1.Was.X, .int .i64 b1.Was.Y, .int .i64 b1.Was.Z, .int .i64 b1.Here.X, .int .i64 b1.Here.Y, .int .i64 b1.Here.Z, .int .i64 b1.Rate], .int .i64 vt15, .tuple #[.agg #[.int .i64 vt38.X, .int .i64 vt38.Y, .int .i64 vt38.Z], .agg #[.int .i64 vt39.X, .int .i64 vt39.Y, .int .i64 vt39.Z], .int .i64 vt40], .agg #[.int .i64 vt38.X, .int .i64 vt38.Y, .int .i64 vt38.Z], .agg #[.int .i64 vt39.X, .int .i64 vt39.Y, .int .i64 vt39.Z], .int .i64 vt40, .int .i64 vt40, .bool false, undef, undef, .tuple #[.agg #[.int .i64 vt73.X, .int .i64 vt73.Y, .int .i64 vt73.Z], .int .i64 vt74], .agg #[.int .i64 vt38.X, .int .i64 vt38.Y, .int .i64 vt38.Z], .agg #[.int .i64 vt39.X, .int .i64 vt39.Y, .int .i64 vt39.Z], .tuple #[.agg #[.int .i64 vt73.X, .int .i64 vt73.Y, .int .i64 vt73.Z], .int .i64 vt74], .agg #[.int .i64 vt73.X, .int .i64 vt73.Y, .int .i64 vt73.Z], .int .i64 vt74, undef, undef, undef, undef, undef, undef, undef, undef, undef, undef, undef, undef, undef, undef, undef, undef, undef, undef, undef, undef, undef, undef, undef, undef, undef, undef, undef, undef], []⟩) (by kernel_rfl) ?_
        refine wpList_nil ?_
        refine hK72 _ _ ?_
        refine wp_seq_k (fun K86 hK87 => ?_)
        refine wp_seq_k (fun K88 hK89 => ?_)
        refine wp_region_lit ?_
        refine seqS2 (a' := ⟨#[.agg #[.int .i64 b1.ID, .int .i64 b1.Was.X, .int .i64 b1.Was.Y, .int .i64 b1.Was.Z, .int .i64 b1.Here.X, .int .i64 b1.Here.Y, .int .i64 b1.Here.Z, .int .i64 b1.Rate], .int .i64 vt2, .pointer (some ⟨b5, 0, none⟩), undef, .pointer (some ⟨b9, 0, none⟩), .int .i64 0, .int .i64 vt15, .pointer (some ⟨b46, 0, none⟩), .pointer (some ⟨b50, 0, none⟩), .int .i64 vt74, .pointer (some ⟨b80, 0, none⟩), undef, undef, .int .i64 vt2, .int .i64 vt15, .int .i64 vt15, .bool false, .bool false, .int .i64 vt15, .bool false, .bool false, undef, .tuple #[.agg #[.int .i64 vt38.X, .int .i64 vt38.Y, .int .i64 vt38.Z], .agg #[.int .i64 vt39.X, .int .i64 vt39.Y, .int .i64 vt39.Z], .int .i64 vt40], .agg #[.int .i64 b1.ID, .int .i64 b1.Was.X, .int .i64 b1.Was.Y, .int .i64 b1.Was.Z, .int .i64 b1.Here.X, .int .i64 b1.Here.Y, .int .i64 b1.Here.Z, .int .i64 b1.Rate], .int .i64 vt15, .tuple #[.agg #[.int .i64 vt38.X, .int .i64 vt38.Y, .int .i64 vt38.Z], .agg #[.int .i64 vt39.X, .int .i64 vt39.Y, .int .i64 vt39.Z], .int .i64 vt40], .agg #[.int .i64 vt38.X, .int .i64 vt38.Y, .int .i64 vt38.Z], .agg #[.int .i64 vt39.X, .int .i64 vt39.Y, .int .i64 vt39.Z], .int .i64 vt40, .int .i64 vt40, .bool false, undef, undef, .tuple #[.agg #[.int .i64 vt73.X, .int .i64 vt73.Y, .int .i64 vt73.Z], .int .i64 vt74], .agg #[.int .i64 vt38.X, .int .i64 vt38.Y, .int .i64 vt38.Z], .agg #[.int .i64 vt39.X, .int .i64 vt39.Y, .int .i64 vt39.Z], .tuple #[.agg #[.int .i64 vt73.X, .int .i64 vt73.Y, .int .i64 vt73.Z], .int .i64 vt74], .agg #[.int .i64 vt73.X, .int .i64 vt73.Y, .int .i64 vt73.Z], .int .i64 vt74, .int .i64 vt74, .bool (vt74 != 0), undef, undef, undef, undef, undef, undef, undef, undef, undef, undef, undef, undef, undef, undef, undef, undef, undef, undef, undef, undef, undef, undef, undef, undef, undef, undef], []⟩) (by kernel_rfl) ?_
        refine wpList_nil ?_
        refine hK89 _ _ ?_
        have hq_ := ite_some h; clear h; rcases hq_ with ⟨c91, h⟩ | ⟨c91, h⟩
        · have c91 : vt74 ≠ 0 := c91
          refine wpRwI 40 (x := (vt74 != 0)) (v := true) (by kernel_rfl) (bne_iff_ne.mpr c91) ?_
          refine condT (by kernel_rfl) ?_
          refine wp_seq_k (fun K92 hK93 => ?_)
          refine wp_region_lit ?_
          have HS94 := HS85.u3
          refine seqL2 (by kernel_rfl) ?_
          refine seqK rfl (does_store (n := 3) (vs := [.int .i64 0, .int .i64 0, .int .i64 0]) (cs' := #[.int .i64 0, .int .i64 0, .int .i64 0]) rfl (by kernel_rfl) (by kernel_rfl : _ = Value.pointer (some ⟨b9, 0, none⟩)) (by kernel_rfl : _ = Value.agg #[.int .i64 0, .int .i64 0, .int .i64 0]) rfl rfl (by intro u_ hu_; simp only [List.mem_cons, List.not_mem_nil, or_false] at hu_; rcases hu_ with rfl | rfl | rfl <;> rfl) HS94 (Nat.le_of_ble_eq_true rfl) (by kernel_rfl) ?_)
          intro W95 HS96
          refine seqS1 (a' := ⟨#[.agg #[.int .i64 b1.ID, .int .i64 b1.Was.X, .int .i64 b1.Was.Y, .int .i64 b1.Was.Z, .int .i64 b1.Here.X, .int .i64 b1.Here.Y, .int .i64 b1.Here.Z, .int .i64 b1.Rate], .int .i64 vt2, .pointer (some ⟨b5, 0, none⟩), undef, .pointer (some ⟨b9, 0, none⟩), .int .i64 vt74, .int .i64 vt15, .pointer (some ⟨b46, 0, none⟩), .pointer (some ⟨b50, 0, none⟩), .int .i64 vt74, .pointer (some ⟨b80, 0, none⟩), undef, undef, .int .i64 vt2, .int .i64 vt15, .int .i64 vt15, .bool false, .bool false, .int .i64 vt15, .bool false, .bool false, undef, .tuple #[.agg #[.int .i64 vt38.X, .int .i64 vt38.Y, .int .i64 vt38.Z], .agg #[.int .i64 vt39.X, .int .i64 vt39.Y, .int .i64 vt39.Z], .int .i64 vt40], .agg #[.int .i64 b1.ID, .int .i64 b1.Was.X, .int .i64 b1.Was.Y, .int .i64 b1.Was.Z, .int .i64 b1.Here.X, .int .i64 b1.Here.Y, .int .i64 b1.Here.Z, .int .i64 b1.Rate], .int .i64 vt15, .tuple #[.agg #[.int .i64 vt38.X, .int .i64 vt38.Y, .int .i64 vt38.Z], .agg #[.int .i64 vt39.X, .int .i64 vt39.Y, .int .i64 vt39.Z], .int .i64 vt40], .agg #[.int .i64 vt38.X, .int .i64 vt38.Y, .int .i64 vt38.Z], .agg #[.int .i64 vt39.X, .int .i64 vt39.Y, .int .i64 vt39.Z], .int .i64 vt40, .int .i64 vt40, .bool false, undef, undef, .tuple #[.agg #[.int .i64 vt73.X, .int .i64 vt73.Y, .int .i64 vt73.Z], .int .i64 vt74], .agg #[.int .i64 vt38.X, .int .i64 vt38.Y, .int .i64 vt38.Z], .agg #[.int .i64 vt39.X, .int .i64 vt39.Y, .int .i64 vt39.Z], .tuple #[.agg #[.int .i64 vt73.X, .int .i64 vt73.Y, .int .i64 vt73.Z], .int .i64 vt74], .agg #[.int .i64 vt73.X, .int .i64 vt73.Y, .int .i64 vt73.Z], .int .i64 vt74, .int .i64 vt74, .bool true, .agg #[.int .i64 0, .int .i64 0, .int .i64 0], .int .i64 vt74, undef, undef, undef, undef, undef, undef, undef, undef, undef, undef, undef, undef, undef, undef, undef, undef, undef, undef, undef, undef, undef, undef, undef, undef], []⟩) (by kernel_rfl) ?_
          refine wpList_nil ?_
          refine hK93 _ _ ?_
          refine wp_ret ?_
          refine hret _ _ ?_
          refine ends (v := Value.tuple #[.agg #[.int .i64 0, .int .i64 0, .int .i64 0], .int .i64 vt74]) (results2 (q1 := .cell 4 23) (q2 := .tmp 5) (by kernel_rfl) (resN (n := 3) (cs := [.int .i64 0, .int .i64 0, .int .i64 0]) (by kernel_rfl : _ = Value.pointer (some ⟨b9, 0, none⟩)) Try.underlying23 rfl (by kernel_rfl) rfl (HS96.cells 0 3 _ rfl)) (resT (by kernel_rfl : _ = Value.int .i64 vt74))) (by kernel_rfl) ?_
          have HS166 := HS96.drop
          have HS167 := HS166.drop
          have HS168 := HS167.drop
          have HS169 := HS168.drop
          have HS170 := HS169.drop
          injection h with h
          injection h with h0_ h
          subst h0_ h
          exact ⟨f76, rfl, (L18.trans (L43.trans L77)), HS170⟩
        · have c91 : ¬ (vt74 ≠ 0) := c91
          refine wpRwI 40 (x := (vt74 != 0)) (v := false) (by kernel_rfl) (bne_eq_false_iff_eq.mpr (Decidable.of_not_not c91)) ?_
          refine condF (by kernel_rfl) ?_
          refine wp_skip ?_
          refine hK87 _ _ ?_
          refine wp_seq_k (fun K97 hK98 => ?_)
          refine wp_region_lit ?_
          refine seqL4 (by kernel_rfl) ?_
          refine seqK rfl (does_alloc (z := Value.int .i64 0) (cs := #[.int .i64 0]) rfl (by kernel_rfl) rfl HS85 ?_)
          intro b99 W100 HS101
          refine seqK rfl (does_store (n := 1) (vs := [.int .i64 (w64 (vt2 - (w64 (vt15 * 86400000))))]) (cs' := #[.int .i64 (w64 (vt2 - (w64 (vt15 * 86400000))))]) rfl (by kernel_rfl) (by kernel_rfl : _ = Value.pointer (some ⟨b99, 0, none⟩)) (by kernel_rfl : _ = Value.int .i64 (w64 (vt2 - (w64 (vt15 * 86400000))))) rfl rfl (by intro u_ hu_; simp only [List.mem_cons, List.not_mem_nil, or_false] at hu_; subst hu_; rfl) HS101 (Nat.le_of_ble_eq_true rfl) (by kernel_rfl) ?_)
          intro W103 HS104
          refine wpList_nil ?_
          refine hK98 _ _ ?_
          refine wp_seq_k (fun K105 hK106 => ?_)
          refine wp_region_lit ?_
          refine seqS2 (a' := ⟨#[.agg #[.int .i64 b1.ID, .int .i64 b1.Was.X, .int .i64 b1.Was.Y, .int .i64 b1.Was.Z, .int .i64 b1.Here.X, .int .i64 b1.Here.Y, .int .i64 b1.Here.Z, .int .i64 b1.Rate], .int .i64 vt2, .pointer (some ⟨b5, 0, none⟩), undef, .pointer (some ⟨b9, 0, none⟩), .int .i64 0, .int .i64 vt15, .pointer (some ⟨b46, 0, none⟩), .pointer (some ⟨b50, 0, none⟩), .int .i64 vt74, .pointer (some ⟨b80, 0, none⟩), .pointer (some ⟨b99, 0, none⟩), .func (.func 36) #[] #[.pointer (some ⟨b99, 0, none⟩)], .int .i64 vt2, .int .i64 vt15, .int .i64 vt15, .bool false, .bool false, .int .i64 vt15, .bool false, .bool false, undef, .tuple #[.agg #[.int .i64 vt38.X, .int .i64 vt38.Y, .int .i64 vt38.Z], .agg #[.int .i64 vt39.X, .int .i64 vt39.Y, .int .i64 vt39.Z], .int .i64 vt40], .agg #[.int .i64 b1.ID, .int .i64 b1.Was.X, .int .i64 b1.Was.Y, .int .i64 b1.Was.Z, .int .i64 b1.Here.X, .int .i64 b1.Here.Y, .int .i64 b1.Here.Z, .int .i64 b1.Rate], .int .i64 vt15, .tuple #[.agg #[.int .i64 vt38.X, .int .i64 vt38.Y, .int .i64 vt38.Z], .agg #[.int .i64 vt39.X, .int .i64 vt39.Y, .int .i64 vt39.Z], .int .i64 vt40], .agg #[.int .i64 vt38.X, .int .i64 vt38.Y, .int .i64 vt38.Z], .agg #[.int .i64 vt39.X, .int .i64 vt39.Y, .int .i64 vt39.Z], .int .i64 vt40, .int .i64 vt40, .bool false, undef, undef, .tuple #[.agg #[.int .i64 vt73.X, .int .i64 vt73.Y, .int .i64 vt73.Z], .int .i64 vt74], .agg #[.int .i64 vt38.X, .int .i64 vt38.Y, .int .i64 vt38.Z], .agg #[.int .i64 vt39.X, .int .i64 vt39.Y, .int .i64 vt39.Z], .tuple #[.agg #[.int .i64 vt73.X, .int .i64 vt73.Y, .int .i64 vt73.Z], .int .i64 vt74], .agg #[.int .i64 vt73.X, .int .i64 vt73.Y, .int .i64 vt73.Z], .int .i64 vt74, .int .i64 vt74, .bool false, undef, undef, .int .i64 vt2, .int .i64 vt15, .int .i64 (w64 (vt15 * 86400000)), .int .i64 (w64 (vt2 - (w64 (vt15 * 86400000)))), .func (.func 36) #[] #[.pointer (some ⟨b99, 0, none⟩)], undef, undef, undef, undef, undef, undef, undef, undef, undef, undef, undef, undef, undef, undef, undef, undef, undef, undef, undef], []⟩) (by kernel_rfl) ?_
          refine wpList_nil ?_
          refine hK106 _ _ ?_
          refine wp_seq_k (fun K107 hK108 => ?_)
          have HS109 := HS104.u5
          have HS110 := HS109.u4
          have HS111 := HS110.u4
          have HS112 := HS111.u4
          have HS113 := HS112.u4
          have HS114 := HS113.u5
          refine heldG (S := Sg t f76 ([(b99, .cells #[.int .i64 (w64 (vt2 - (w64 (vt15 * 86400000))))] 2 (0, 0))] :: [(b80, .cells #[.int .i64 vt73.X, .int .i64 vt73.Y, .int .i64 vt73.Z] 23 (0, 0))] :: [(b50, .cells #[.int .i64 vt39.X, .int .i64 vt39.Y, .int .i64 vt39.Z] 23 (0, 0))] :: [(b46, .cells #[.int .i64 vt38.X, .int .i64 vt38.Y, .int .i64 vt38.Z] 23 (0, 0))] :: [(b5, .cells #[.int .i64 b1.ID, .int .i64 b1.Was.X, .int .i64 b1.Was.Y, .int .i64 b1.Was.Z, .int .i64 b1.Here.X, .int .i64 b1.Here.Y, .int .i64 b1.Here.Z, .int .i64 b1.Rate] 36 (0, 0))] :: H) [(19, [(b9, .cells #[.int .i64 0, .int .i64 0, .int .i64 0] 23 (0, 0))])]) (n := 21) (by kernel_rfl) rfl HS114 ?_
          intro W115 HS116
          refine takeG [0, 1] (n := 21) (fuel := 19) (l' := #[true, true, false, false, false, false, false, false, false, false, false, false, false, false, false, false, false, false, false, false, false]) (a' := ⟨#[.agg #[.int .i64 b1.ID, .int .i64 b1.Was.X, .int .i64 b1.Was.Y, .int .i64 b1.Was.Z, .int .i64 b1.Here.X, .int .i64 b1.Here.Y, .int .i64 b1.Here.Z, .int .i64 b1.Rate], .int .i64 vt2, .pointer (some ⟨b5, 0, none⟩), undef, .pointer (some ⟨b9, 0, none⟩), .int .i64 0, .int .i64 vt15, .pointer (some ⟨b46, 0, none⟩), .pointer (some ⟨b50, 0, none⟩), .int .i64 vt74, .pointer (some ⟨b80, 0, none⟩), .pointer (some ⟨b99, 0, none⟩), .func (.func 36) #[] #[.pointer (some ⟨b99, 0, none⟩)], .int .i64 vt2, .int .i64 vt15, .int .i64 vt15, .bool false, .bool false, .int .i64 vt15, .bool false, .bool false, undef, .tuple #[.agg #[.int .i64 vt38.X, .int .i64 vt38.Y, .int .i64 vt38.Z], .agg #[.int .i64 vt39.X, .int .i64 vt39.Y, .int .i64 vt39.Z], .int .i64 vt40], .agg #[.int .i64 b1.ID, .int .i64 b1.Was.X, .int .i64 b1.Was.Y, .int .i64 b1.Was.Z, .int .i64 b1.Here.X, .int .i64 b1.Here.Y, .int .i64 b1.Here.Z, .int .i64 b1.Rate], .int .i64 vt15, .tuple #[.agg #[.int .i64 vt38.X, .int .i64 vt38.Y, .int .i64 vt38.Z], .agg #[.int .i64 vt39.X, .int .i64 vt39.Y, .int .i64 vt39.Z], .int .i64 vt40], .agg #[.int .i64 vt38.X, .int .i64 vt38.Y, .int .i64 vt38.Z], .agg #[.int .i64 vt39.X, .int .i64 vt39.Y, .int .i64 vt39.Z], .int .i64 vt40, .int .i64 vt40, .bool false, undef, undef, .tuple #[.agg #[.int .i64 vt73.X, .int .i64 vt73.Y, .int .i64 vt73.Z], .int .i64 vt74], .agg #[.int .i64 vt38.X, .int .i64 vt38.Y, .int .i64 vt38.Z], .agg #[.int .i64 vt39.X, .int .i64 vt39.Y, .int .i64 vt39.Z], .tuple #[.agg #[.int .i64 vt73.X, .int .i64 vt73.Y, .int .i64 vt73.Z], .int .i64 vt74], .agg #[.int .i64 vt73.X, .int .i64 vt73.Y, .int .i64 vt73.Z], .int .i64 vt74, .int .i64 vt74, .bool false, undef, undef, .int .i64 vt2, .int .i64 vt15, .int .i64 (w64 (vt15 * 86400000)), .int .i64 (w64 (vt2 - (w64 (vt15 * 86400000)))), .func (.func 36) #[] #[.pointer (some ⟨b99, 0, none⟩)], .func (.func 36) #[] #[.pointer (some ⟨b99, 0, none⟩)], .pointer (some ⟨b50, 0, none⟩), undef, undef, undef, undef, undef, undef, undef, undef, undef, undef, undef, undef, undef, undef, undef, undef, undef], []⟩) rfl (by kernel_rfl) (by kernel_rfl) (by kernel_rfl) hnp (Sg.g1 (Sx.of [[(b9, .cells #[.int .i64 0, .int .i64 0, .int .i64 0] 23 (0, 0))]] (FM.le.refl _) HS116) (fun _ => St.only [] HS116 (FM.le.refl _))) ?_
          refine takeGQ 2 [] rfl (by kernel_rfl) (by kernel_rfl) (by kernel_rfl) (by kernel_rfl) (by kernel_rfl) (by kernel_rfl) hnp (Sg.g1 (Sx.of [[(b9, .cells #[.int .i64 0, .int .i64 0, .int .i64 0] 23 (0, 0))]] (FM.le.refl _) HS116) (fun _ => St.only [] HS116 (FM.le.refl _))) (fun w_ hw_ => by obtain ⟨g_, hl_, hS_⟩ := hw_.st; exact run_load rfl Try.underlying2 rfl (by kernel_rfl : _ = Value.pointer (some ⟨b50, 0, none⟩)) (hS_.u2.cell 0)) ?_
          refine takeG [3] (n := 18) (fuel := 17) (l' := #[true, true, true, true, false, false, false, false, false, false, false, false, false, false, false, false, false, false, false, false, false]) (a' := ⟨#[.agg #[.int .i64 b1.ID, .int .i64 b1.Was.X, .int .i64 b1.Was.Y, .int .i64 b1.Was.Z, .int .i64 b1.Here.X, .int .i64 b1.Here.Y, .int .i64 b1.Here.Z, .int .i64 b1.Rate], .int .i64 vt2, .pointer (some ⟨b5, 0, none⟩), undef, .pointer (some ⟨b9, 0, none⟩), .int .i64 0, .int .i64 vt15, .pointer (some ⟨b46, 0, none⟩), .pointer (some ⟨b50, 0, none⟩), .int .i64 vt74, .pointer (some ⟨b80, 0, none⟩), .pointer (some ⟨b99, 0, none⟩), .func (.func 36) #[] #[.pointer (some ⟨b99, 0, none⟩)], .int .i64 vt2, .int .i64 vt15, .int .i64 vt15, .bool false, .bool false, .int .i64 vt15, .bool false, .bool false, undef, .tuple #[.agg #[.int .i64 vt38.X, .int .i64 vt38.Y, .int .i64 vt38.Z], .agg #[.int .i64 vt39.X, .int .i64 vt39.Y, .int .i64 vt39.Z], .int .i64 vt40], .agg #[.int .i64 b1.ID, .int .i64 b1.Was.X, .int .i64 b1.Was.Y, .int .i64 b1.Was.Z, .int .i64 b1.Here.X, .int .i64 b1.Here.Y, .int .i64 b1.Here.Z, .int .i64 b1.Rate], .int .i64 vt15, .tuple #[.agg #[.int .i64 vt38.X, .int .i64 vt38.Y, .int .i64 vt38.Z], .agg #[.int .i64 vt39.X, .int .i64 vt39.Y, .int .i64 vt39.Z], .int .i64 vt40], .agg #[.int .i64 vt38.X, .int .i64 vt38.Y, .int .i64 vt38.Z], .agg #[.int .i64 vt39.X, .int .i64 vt39.Y, .int .i64 vt39.Z], .int .i64 vt40, .int .i64 vt40, .bool false, undef, undef, .tuple #[.agg #[.int .i64 vt73.X, .int .i64 vt73.Y, .int .i64 vt73.Z], .int .i64 vt74], .agg #[.int .i64 vt38.X, .int .i64 vt38.Y, .int .i64 vt38.Z], .agg #[.int .i64 vt39.X, .int .i64 vt39.Y, .int .i64 vt39.Z], .tuple #[.agg #[.int .i64 vt73.X, .int .i64 vt73.Y, .int .i64 vt73.Z], .int .i64 vt74], .agg #[.int .i64 vt73.X, .int .i64 vt73.Y, .int .i64 vt73.Z], .int .i64 vt74, .int .i64 vt74, .bool false, undef, undef, .int .i64 vt2, .int .i64 vt15, .int .i64 (w64 (vt15 * 86400000)), .int .i64 (w64 (vt2 - (w64 (vt15 * 86400000)))), .func (.func 36) #[] #[.pointer (some ⟨b99, 0, none⟩)], .func (.func 36) #[] #[.pointer (some ⟨b99, 0, none⟩)], .pointer (some ⟨b50, 0, none⟩), .int .i64 vt39.X, .pointer (some ⟨b80, 0, none⟩), undef, undef, undef, undef, undef, undef, undef, undef, undef, undef, undef, undef, undef, undef, undef], []⟩) rfl (by kernel_rfl) (by kernel_rfl) (by kernel_rfl) hnp (Sg.g1 (Sx.of [[(b9, .cells #[.int .i64 0, .int .i64 0, .int .i64 0] 23 (0, 0))]] (FM.le.refl _) HS116) (fun _ => St.only [] HS116 (FM.le.refl _))) ?_
          refine takeGQ 4 [] rfl (by kernel_rfl) (by kernel_rfl) (by kernel_rfl) (by kernel_rfl) (by kernel_rfl) (by kernel_rfl) hnp (Sg.g1 (Sx.of [[(b9, .cells #[.int .i64 0, .int .i64 0, .int .i64 0] 23 (0, 0))]] (FM.le.refl _) HS116) (fun _ => St.only [] HS116 (FM.le.refl _))) (fun w_ hw_ => by obtain ⟨g_, hl_, hS_⟩ := hw_.st; exact run_load rfl Try.underlying2 rfl (by kernel_rfl : _ = Value.pointer (some ⟨b80, 0, none⟩)) (hS_.u1.cell 0)) ?_
          refine takeG [6, 7] (n := 16) (fuel := 14) (l' := #[true, true, true, true, true, false, true, true, false, false, false, false, false, false, false, false, false, false, false, false, false]) (a' := ⟨#[.agg #[.int .i64 b1.ID, .int .i64 b1.Was.X, .int .i64 b1.Was.Y, .int .i64 b1.Was.Z, .int .i64 b1.Here.X, .int .i64 b1.Here.Y, .int .i64 b1.Here.Z, .int .i64 b1.Rate], .int .i64 vt2, .pointer (some ⟨b5, 0, none⟩), undef, .pointer (some ⟨b9, 0, none⟩), .int .i64 0, .int .i64 vt15, .pointer (some ⟨b46, 0, none⟩), .pointer (some ⟨b50, 0, none⟩), .int .i64 vt74, .pointer (some ⟨b80, 0, none⟩), .pointer (some ⟨b99, 0, none⟩), .func (.func 36) #[] #[.pointer (some ⟨b99, 0, none⟩)], .int .i64 vt2, .int .i64 vt15, .int .i64 vt15, .bool false, .bool false, .int .i64 vt15, .bool false, .bool false, undef, .tuple #[.agg #[.int .i64 vt38.X, .int .i64 vt38.Y, .int .i64 vt38.Z], .agg #[.int .i64 vt39.X, .int .i64 vt39.Y, .int .i64 vt39.Z], .int .i64 vt40], .agg #[.int .i64 b1.ID, .int .i64 b1.Was.X, .int .i64 b1.Was.Y, .int .i64 b1.Was.Z, .int .i64 b1.Here.X, .int .i64 b1.Here.Y, .int .i64 b1.Here.Z, .int .i64 b1.Rate], .int .i64 vt15, .tuple #[.agg #[.int .i64 vt38.X, .int .i64 vt38.Y, .int .i64 vt38.Z], .agg #[.int .i64 vt39.X, .int .i64 vt39.Y, .int .i64 vt39.Z], .int .i64 vt40], .agg #[.int .i64 vt38.X, .int .i64 vt38.Y, .int .i64 vt38.Z], .agg #[.int .i64 vt39.X, .int .i64 vt39.Y, .int .i64 vt39.Z], .int .i64 vt40, .int .i64 vt40, .bool false, undef, undef, .tuple #[.agg #[.int .i64 vt73.X, .int .i64 vt73.Y, .int .i64 vt73.Z], .int .i64 vt74], .agg #[.int .i64 vt38.X, .int .i64 vt38.Y, .int .i64 vt38.Z], .agg #[.int .i64 vt39.X, .int .i64 vt39.Y, .int .i64 vt39.Z], .tuple #[.agg #[.int .i64 vt73.X, .int .i64 vt73.Y, .int .i64 vt73.Z], .int .i64 vt74], .agg #[.int .i64 vt73.X, .int .i64 vt73.Y, .int .i64 vt73.Z], .int .i64 vt74, .int .i64 vt74, .bool false, undef, undef, .int .i64 vt2, .int .i64 vt15, .int .i64 (w64 (vt15 * 86400000)), .int .i64 (w64 (vt2 - (w64 (vt15 * 86400000)))), .func (.func 36) #[] #[.pointer (some ⟨b99, 0, none⟩)], .func (.func 36) #[] #[.pointer (some ⟨b99, 0, none⟩)], .pointer (some ⟨b50, 0, none⟩), .int .i64 vt39.X, .pointer (some ⟨b80, 0, none⟩), .int .i64 vt73.X, undef, .func (.func 36) #[] #[.pointer (some ⟨b99, 0, none⟩)], .pointer (some ⟨b50, 1, none⟩), undef, undef, undef, undef, undef, undef, undef, undef, undef, undef, undef], []⟩) rfl (by kernel_rfl) (by kernel_rfl) (by kernel_rfl) hnp (Sg.g1 (Sx.of [[(b9, .cells #[.int .i64 0, .int .i64 0, .int .i64 0] 23 (0, 0))]] (FM.le.refl _) HS116) (fun _ => St.only [] HS116 (FM.le.refl _))) ?_
          refine takeGQ 8 [] rfl (by kernel_rfl) (by kernel_rfl) (by kernel_rfl) (by kernel_rfl) (by kernel_rfl) (by kernel_rfl) hnp (Sg.g1 (Sx.of [[(b9, .cells #[.int .i64 0, .int .i64 0, .int .i64 0] 23 (0, 0))]] (FM.le.refl _) HS116) (fun _ => St.only [] HS116 (FM.le.refl _))) (fun w_ hw_ => by obtain ⟨g_, hl_, hS_⟩ := hw_.st; exact run_load rfl Try.underlying2 rfl (by kernel_rfl : _ = Value.pointer (some ⟨b50, 1, none⟩)) (hS_.u2.cell 1)) ?_
          refine takeG [9] (n := 13) (fuel := 12) (l' := #[true, true, true, true, true, false, true, true, true, true, false, false, false, false, false, false, false, false, false, false, false]) (a' := ⟨#[.agg #[.int .i64 b1.ID, .int .i64 b1.Was.X, .int .i64 b1.Was.Y, .int .i64 b1.Was.Z, .int .i64 b1.Here.X, .int .i64 b1.Here.Y, .int .i64 b1.Here.Z, .int .i64 b1.Rate], .int .i64 vt2, .pointer (some ⟨b5, 0, none⟩), undef, .pointer (some ⟨b9, 0, none⟩), .int .i64 0, .int .i64 vt15, .pointer (some ⟨b46, 0, none⟩), .pointer (some ⟨b50, 0, none⟩), .int .i64 vt74, .pointer (some ⟨b80, 0, none⟩), .pointer (some ⟨b99, 0, none⟩), .func (.func 36) #[] #[.pointer (some ⟨b99, 0, none⟩)], .int .i64 vt2, .int .i64 vt15, .int .i64 vt15, .bool false, .bool false, .int .i64 vt15, .bool false, .bool false, undef, .tuple #[.agg #[.int .i64 vt38.X, .int .i64 vt38.Y, .int .i64 vt38.Z], .agg #[.int .i64 vt39.X, .int .i64 vt39.Y, .int .i64 vt39.Z], .int .i64 vt40], .agg #[.int .i64 b1.ID, .int .i64 b1.Was.X, .int .i64 b1.Was.Y, .int .i64 b1.Was.Z, .int .i64 b1.Here.X, .int .i64 b1.Here.Y, .int .i64 b1.Here.Z, .int .i64 b1.Rate], .int .i64 vt15, .tuple #[.agg #[.int .i64 vt38.X, .int .i64 vt38.Y, .int .i64 vt38.Z], .agg #[.int .i64 vt39.X, .int .i64 vt39.Y, .int .i64 vt39.Z], .int .i64 vt40], .agg #[.int .i64 vt38.X, .int .i64 vt38.Y, .int .i64 vt38.Z], .agg #[.int .i64 vt39.X, .int .i64 vt39.Y, .int .i64 vt39.Z], .int .i64 vt40, .int .i64 vt40, .bool false, undef, undef, .tuple #[.agg #[.int .i64 vt73.X, .int .i64 vt73.Y, .int .i64 vt73.Z], .int .i64 vt74], .agg #[.int .i64 vt38.X, .int .i64 vt38.Y, .int .i64 vt38.Z], .agg #[.int .i64 vt39.X, .int .i64 vt39.Y, .int .i64 vt39.Z], .tuple #[.agg #[.int .i64 vt73.X, .int .i64 vt73.Y, .int .i64 vt73.Z], .int .i64 vt74], .agg #[.int .i64 vt73.X, .int .i64 vt73.Y, .int .i64 vt73.Z], .int .i64 vt74, .int .i64 vt74, .bool false, undef, undef, .int .i64 vt2, .int .i64 vt15, .int .i64 (w64 (vt15 * 86400000)), .int .i64 (w64 (vt2 - (w64 (vt15 * 86400000)))), .func (.func 36) #[] #[.pointer (some ⟨b99, 0, none⟩)], .func (.func 36) #[] #[.pointer (some ⟨b99, 0, none⟩)], .pointer (some ⟨b50, 0, none⟩), .int .i64 vt39.X, .pointer (some ⟨b80, 0, none⟩), .int .i64 vt73.X, undef, .func (.func 36) #[] #[.pointer (some ⟨b99, 0, none⟩)], .pointer (some ⟨b50, 1, none⟩), .int .i64 vt39.Y, .pointer (some ⟨b80, 1, none⟩), undef, undef, undef, undef, undef, undef, undef, undef, undef], []⟩) rfl (by kernel_rfl) (by kernel_rfl) (by kernel_rfl) hnp (Sg.g1 (Sx.of [[(b9, .cells #[.int .i64 0, .int .i64 0, .int .i64 0] 23 (0, 0))]] (FM.le.refl _) HS116) (fun _ => St.only [] HS116 (FM.le.refl _))) ?_
          refine takeGQ 10 [] rfl (by kernel_rfl) (by kernel_rfl) (by kernel_rfl) (by kernel_rfl) (by kernel_rfl) (by kernel_rfl) hnp (Sg.g1 (Sx.of [[(b9, .cells #[.int .i64 0, .int .i64 0, .int .i64 0] 23 (0, 0))]] (FM.le.refl _) HS116) (fun _ => St.only [] HS116 (FM.le.refl _))) (fun w_ hw_ => by obtain ⟨g_, hl_, hS_⟩ := hw_.st; exact run_load rfl Try.underlying2 rfl (by kernel_rfl : _ = Value.pointer (some ⟨b80, 1, none⟩)) (hS_.u1.cell 1)) ?_
          refine takeG [12, 13] (n := 11) (fuel := 9) (l' := #[true, true, true, true, true, false, true, true, true, true, true, false, true, true, false, false, false, false, false, false, false]) (a' := ⟨#[.agg #[.int .i64 b1.ID, .int .i64 b1.Was.X, .int .i64 b1.Was.Y, .int .i64 b1.Was.Z, .int .i64 b1.Here.X, .int .i64 b1.Here.Y, .int .i64 b1.Here.Z, .int .i64 b1.Rate], .int .i64 vt2, .pointer (some ⟨b5, 0, none⟩), undef, .pointer (some ⟨b9, 0, none⟩), .int .i64 0, .int .i64 vt15, .pointer (some ⟨b46, 0, none⟩), .pointer (some ⟨b50, 0, none⟩), .int .i64 vt74, .pointer (some ⟨b80, 0, none⟩), .pointer (some ⟨b99, 0, none⟩), .func (.func 36) #[] #[.pointer (some ⟨b99, 0, none⟩)], .int .i64 vt2, .int .i64 vt15, .int .i64 vt15, .bool false, .bool false, .int .i64 vt15, .bool false, .bool false, undef, .tuple #[.agg #[.int .i64 vt38.X, .int .i64 vt38.Y, .int .i64 vt38.Z], .agg #[.int .i64 vt39.X, .int .i64 vt39.Y, .int .i64 vt39.Z], .int .i64 vt40], .agg #[.int .i64 b1.ID, .int .i64 b1.Was.X, .int .i64 b1.Was.Y, .int .i64 b1.Was.Z, .int .i64 b1.Here.X, .int .i64 b1.Here.Y, .int .i64 b1.Here.Z, .int .i64 b1.Rate], .int .i64 vt15, .tuple #[.agg #[.int .i64 vt38.X, .int .i64 vt38.Y, .int .i64 vt38.Z], .agg #[.int .i64 vt39.X, .int .i64 vt39.Y, .int .i64 vt39.Z], .int .i64 vt40], .agg #[.int .i64 vt38.X, .int .i64 vt38.Y, .int .i64 vt38.Z], .agg #[.int .i64 vt39.X, .int .i64 vt39.Y, .int .i64 vt39.Z], .int .i64 vt40, .int .i64 vt40, .bool false, undef, undef, .tuple #[.agg #[.int .i64 vt73.X, .int .i64 vt73.Y, .int .i64 vt73.Z], .int .i64 vt74], .agg #[.int .i64 vt38.X, .int .i64 vt38.Y, .int .i64 vt38.Z], .agg #[.int .i64 vt39.X, .int .i64 vt39.Y, .int .i64 vt39.Z], .tuple #[.agg #[.int .i64 vt73.X, .int .i64 vt73.Y, .int .i64 vt73.Z], .int .i64 vt74], .agg #[.int .i64 vt73.X, .int .i64 vt73.Y, .int .i64 vt73.Z], .int .i64 vt74, .int .i64 vt74, .bool false, undef, undef, .int .i64 vt2, .int .i64 vt15, .int .i64 (w64 (vt15 * 86400000)), .int .i64 (w64 (vt2 - (w64 (vt15 * 86400000)))), .func (.func 36) #[] #[.pointer (some ⟨b99, 0, none⟩)], .func (.func 36) #[] #[.pointer (some ⟨b99, 0, none⟩)], .pointer (some ⟨b50, 0, none⟩), .int .i64 vt39.X, .pointer (some ⟨b80, 0, none⟩), .int .i64 vt73.X, undef, .func (.func 36) #[] #[.pointer (some ⟨b99, 0, none⟩)], .pointer (some ⟨b50, 1, none⟩), .int .i64 vt39.Y, .pointer (some ⟨b80, 1, none⟩), .int .i64 vt73.Y, undef, .func (.func 36) #[] #[.pointer (some ⟨b99, 0, none⟩)], .pointer (some ⟨b50, 2, none⟩), undef, undef, undef, undef, undef], []⟩) rfl (by kernel_rfl) (by kernel_rfl) (by kernel_rfl) hnp (Sg.g1 (Sx.of [[(b9, .cells #[.int .i64 0, .int .i64 0, .int .i64 0] 23 (0, 0))]] (FM.le.refl _) HS116) (fun _ => St.only [] HS116 (FM.le.refl _))) ?_
          refine takeGQ 14 [] rfl (by kernel_rfl) (by kernel_rfl) (by kernel_rfl) (by kernel_rfl) (by kernel_rfl) (by kernel_rfl) hnp (Sg.g1 (Sx.of [[(b9, .cells #[.int .i64 0, .int .i64 0, .int .i64 0] 23 (0, 0))]] (FM.le.refl _) HS116) (fun _ => St.only [] HS116 (FM.le.refl _))) (fun w_ hw_ => by obtain ⟨g_, hl_, hS_⟩ := hw_.st; exact run_load rfl Try.underlying2 rfl (by kernel_rfl : _ = Value.pointer (some ⟨b50, 2, none⟩)) (hS_.u2.cell 2)) ?_
          refine takeG [15] (n := 8) (fuel := 7) (l' := #[true, true, true, true, true, false, true, true, true, true, true, false, true, true, true, true, false, false, false, false, false]) (a' := ⟨#[.agg #[.int .i64 b1.ID, .int .i64 b1.Was.X, .int .i64 b1.Was.Y, .int .i64 b1.Was.Z, .int .i64 b1.Here.X, .int .i64 b1.Here.Y, .int .i64 b1.Here.Z, .int .i64 b1.Rate], .int .i64 vt2, .pointer (some ⟨b5, 0, none⟩), undef, .pointer (some ⟨b9, 0, none⟩), .int .i64 0, .int .i64 vt15, .pointer (some ⟨b46, 0, none⟩), .pointer (some ⟨b50, 0, none⟩), .int .i64 vt74, .pointer (some ⟨b80, 0, none⟩), .pointer (some ⟨b99, 0, none⟩), .func (.func 36) #[] #[.pointer (some ⟨b99, 0, none⟩)], .int .i64 vt2, .int .i64 vt15, .int .i64 vt15, .bool false, .bool false, .int .i64 vt15, .bool false, .bool false, undef, .tuple #[.agg #[.int .i64 vt38.X, .int .i64 vt38.Y, .int .i64 vt38.Z], .agg #[.int .i64 vt39.X, .int .i64 vt39.Y, .int .i64 vt39.Z], .int .i64 vt40], .agg #[.int .i64 b1.ID, .int .i64 b1.Was.X, .int .i64 b1.Was.Y, .int .i64 b1.Was.Z, .int .i64 b1.Here.X, .int .i64 b1.Here.Y, .int .i64 b1.Here.Z, .int .i64 b1.Rate], .int .i64 vt15, .tuple #[.agg #[.int .i64 vt38.X, .int .i64 vt38.Y, .int .i64 vt38.Z], .agg #[.int .i64 vt39.X, .int .i64 vt39.Y, .int .i64 vt39.Z], .int .i64 vt40], .agg #[.int .i64 vt38.X, .int .i64 vt38.Y, .int .i64 vt38.Z], .agg #[.int .i64 vt39.X, .int .i64 vt39.Y, .int .i64 vt39.Z], .int .i64 vt40, .int .i64 vt40, .bool false, undef, undef, .tuple #[.agg #[.int .i64 vt73.X, .int .i64 vt73.Y, .int .i64 vt73.Z], .int .i64 vt74], .agg #[.int .i64 vt38.X, .int .i64 vt38.Y, .int .i64 vt38.Z], .agg #[.int .i64 vt39.X, .int .i64 vt39.Y, .int .i64 vt39.Z], .tuple #[.agg #[.int .i64 vt73.X, .int .i64 vt73.Y, .int .i64 vt73.Z], .int .i64 vt74], .agg #[.int .i64 vt73.X, .int .i64 vt73.Y, .int .i64 vt73.Z], .int .i64 vt74, .int .i64 vt74, .bool false, undef, undef, .int .i64 vt2, .int .i64 vt15, .int .i64 (w64 (vt15 * 86400000)), .int .i64 (w64 (vt2 - (w64 (vt15 * 86400000)))), .func (.func 36) #[] #[.pointer (some ⟨b99, 0, none⟩)], .func (.func 36) #[] #[.pointer (some ⟨b99, 0, none⟩)], .pointer (some ⟨b50, 0, none⟩), .int .i64 vt39.X, .pointer (some ⟨b80, 0, none⟩), .int .i64 vt73.X, undef, .func (.func 36) #[] #[.pointer (some ⟨b99, 0, none⟩)], .pointer (some ⟨b50, 1, none⟩), .int .i64 vt39.Y, .pointer (some ⟨b80, 1, none⟩), .int .i64 vt73.Y, undef, .func (.func 36) #[] #[.pointer (some ⟨b99, 0, none⟩)], .pointer (some ⟨b50, 2, none⟩), .int .i64 vt39.Z, .pointer (some ⟨b80, 2, none⟩), undef, undef, undef], []⟩) rfl (by kernel_rfl) (by kernel_rfl) (by kernel_rfl) hnp (Sg.g1 (Sx.of [[(b9, .cells #[.int .i64 0, .int .i64 0, .int .i64 0] 23 (0, 0))]] (FM.le.refl _) HS116) (fun _ => St.only [] HS116 (FM.le.refl _))) ?_
          refine takeGQ 16 [] rfl (by kernel_rfl) (by kernel_rfl) (by kernel_rfl) (by kernel_rfl) (by kernel_rfl) (by kernel_rfl) hnp (Sg.g1 (Sx.of [[(b9, .cells #[.int .i64 0, .int .i64 0, .int .i64 0] 23 (0, 0))]] (FM.le.refl _) HS116) (fun _ => St.only [] HS116 (FM.le.refl _))) (fun w_ hw_ => by obtain ⟨g_, hl_, hS_⟩ := hw_.st; exact run_load rfl Try.underlying2 rfl (by kernel_rfl : _ = Value.pointer (some ⟨b80, 2, none⟩)) (hS_.u1.cell 2)) ?_
          have HS117 := HS116.u1
          have hq_ := bind_some h; clear h; obtain ⟨vt118, hc119, h⟩ := hq_
          refine takeGE 5 (by kernel_rfl) rfl (by kernel_rfl) (does_call (f := 36) (args := #[.int .i64 vt39.X, .int .i64 vt73.X, .pointer (some ⟨b99, 0, none⟩)]) (by kernel_rfl) (sky_Place_1.calls k b99 (w64 (vt2 - (w64 (vt15 * 86400000)))) vt39.X vt73.X HS117 vt118 hc119) ?_)
          rintro _ W122 ⟨f120, rfl, L121, HS123⟩
          refine ⟨_, rfl, ?_⟩
          have HS124 := HS123.u5
          have HS125 := HS124.u5
          have HS126 := HS125.u5
          have HS127 := HS126.u5
          have HS128 := HS127.u4
          have HS129 := HS128.u5
          refine ⟨(Sg.g1 (Sx.of [[(b9, .cells #[.int .i64 0, .int .i64 0, .int .i64 0] 23 (0, 0))]] L121 HS129) (fun _ => St.only [] HS129 L121)), ?_⟩
          have HS130 := HS129.u1
          have hq_ := bind_some h; clear h; obtain ⟨vt131, hc132, h⟩ := hq_
          refine takeGE 11 (by kernel_rfl) rfl (by kernel_rfl) (does_call (f := 36) (args := #[.int .i64 vt39.Y, .int .i64 vt73.Y, .pointer (some ⟨b99, 0, none⟩)]) (by kernel_rfl) (sky_Place_1.calls k b99 (w64 (vt2 - (w64 (vt15 * 86400000)))) vt39.Y vt73.Y HS130 vt131 hc132) ?_)
          rintro _ W135 ⟨f133, rfl, L134, HS136⟩
          refine ⟨_, rfl, ?_⟩
          have HS137 := HS136.u5
          have HS138 := HS137.u5
          have HS139 := HS138.u5
          have HS140 := HS139.u5
          have HS141 := HS140.u4
          have HS142 := HS141.u5
          refine ⟨(Sg.g1 (Sx.of [[(b9, .cells #[.int .i64 0, .int .i64 0, .int .i64 0] 23 (0, 0))]] (L121.trans L134) HS142) (fun _ => St.only [] HS142 (L121.trans L134))), ?_⟩
          have HS143 := HS142.u1
          have hq_ := bind_some h; clear h; obtain ⟨vt144, hc145, h⟩ := hq_
          refine takeGE 17 (by kernel_rfl) rfl (by kernel_rfl) (does_call (f := 36) (args := #[.int .i64 vt39.Z, .int .i64 vt73.Z, .pointer (some ⟨b99, 0, none⟩)]) (by kernel_rfl) (sky_Place_1.calls k b99 (w64 (vt2 - (w64 (vt15 * 86400000)))) vt39.Z vt73.Z HS143 vt144 hc145) ?_)
          rintro _ W148 ⟨f146, rfl, L147, HS149⟩
          refine ⟨_, rfl, ?_⟩
          have HS150 := HS149.u5
          have HS151 := HS150.u5
          have HS152 := HS151.u5
          have HS153 := HS152.u5
          have HS154 := HS153.u4
          have HS155 := HS154.u5
          refine ⟨(Sg.g1 (Sx.of [[(b9, .cells #[.int .i64 0, .int .i64 0, .int .i64 0] 23 (0, 0))]] (L121.trans (L134.trans L147)) HS155) (fun _ => St.only [] HS155 (L121.trans (L134.trans L147)))), ?_⟩
          refine takeG [18] (n := 3) (fuel := 2) (l' := #[true, true, true, true, true, true, true, true, true, true, true, true, true, true, true, true, true, true, true, false, false]) (a' := ⟨#[.agg #[.int .i64 b1.ID, .int .i64 b1.Was.X, .int .i64 b1.Was.Y, .int .i64 b1.Was.Z, .int .i64 b1.Here.X, .int .i64 b1.Here.Y, .int .i64 b1.Here.Z, .int .i64 b1.Rate], .int .i64 vt2, .pointer (some ⟨b5, 0, none⟩), undef, .pointer (some ⟨b9, 0, none⟩), .int .i64 0, .int .i64 vt15, .pointer (some ⟨b46, 0, none⟩), .pointer (some ⟨b50, 0, none⟩), .int .i64 vt74, .pointer (some ⟨b80, 0, none⟩), .pointer (some ⟨b99, 0, none⟩), .func (.func 36) #[] #[.pointer (some ⟨b99, 0, none⟩)], .int .i64 vt2, .int .i64 vt15, .int .i64 vt15, .bool false, .bool false, .int .i64 vt15, .bool false, .bool false, undef, .tuple #[.agg #[.int .i64 vt38.X, .int .i64 vt38.Y, .int .i64 vt38.Z], .agg #[.int .i64 vt39.X, .int .i64 vt39.Y, .int .i64 vt39.Z], .int .i64 vt40], .agg #[.int .i64 b1.ID, .int .i64 b1.Was.X, .int .i64 b1.Was.Y, .int .i64 b1.Was.Z, .int .i64 b1.Here.X, .int .i64 b1.Here.Y, .int .i64 b1.Here.Z, .int .i64 b1.Rate], .int .i64 vt15, .tuple #[.agg #[.int .i64 vt38.X, .int .i64 vt38.Y, .int .i64 vt38.Z], .agg #[.int .i64 vt39.X, .int .i64 vt39.Y, .int .i64 vt39.Z], .int .i64 vt40], .agg #[.int .i64 vt38.X, .int .i64 vt38.Y, .int .i64 vt38.Z], .agg #[.int .i64 vt39.X, .int .i64 vt39.Y, .int .i64 vt39.Z], .int .i64 vt40, .int .i64 vt40, .bool false, undef, undef, .tuple #[.agg #[.int .i64 vt73.X, .int .i64 vt73.Y, .int .i64 vt73.Z], .int .i64 vt74], .agg #[.int .i64 vt38.X, .int .i64 vt38.Y, .int .i64 vt38.Z], .agg #[.int .i64 vt39.X, .int .i64 vt39.Y, .int .i64 vt39.Z], .tuple #[.agg #[.int .i64 vt73.X, .int .i64 vt73.Y, .int .i64 vt73.Z], .int .i64 vt74], .agg #[.int .i64 vt73.X, .int .i64 vt73.Y, .int .i64 vt73.Z], .int .i64 vt74, .int .i64 vt74, .bool false, undef, undef, .int .i64 vt2, .int .i64 vt15, .int .i64 (w64 (vt15 * 86400000)), .int .i64 (w64 (vt2 - (w64 (vt15 * 86400000)))), .func (.func 36) #[] #[.pointer (some ⟨b99, 0, none⟩)], .func (.func 36) #[] #[.pointer (some ⟨b99, 0, none⟩)], .pointer (some ⟨b50, 0, none⟩), .int .i64 vt39.X, .pointer (some ⟨b80, 0, none⟩), .int .i64 vt73.X, .int .i64 vt118, .func (.func 36) #[] #[.pointer (some ⟨b99, 0, none⟩)], .pointer (some ⟨b50, 1, none⟩), .int .i64 vt39.Y, .pointer (some ⟨b80, 1, none⟩), .int .i64 vt73.Y, .int .i64 vt131, .func (.func 36) #[] #[.pointer (some ⟨b99, 0, none⟩)], .pointer (some ⟨b50, 2, none⟩), .int .i64 vt39.Z, .pointer (some ⟨b80, 2, none⟩), .int .i64 vt73.Z, .int .i64 vt144, .agg #[.int .i64 vt118, .int .i64 vt131, .int .i64 vt144]], []⟩) rfl (by kernel_rfl) (by kernel_rfl) (by kernel_rfl) hnp (Sg.g1 (Sx.of [[(b9, .cells #[.int .i64 0, .int .i64 0, .int .i64 0] 23 (0, 0))]] (L121.trans (L134.trans L147)) HS155) (fun _ => St.only [] HS155 (L121.trans (L134.trans L147)))) ?_
          refine takeGE 19 (by kernel_rfl) rfl (by kernel_rfl) (does_store (n := 3) (vs := [.int .i64 vt118, .int .i64 vt131, .int .i64 vt144]) (cs' := #[.int .i64 vt118, .int .i64 vt131, .int .i64 vt144]) rfl (by kernel_rfl) (by kernel_rfl : _ = Value.pointer (some ⟨b9, 0, none⟩)) (by kernel_rfl : _ = Value.agg #[.int .i64 vt118, .int .i64 vt131, .int .i64 vt144]) rfl rfl (by intro u_ hu_; simp only [List.mem_cons, List.not_mem_nil, or_false] at hu_; rcases hu_ with rfl | rfl | rfl <;> rfl) HS155 (Nat.le_of_ble_eq_true rfl) (by kernel_rfl) ?_)
          intro W156 HS157
          refine ⟨(Sg.g1 (Sx.of [[(b9, .cells #[.int .i64 vt118, .int .i64 vt131, .int .i64 vt144] 23 (0, 0))]] (L121.trans (L134.trans L147)) HS157) (fun hl_ => Bool.noConfusion (show true = false from hl_))), ?_⟩
          refine takeG [20] (n := 1) (fuel := 0) (l' := #[true, true, true, true, true, true, true, true, true, true, true, true, true, true, true, true, true, true, true, true, true]) (a' := ⟨#[.agg #[.int .i64 b1.ID, .int .i64 b1.Was.X, .int .i64 b1.Was.Y, .int .i64 b1.Was.Z, .int .i64 b1.Here.X, .int .i64 b1.Here.Y, .int .i64 b1.Here.Z, .int .i64 b1.Rate], .int .i64 vt2, .pointer (some ⟨b5, 0, none⟩), undef, .pointer (some ⟨b9, 0, none⟩), .int .i64 0, .int .i64 vt15, .pointer (some ⟨b46, 0, none⟩), .pointer (some ⟨b50, 0, none⟩), .int .i64 vt74, .pointer (some ⟨b80, 0, none⟩), .pointer (some ⟨b99, 0, none⟩), .func (.func 36) #[] #[.pointer (some ⟨b99, 0, none⟩)], .int .i64 vt2, .int .i64 vt15, .int .i64 vt15, .bool false, .bool false, .int .i64 vt15, .bool false, .bool false, undef, .tuple #[.agg #[.int .i64 vt38.X, .int .i64 vt38.Y, .int .i64 vt38.Z], .agg #[.int .i64 vt39.X, .int .i64 vt39.Y, .int .i64 vt39.Z], .int .i64 vt40], .agg #[.int .i64 b1.ID, .int .i64 b1.Was.X, .int .i64 b1.Was.Y, .int .i64 b1.Was.Z, .int .i64 b1.Here.X, .int .i64 b1.Here.Y, .int .i64 b1.Here.Z, .int .i64 b1.Rate], .int .i64 vt15, .tuple #[.agg #[.int .i64 vt38.X, .int .i64 vt38.Y, .int .i64 vt38.Z], .agg #[.int .i64 vt39.X, .int .i64 vt39.Y, .int .i64 vt39.Z], .int .i64 vt40], .agg #[.int .i64 vt38.X, .int .i64 vt38.Y, .int .i64 vt38.Z], .agg #[.int .i64 vt39.X, .int .i64 vt39.Y, .int .i64 vt39.Z], .int .i64 vt40, .int .i64 vt40, .bool false, undef, undef, .tuple #[.agg #[.int .i64 vt73.X, .int .i64 vt73.Y, .int .i64 vt73.Z], .int .i64 vt74], .agg #[.int .i64 vt38.X, .int .i64 vt38.Y, .int .i64 vt38.Z], .agg #[.int .i64 vt39.X, .int .i64 vt39.Y, .int .i64 vt39.Z], .tuple #[.agg #[.int .i64 vt73.X, .int .i64 vt73.Y, .int .i64 vt73.Z], .int .i64 vt74], .agg #[.int .i64 vt73.X, .int .i64 vt73.Y, .int .i64 vt73.Z], .int .i64 vt74, .int .i64 vt74, .bool false, undef, undef, .int .i64 vt2, .int .i64 vt15, .int .i64 (w64 (vt15 * 86400000)), .int .i64 (w64 (vt2 - (w64 (vt15 * 86400000)))), .func (.func 36) #[] #[.pointer (some ⟨b99, 0, none⟩)], .func (.func 36) #[] #[.pointer (some ⟨b99, 0, none⟩)], .pointer (some ⟨b50, 0, none⟩), .int .i64 vt39.X, .pointer (some ⟨b80, 0, none⟩), .int .i64 vt73.X, .int .i64 vt118, .func (.func 36) #[] #[.pointer (some ⟨b99, 0, none⟩)], .pointer (some ⟨b50, 1, none⟩), .int .i64 vt39.Y, .pointer (some ⟨b80, 1, none⟩), .int .i64 vt73.Y, .int .i64 vt131, .func (.func 36) #[] #[.pointer (some ⟨b99, 0, none⟩)], .pointer (some ⟨b50, 2, none⟩), .int .i64 vt39.Z, .pointer (some ⟨b80, 2, none⟩), .int .i64 vt73.Z, .int .i64 vt144, .agg #[.int .i64 vt118, .int .i64 vt131, .int .i64 vt144]], []⟩) rfl (by kernel_rfl) (by kernel_rfl) (by kernel_rfl) hnp (Sg.g1 (Sx.of [[(b9, .cells #[.int .i64 vt118, .int .i64 vt131, .int .i64 vt144] 23 (0, 0))]] (L121.trans (L134.trans L147)) HS157) (fun hl_ => Bool.noConfusion (show true = false from hl_))) ?_
          refine doneG (by kernel_rfl) ?_ _
          refine hK108 _ _ ?_
          refine wp_ret ?_
          refine hret _ _ ?_
          refine ends (v := Value.tuple #[.agg #[.int .i64 vt118, .int .i64 vt131, .int .i64 vt144], .int .i64 0]) (results2 (q1 := .cell 4 23) (q2 := .tmp 5) (by kernel_rfl) (resN (n := 3) (cs := [.int .i64 vt118, .int .i64 vt131, .int .i64 vt144]) (by kernel_rfl : _ = Value.pointer (some ⟨b9, 0, none⟩)) Try.underlying23 rfl (by kernel_rfl) rfl (HS157.cells 0 3 _ rfl)) (resT (by kernel_rfl : _ = Value.int .i64 0))) (by kernel_rfl) ?_
          have HS171 := HS157.drop
          have HS172 := HS171.drop
          have HS173 := HS172.drop
          have HS174 := HS173.drop
          have HS175 := HS174.drop
          have HS176 := HS175.drop
          injection h with h
          injection h with h0_ h
          subst h0_ h
          exact ⟨f146, rfl, (L18.trans (L43.trans (L77.trans (L121.trans (L134.trans L147))))), HS176⟩

set_option maxRecDepth 100000 in
set_option maxHeartbeats 4000000 in
theorem spykeep3_pulls.calls (k : Nat)   {t w : World} {f : FM} {H : List Seg} (HS : St t w f (H)) (r1 : Bool) (h : spykeep3_pulls k = some r1) :
    Calls Try.prog 9 #[] w (fun e w' => ∃ (g : FM), e = .returned (Value.bool r1) ∧ FM.le f g ∧ St t w' g (H)) := by
  unfold spykeep3_pulls at h
  refine enter Try.func9 rfl (tm := #[undef, undef, undef, undef, undef, undef, undef, undef, undef, undef, undef, undef, undef, undef, undef, undef]) (by kernel_rfl) ?_
  intro B hret hnor hnp
  refine wp_seq_k (fun K1 hK2 => ?_)
  refine wp_region_lit ?_
  refine seqS1 (a' := ⟨#[.bool false, undef, undef, undef, undef, undef, undef, undef, undef, undef, undef, undef, undef, undef, undef, undef], []⟩) (by kernel_rfl) ?_
  refine wpList_nil ?_
  refine hK2 _ _ ?_
  refine wp_seq_k (fun K3 hK4 => ?_)
  refine wp_region_lit ?_
  have hq_ := bind_some h; clear h; obtain ⟨⟨vt5, vt6⟩, hc7, h⟩ := hq_
  refine seqL2 (by kernel_rfl) ?_
  refine seqK rfl (does_call (f := 8) (args := #[.agg #[.int .i64 1048576, .int .i64 0, .int .i64 0], .agg #[.int .i64 1048576, .int .i64 0, .int .i64 0]]) (by kernel_rfl) (sky_Step.calls k (⟨1048576, 0, 0⟩ : S_Vec) (⟨1048576, 0, 0⟩ : S_Vec) HS vt5 vt6 hc7) ?_)
  rintro _ W10 ⟨f8, rfl, L9, HS11⟩
  refine ⟨_, rfl, ?_⟩
  refine seqL3 (by kernel_rfl) ?_
  refine seqK rfl (does_alloc (z := Value.agg #[.int .i64 0, .int .i64 0, .int .i64 0]) (cs := #[.int .i64 0, .int .i64 0, .int .i64 0]) rfl (by kernel_rfl) rfl HS11 ?_)
  intro b12 W13 HS14
  refine seqK rfl (does_store (n := 3) (vs := [.int .i64 vt5.X, .int .i64 vt5.Y, .int .i64 vt5.Z]) (cs' := #[.int .i64 vt5.X, .int .i64 vt5.Y, .int .i64 vt5.Z]) rfl (by kernel_rfl) (by kernel_rfl : _ = Value.pointer (some ⟨b12, 0, none⟩)) (by kernel_rfl : _ = Value.agg #[.int .i64 vt5.X, .int .i64 vt5.Y, .int .i64 vt5.Z]) rfl rfl (by intro u_ hu_; simp only [List.mem_cons, List.not_mem_nil, or_false] at hu_; rcases hu_ with rfl | rfl | rfl <;> rfl) HS14 (Nat.le_of_ble_eq_true rfl) (by kernel_rfl) ?_)
  intro W16 HS17
  refine seqS1 (a' := ⟨#[.bool false, .pointer (some ⟨b12, 0, none⟩), .int .i64 vt6, .tuple #[.agg #[.int .i64 vt5.X, .int .i64 vt5.Y, .int .i64 vt5.Z], .int .i64 vt6], .agg #[.int .i64 1048576, .int .i64 0, .int .i64 0], .agg #[.int .i64 1048576, .int .i64 0, .int .i64 0], .tuple #[.agg #[.int .i64 vt5.X, .int .i64 vt5.Y, .int .i64 vt5.Z], .int .i64 vt6], .agg #[.int .i64 vt5.X, .int .i64 vt5.Y, .int .i64 vt5.Z], .int .i64 vt6, undef, undef, undef, undef, undef, undef, undef], []⟩) (by kernel_rfl) ?_
  refine wpList_nil ?_
  refine hK4 _ _ ?_
  refine wp_seq_k (fun K18 hK19 => ?_)
  refine wp_region_lit ?_
  refine seqS3 (a' := ⟨#[.bool false, .pointer (some ⟨b12, 0, none⟩), .int .i64 vt6, .tuple #[.agg #[.int .i64 vt5.X, .int .i64 vt5.Y, .int .i64 vt5.Z], .int .i64 vt6], .agg #[.int .i64 1048576, .int .i64 0, .int .i64 0], .agg #[.int .i64 1048576, .int .i64 0, .int .i64 0], .tuple #[.agg #[.int .i64 vt5.X, .int .i64 vt5.Y, .int .i64 vt5.Z], .int .i64 vt6], .agg #[.int .i64 vt5.X, .int .i64 vt5.Y, .int .i64 vt5.Z], .int .i64 vt6, .int .i64 vt6, .bool (vt6 == 0), .bool (vt6 == 0), undef, undef, undef, undef], []⟩) (by kernel_rfl) ?_
  have hq_ := ite_some h; clear h; rcases hq_ with ⟨c20, h⟩ | ⟨c20, h⟩
  · have c20 : vt6 = 0 := c20
    refine seqRwI 10 (x := (vt6 == 0)) (v := true) (by kernel_rfl) (beq_iff_eq.mpr c20) ?_
    refine seqRwI 11 (x := (vt6 == 0)) (v := true) (by kernel_rfl) (beq_iff_eq.mpr c20) ?_
    refine seqG (by kernel_rfl) (does_run (run_loadN (n := 3) rfl Try.underlying23 rfl (by kernel_rfl) (by kernel_rfl : _ = Value.pointer (some ⟨b12, 0, none⟩)) (cs := [.int .i64 vt5.X, .int .i64 vt5.Y, .int .i64 vt5.Z]) rfl (HS17.cells 0 3 _ rfl)) ?_)
    refine seqL1 (by kernel_rfl) ?_
    refine seqG (by kernel_rfl) (does_run (run_eqS (b := ((vt5.X == 1040384) && ((vt5.Y == 0) && ((vt5.Z == 0) && true)))) rfl (by kernel_rfl : _ = Value.agg #[.int .i64 vt5.X, .int .i64 vt5.Y, .int .i64 vt5.Z]) (by kernel_rfl : _ = Value.agg #[.int .i64 1040384, .int .i64 0, .int .i64 0]) (by kernel_rfl) (by kernel_rfl) W16) ?_)
    refine seqS2 (a' := ⟨#[.bool ((vt5.X == 1040384) && ((vt5.Y == 0) && ((vt5.Z == 0) && true))), .pointer (some ⟨b12, 0, none⟩), .int .i64 vt6, .tuple #[.agg #[.int .i64 vt5.X, .int .i64 vt5.Y, .int .i64 vt5.Z], .int .i64 vt6], .agg #[.int .i64 1048576, .int .i64 0, .int .i64 0], .agg #[.int .i64 1048576, .int .i64 0, .int .i64 0], .tuple #[.agg #[.int .i64 vt5.X, .int .i64 vt5.Y, .int .i64 vt5.Z], .int .i64 vt6], .agg #[.int .i64 vt5.X, .int .i64 vt5.Y, .int .i64 vt5.Z], .int .i64 vt6, .int .i64 vt6, .bool true, .bool true, .agg #[.int .i64 vt5.X, .int .i64 vt5.Y, .int .i64 vt5.Z], .agg #[.int .i64 1040384, .int .i64 0, .int .i64 0], .bool ((vt5.X == 1040384) && ((vt5.Y == 0) && ((vt5.Z == 0) && true))), .bool ((vt5.X == 1040384) && ((vt5.Y == 0) && ((vt5.Z == 0) && true)))], []⟩) (by kernel_rfl) ?_
    refine wpList_nil ?_
    refine hK19 _ _ ?_
    refine wp_ret ?_
    refine hret _ _ ?_
    refine ends_still (v := Value.bool ((vt5.X == 1040384) && ((vt5.Y == 0) && ((vt5.Z == 0) && true)))) (by kernel_rfl) (by kernel_rfl) ?_
    have HS21 := HS17.drop
    injection h with h
    subst h
    exact ⟨f8, rfl, L9, HS21⟩
  · have c20 : ¬ (vt6 = 0) := c20
    refine seqRwI 10 (x := (vt6 == 0)) (v := false) (by kernel_rfl) (beq_eq_false_iff_ne.mpr c20) ?_
    refine seqRwI 11 (x := (vt6 == 0)) (v := false) (by kernel_rfl) (beq_eq_false_iff_ne.mpr c20) ?_
    refine seqS5 (a' := ⟨#[.bool false, .pointer (some ⟨b12, 0, none⟩), .int .i64 vt6, .tuple #[.agg #[.int .i64 vt5.X, .int .i64 vt5.Y, .int .i64 vt5.Z], .int .i64 vt6], .agg #[.int .i64 1048576, .int .i64 0, .int .i64 0], .agg #[.int .i64 1048576, .int .i64 0, .int .i64 0], .tuple #[.agg #[.int .i64 vt5.X, .int .i64 vt5.Y, .int .i64 vt5.Z], .int .i64 vt6], .agg #[.int .i64 vt5.X, .int .i64 vt5.Y, .int .i64 vt5.Z], .int .i64 vt6, .int .i64 vt6, .bool false, .bool false, undef, undef, undef, .bool false], []⟩) (by kernel_rfl) ?_
    refine wpList_nil ?_
    refine hK19 _ _ ?_
    refine wp_ret ?_
    refine hret _ _ ?_
    refine ends_still (v := Value.bool false) (by kernel_rfl) (by kernel_rfl) ?_
    have HS22 := HS17.drop
    injection h with h
    subst h
    exact ⟨f8, rfl, L9, HS22⟩

set_option maxRecDepth 100000 in
set_option maxHeartbeats 4000000 in
theorem spykeep3_SkyPlacesLie_1.calls (k : Nat)  (a1 : Int) (x2 : Int) (b3 : Int) {t w : World} {f : FM} {H : List Seg} (HS : St t w f (H)) (r1 : Bool) (h : spykeep3_SkyPlacesLie_1 k a1 x2 b3 = some r1) :
    Calls Try.prog 19 #[.int .i64 a1, .int .i64 x2, .int .i64 b3] w (fun e w' => ∃ (g : FM), e = .returned (Value.bool r1) ∧ FM.le f g ∧ St t w' g (H)) := by
  unfold spykeep3_SkyPlacesLie_1 at h
  refine enter Try.func19 rfl (tm := #[.int .i64 a1, .int .i64 x2, .int .i64 b3, undef, undef, undef, undef, undef, undef, undef, undef, undef, undef, undef, undef, undef, undef, undef, undef]) (by kernel_rfl) ?_
  intro B hret hnor hnp
  refine wp_seq_k (fun K4 hK5 => ?_)
  refine wp_region_lit ?_
  refine seqS1 (a' := ⟨#[.int .i64 a1, .int .i64 x2, .int .i64 b3, undef, undef, undef, .bool false, undef, undef, undef, undef, undef, undef, undef, undef, undef, undef, undef, undef], []⟩) (by kernel_rfl) ?_
  refine wpList_nil ?_
  refine hK5 _ _ ?_
  refine wp_seq_k (fun K6 hK7 => ?_)
  refine wp_region_lit ?_
  refine seqS6 (a' := ⟨#[.int .i64 a1, .int .i64 x2, .int .i64 b3, undef, undef, undef, .bool false, .int .i64 a1, .int .i64 b3, .int .i64 (mn a1 b3), .int .i64 x2, .bool (decide ((mn a1 b3) ≤ x2)), .bool (decide ((mn a1 b3) ≤ x2)), undef, undef, undef, undef, undef, undef], []⟩) (by kernel_rfl) ?_
  have hq_ := ite_some h; clear h; rcases hq_ with ⟨c8, h⟩ | ⟨c8, h⟩
  · have c8 : (mn a1 b3) ≤ x2 := c8
    refine seqRwI 11 (x := (decide ((mn a1 b3) ≤ x2))) (v := true) (by kernel_rfl) (decide_eq_true c8) ?_
    refine seqRwI 12 (x := (decide ((mn a1 b3) ≤ x2))) (v := true) (by kernel_rfl) (decide_eq_true c8) ?_
    refine seqS7 (a' := ⟨#[.int .i64 a1, .int .i64 x2, .int .i64 b3, undef, undef, undef, .bool (decide (x2 ≤ (mx a1 b3))), .int .i64 a1, .int .i64 b3, .int .i64 (mn a1 b3), .int .i64 x2, .bool true, .bool true, .int .i64 x2, .int .i64 a1, .int .i64 b3, .int .i64 (mx a1 b3), .bool (decide (x2 ≤ (mx a1 b3))), .bool (decide (x2 ≤ (mx a1 b3)))], []⟩) (by kernel_rfl) ?_
    refine wpList_nil ?_
    refine hK7 _ _ ?_
    refine wp_ret ?_
    refine hret _ _ ?_
    refine ends_still (v := Value.bool (decide (x2 ≤ (mx a1 b3)))) (by kernel_rfl) (by kernel_rfl) ?_
    injection h with h
    subst h
    exact ⟨f, rfl, FM.le.refl _, HS⟩
  · have c8 : ¬ ((mn a1 b3) ≤ x2) := c8
    refine seqRwI 11 (x := (decide ((mn a1 b3) ≤ x2))) (v := false) (by kernel_rfl) (decide_eq_false c8) ?_
    refine seqRwI 12 (x := (decide ((mn a1 b3) ≤ x2))) (v := false) (by kernel_rfl) (decide_eq_false c8) ?_
    refine seqS7 (a' := ⟨#[.int .i64 a1, .int .i64 x2, .int .i64 b3, undef, undef, undef, .bool false, .int .i64 a1, .int .i64 b3, .int .i64 (mn a1 b3), .int .i64 x2, .bool false, .bool false, undef, undef, undef, undef, undef, .bool false], []⟩) (by kernel_rfl) ?_
    refine wpList_nil ?_
    refine hK7 _ _ ?_
    refine wp_ret ?_
    refine hret _ _ ?_
    refine ends_still (v := Value.bool false) (by kernel_rfl) (by kernel_rfl) ?_
    injection h with h
    subst h
    exact ⟨f, rfl, FM.le.refl _, HS⟩

end Go.Sp.Z5
