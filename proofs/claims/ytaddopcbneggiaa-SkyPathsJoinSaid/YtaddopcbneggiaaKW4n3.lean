import Derived.Test.YtaddopcbneggiaaProg
import Derived.Test.YtaddopcbneggiaaSpCopy
import Derived.Test.YtaddopcbneggiaaFW4
import Derived.Test.YtaddopcbneggiaaSpRound
import Derived.Test.YtaddopcbneggiaaKW4n0
import Derived.Test.YtaddopcbneggiaaKW4n1
import Derived.Test.YtaddopcbneggiaaKW4n2
namespace Go.Sp.W4
open Go Go.Sp Go.Proofs
set_option linter.unusedVariables false
attribute [local irreducible] wpList AnyL Code.wp Calls Does Code.wpIn wpListIn CallsIn bodyPostM LeavesInM
set_option maxRecDepth 100000 in
set_option maxHeartbeats 4000000 in
theorem sky_Path.calls (k : Nat)  (b1 : S_Body) (day2 : Int) {t w : World} {f : FM} {H : List Seg} (HS : St t w f (H)) (r1 : S_Vec) (r2 : S_Vec) (r3 : Int) (h : sky_Path k b1 day2 = some (r1, r2, r3)) :
    Calls Try.prog 16 #[.agg #[.int .i64 b1.ID, .int .i64 b1.Was.X, .int .i64 b1.Was.Y, .int .i64 b1.Was.Z, .int .i64 b1.Here.X, .int .i64 b1.Here.Y, .int .i64 b1.Here.Z, .int .i64 b1.Rate], .int .i64 day2] w (fun e w' => ∃ (g : FM), e = .returned (Value.tuple #[.agg #[.int .i64 r1.X, .int .i64 r1.Y, .int .i64 r1.Z], .agg #[.int .i64 r2.X, .int .i64 r2.Y, .int .i64 r2.Z], .int .i64 r3]) ∧ FM.le f g ∧ St t w' g (H)) := by
  unfold sky_Path at h
  refine enter Try.func16 rfl (tm := #[.agg #[iV b1.ID, iV b1.Was.X, iV b1.Was.Y, iV b1.Was.Z, iV b1.Here.X, iV b1.Here.Y, iV b1.Here.Z, iV b1.Rate], iV day2, uV, uV, uV, uV, uV, uV, uV, uV, uV, uV, uV, uV, uV, uV, uV, uV, uV, uV, uV, uV, uV, uV, uV, uV, uV, uV, uV, uV, uV, uV, uV, uV, uV, uV, uV, uV, uV, uV, uV, uV, uV, uV, uV, uV, uV, uV, uV, uV, uV, uV, uV, uV, uV, uV, uV, uV, uV, uV, uV, uV, uV, uV, uV, uV, uV, uV, uV, uV, uV, uV, uV]) (by kernel_rfl) ?_
  intro B hret hnor hnp
  refine wp_seq_k (fun K3 hK4 => ?_)
  refine wp_region_lit ?_
  refine seqK rfl (does_box (cs := #[.int .i64 b1.ID, .int .i64 b1.Was.X, .int .i64 b1.Was.Y, .int .i64 b1.Was.Z, .int .i64 b1.Here.X, .int .i64 b1.Here.Y, .int .i64 b1.Here.Z, .int .i64 b1.Rate]) rfl (by kernel_rfl : _ = Value.agg #[.int .i64 b1.ID, .int .i64 b1.Was.X, .int .i64 b1.Was.Y, .int .i64 b1.Was.Z, .int .i64 b1.Here.X, .int .i64 b1.Here.Y, .int .i64 b1.Here.Z, .int .i64 b1.Rate]) rfl HS ?_)
  intro b5 W6 HS7
  refine seqK rfl (does_alloc (z := Value.agg #[.int .i64 0, .int .i64 0, .int .i64 0]) (cs := #[.int .i64 0, .int .i64 0, .int .i64 0]) rfl (by kernel_rfl) rfl HS7 ?_)
  intro b9 W10 HS11
  refine seqK rfl (does_alloc (z := Value.agg #[.int .i64 0, .int .i64 0, .int .i64 0]) (cs := #[.int .i64 0, .int .i64 0, .int .i64 0]) rfl (by kernel_rfl) rfl HS11 ?_)
  intro b13 W14 HS15
  refine seqS1 (a' := ⟨#[.agg #[iV b1.ID, iV b1.Was.X, iV b1.Was.Y, iV b1.Was.Z, iV b1.Here.X, iV b1.Here.Y, iV b1.Here.Z, iV b1.Rate], iV day2, .pointer (some ⟨b5, 0, none⟩), uV, .pointer (some ⟨b9, 0, none⟩), .pointer (some ⟨b13, 0, none⟩), iV 0, uV, uV, uV, uV, uV, uV, uV, uV, uV, uV, uV, uV, uV, uV, uV, uV, uV, uV, uV, uV, uV, uV, uV, uV, uV, uV, uV, uV, uV, uV, uV, uV, uV, uV, uV, uV, uV, uV, uV, uV, uV, uV, uV, uV, uV, uV, uV, uV, uV, uV, uV, uV, uV, uV, uV, uV, uV, uV, uV, uV, uV, uV, uV, uV, uV, uV], []⟩) (by kernel_rfl) ?_
  refine wpList_nil ?_
  refine hK4 _ _ ?_
  refine wp_seq_k (fun K17 hK18 => ?_)
  refine wp_seq_k (fun K19 hK20 => ?_)
  refine wp_region_lit ?_
  refine seqS3 (a' := ⟨#[.agg #[iV b1.ID, iV b1.Was.X, iV b1.Was.Y, iV b1.Was.Z, iV b1.Here.X, iV b1.Here.Y, iV b1.Here.Z, iV b1.Rate], iV day2, .pointer (some ⟨b5, 0, none⟩), uV, .pointer (some ⟨b9, 0, none⟩), .pointer (some ⟨b13, 0, none⟩), iV 0, uV, uV, uV, uV, uV, uV, iV day2, .bool (decide (day2 < (-400))), .bool (decide (day2 < (-400))), uV, uV, uV, uV, uV, uV, uV, uV, uV, uV, uV, uV, uV, uV, uV, uV, uV, uV, uV, uV, uV, uV, uV, uV, uV, uV, uV, uV, uV, uV, uV, uV, uV, uV, uV, uV, uV, uV, uV, uV, uV, uV, uV, uV, uV, uV, uV, uV, uV, uV, uV, uV, uV, uV, uV, uV, uV], []⟩) (by kernel_rfl) ?_
  have hq_ := ite_some h; clear h; rcases hq_ with ⟨c21, h⟩ | ⟨c21, h⟩
  · have c21 : day2 < (-400) := c21
    refine seqRwI 14 (x := (decide (day2 < (-400)))) (v := true) (by kernel_rfl) (decide_eq_true c21) ?_
    refine seqRwI 15 (x := (decide (day2 < (-400)))) (v := true) (by kernel_rfl) (decide_eq_true c21) ?_
    refine seqS8 (a' := ⟨#[.agg #[iV b1.ID, iV b1.Was.X, iV b1.Was.Y, iV b1.Was.Z, iV b1.Here.X, iV b1.Here.Y, iV b1.Here.Z, iV b1.Rate], iV day2, .pointer (some ⟨b5, 0, none⟩), uV, .pointer (some ⟨b9, 0, none⟩), .pointer (some ⟨b13, 0, none⟩), iV 0, uV, uV, uV, uV, uV, uV, iV day2, .bool true, .bool true, uV, uV, .bool true, .bool true, uV, uV, uV, .bool true, uV, uV, uV, uV, uV, uV, uV, uV, uV, uV, uV, uV, uV, uV, uV, uV, uV, uV, uV, uV, uV, uV, uV, uV, uV, uV, uV, uV, uV, uV, uV, uV, uV, uV, uV, uV, uV, uV, uV, uV, uV, uV, uV, uV, uV, uV, uV, uV, uV], []⟩) (by kernel_rfl) ?_
    refine wpList_nil ?_
    refine hK20 _ _ ?_
    refine condT (by kernel_rfl) ?_
    refine wp_seq_k (fun K22 hK23 => ?_)
    refine wp_region_lit ?_
    have HS24 := HS15.u1
    refine seqL2 (by kernel_rfl) ?_
    refine seqK rfl (does_store (n := 3) (vs := [.int .i64 0, .int .i64 0, .int .i64 0]) (cs' := #[.int .i64 0, .int .i64 0, .int .i64 0]) rfl (by kernel_rfl) (by kernel_rfl : _ = Value.pointer (some ⟨b9, 0, none⟩)) (by kernel_rfl : _ = Value.agg #[.int .i64 0, .int .i64 0, .int .i64 0]) rfl rfl (by intro u_ hu_; simp only [List.mem_cons, List.not_mem_nil, or_false] at hu_; rcases hu_ with rfl | rfl | rfl <;> rfl) HS24 (Nat.le_of_ble_eq_true rfl) (by kernel_rfl) ?_)
    intro W25 HS26
    have HS27 := HS26.u1
    refine seqK rfl (does_store (n := 3) (vs := [.int .i64 0, .int .i64 0, .int .i64 0]) (cs' := #[.int .i64 0, .int .i64 0, .int .i64 0]) rfl (by kernel_rfl) (by kernel_rfl : _ = Value.pointer (some ⟨b13, 0, none⟩)) (by kernel_rfl : _ = Value.agg #[.int .i64 0, .int .i64 0, .int .i64 0]) rfl rfl (by intro u_ hu_; simp only [List.mem_cons, List.not_mem_nil, or_false] at hu_; rcases hu_ with rfl | rfl | rfl <;> rfl) HS27 (Nat.le_of_ble_eq_true rfl) (by kernel_rfl) ?_)
    intro W28 HS29
    refine seqS1 (a' := ⟨#[.agg #[iV b1.ID, iV b1.Was.X, iV b1.Was.Y, iV b1.Was.Z, iV b1.Here.X, iV b1.Here.Y, iV b1.Here.Z, iV b1.Rate], iV day2, .pointer (some ⟨b5, 0, none⟩), uV, .pointer (some ⟨b9, 0, none⟩), .pointer (some ⟨b13, 0, none⟩), iV 4, uV, uV, uV, uV, uV, uV, iV day2, .bool true, .bool true, uV, uV, .bool true, .bool true, uV, uV, uV, .bool true, .agg #[iV 0, iV 0, iV 0], .agg #[iV 0, iV 0, iV 0], uV, uV, uV, uV, uV, uV, uV, uV, uV, uV, uV, uV, uV, uV, uV, uV, uV, uV, uV, uV, uV, uV, uV, uV, uV, uV, uV, uV, uV, uV, uV, uV, uV, uV, uV, uV, uV, uV, uV, uV, uV, uV, uV, uV, uV, uV, uV], []⟩) (by kernel_rfl) ?_
    refine wpList_nil ?_
    refine hK23 _ _ ?_
    refine wp_ret ?_
    refine hret _ _ ?_
    refine ends (v := Value.tuple #[.agg #[.int .i64 0, .int .i64 0, .int .i64 0], .agg #[.int .i64 0, .int .i64 0, .int .i64 0], .int .i64 4]) (results3 (q1 := .cell 4 23) (q2 := .cell 5 23) (q3 := .tmp 6) (by kernel_rfl) (resN (n := 3) (cs := [.int .i64 0, .int .i64 0, .int .i64 0]) (by kernel_rfl : _ = Value.pointer (some ⟨b9, 0, none⟩)) Try.underlying23 rfl (by kernel_rfl) rfl (HS29.u1.cells 0 3 _ rfl)) (resN (n := 3) (cs := [.int .i64 0, .int .i64 0, .int .i64 0]) (by kernel_rfl : _ = Value.pointer (some ⟨b13, 0, none⟩)) Try.underlying23 rfl (by kernel_rfl) rfl (HS29.cells 0 3 _ rfl)) (resT (by kernel_rfl : _ = Value.int .i64 4))) (by kernel_rfl) ?_
    have HS371 := HS29.drop
    have HS372 := HS371.drop
    have HS373 := HS372.drop
    injection h with h
    injection h with h0_ h
    injection h with h1_ h
    subst h0_ h1_ h
    exact ⟨f, rfl, FM.le.refl _, HS373⟩
  · have c21 : ¬ (day2 < (-400)) := c21
    refine seqRwI 14 (x := (decide (day2 < (-400)))) (v := false) (by kernel_rfl) (decide_eq_false c21) ?_
    refine seqRwI 15 (x := (decide (day2 < (-400)))) (v := false) (by kernel_rfl) (decide_eq_false c21) ?_
    refine seqS4 (a' := ⟨#[.agg #[iV b1.ID, iV b1.Was.X, iV b1.Was.Y, iV b1.Was.Z, iV b1.Here.X, iV b1.Here.Y, iV b1.Here.Z, iV b1.Rate], iV day2, .pointer (some ⟨b5, 0, none⟩), uV, .pointer (some ⟨b9, 0, none⟩), .pointer (some ⟨b13, 0, none⟩), iV 0, uV, uV, uV, uV, uV, uV, iV day2, .bool false, .bool false, iV day2, .bool (decide (day2 > 400)), .bool (decide (day2 > 400)), .bool (decide (day2 > 400)), uV, uV, uV, uV, uV, uV, uV, uV, uV, uV, uV, uV, uV, uV, uV, uV, uV, uV, uV, uV, uV, uV, uV, uV, uV, uV, uV, uV, uV, uV, uV, uV, uV, uV, uV, uV, uV, uV, uV, uV, uV, uV, uV, uV, uV, uV, uV, uV, uV, uV, uV, uV, uV], []⟩) (by kernel_rfl) ?_
    have hq_ := ite_some h; clear h; rcases hq_ with ⟨c30, h⟩ | ⟨c30, h⟩
    · have c30 : day2 > 400 := c30
      refine seqRwI 17 (x := (decide (day2 > 400))) (v := true) (by kernel_rfl) (decide_eq_true c30) ?_
      refine seqRwI 18 (x := (decide (day2 > 400))) (v := true) (by kernel_rfl) (decide_eq_true c30) ?_
      refine seqRwI 19 (x := (decide (day2 > 400))) (v := true) (by kernel_rfl) (decide_eq_true c30) ?_
      refine seqS4 (a' := ⟨#[.agg #[iV b1.ID, iV b1.Was.X, iV b1.Was.Y, iV b1.Was.Z, iV b1.Here.X, iV b1.Here.Y, iV b1.Here.Z, iV b1.Rate], iV day2, .pointer (some ⟨b5, 0, none⟩), uV, .pointer (some ⟨b9, 0, none⟩), .pointer (some ⟨b13, 0, none⟩), iV 0, uV, uV, uV, uV, uV, uV, iV day2, .bool false, .bool false, iV day2, .bool true, .bool true, .bool true, uV, uV, uV, .bool true, uV, uV, uV, uV, uV, uV, uV, uV, uV, uV, uV, uV, uV, uV, uV, uV, uV, uV, uV, uV, uV, uV, uV, uV, uV, uV, uV, uV, uV, uV, uV, uV, uV, uV, uV, uV, uV, uV, uV, uV, uV, uV, uV, uV, uV, uV, uV, uV, uV], []⟩) (by kernel_rfl) ?_
      refine wpList_nil ?_
      refine hK20 _ _ ?_
      refine condT (by kernel_rfl) ?_
      refine wp_seq_k (fun K31 hK32 => ?_)
      refine wp_region_lit ?_
      have HS33 := HS15.u1
      refine seqL2 (by kernel_rfl) ?_
      refine seqK rfl (does_store (n := 3) (vs := [.int .i64 0, .int .i64 0, .int .i64 0]) (cs' := #[.int .i64 0, .int .i64 0, .int .i64 0]) rfl (by kernel_rfl) (by kernel_rfl : _ = Value.pointer (some ⟨b9, 0, none⟩)) (by kernel_rfl : _ = Value.agg #[.int .i64 0, .int .i64 0, .int .i64 0]) rfl rfl (by intro u_ hu_; simp only [List.mem_cons, List.not_mem_nil, or_false] at hu_; rcases hu_ with rfl | rfl | rfl <;> rfl) HS33 (Nat.le_of_ble_eq_true rfl) (by kernel_rfl) ?_)
      intro W34 HS35
      have HS36 := HS35.u1
      refine seqK rfl (does_store (n := 3) (vs := [.int .i64 0, .int .i64 0, .int .i64 0]) (cs' := #[.int .i64 0, .int .i64 0, .int .i64 0]) rfl (by kernel_rfl) (by kernel_rfl : _ = Value.pointer (some ⟨b13, 0, none⟩)) (by kernel_rfl : _ = Value.agg #[.int .i64 0, .int .i64 0, .int .i64 0]) rfl rfl (by intro u_ hu_; simp only [List.mem_cons, List.not_mem_nil, or_false] at hu_; rcases hu_ with rfl | rfl | rfl <;> rfl) HS36 (Nat.le_of_ble_eq_true rfl) (by kernel_rfl) ?_)
      intro W37 HS38
      refine seqS1 (a' := ⟨#[.agg #[iV b1.ID, iV b1.Was.X, iV b1.Was.Y, iV b1.Was.Z, iV b1.Here.X, iV b1.Here.Y, iV b1.Here.Z, iV b1.Rate], iV day2, .pointer (some ⟨b5, 0, none⟩), uV, .pointer (some ⟨b9, 0, none⟩), .pointer (some ⟨b13, 0, none⟩), iV 4, uV, uV, uV, uV, uV, uV, iV day2, .bool false, .bool false, iV day2, .bool true, .bool true, .bool true, uV, uV, uV, .bool true, .agg #[iV 0, iV 0, iV 0], .agg #[iV 0, iV 0, iV 0], uV, uV, uV, uV, uV, uV, uV, uV, uV, uV, uV, uV, uV, uV, uV, uV, uV, uV, uV, uV, uV, uV, uV, uV, uV, uV, uV, uV, uV, uV, uV, uV, uV, uV, uV, uV, uV, uV, uV, uV, uV, uV, uV, uV, uV, uV, uV], []⟩) (by kernel_rfl) ?_
      refine wpList_nil ?_
      refine hK32 _ _ ?_
      refine wp_ret ?_
      refine hret _ _ ?_
      refine ends (v := Value.tuple #[.agg #[.int .i64 0, .int .i64 0, .int .i64 0], .agg #[.int .i64 0, .int .i64 0, .int .i64 0], .int .i64 4]) (results3 (q1 := .cell 4 23) (q2 := .cell 5 23) (q3 := .tmp 6) (by kernel_rfl) (resN (n := 3) (cs := [.int .i64 0, .int .i64 0, .int .i64 0]) (by kernel_rfl : _ = Value.pointer (some ⟨b9, 0, none⟩)) Try.underlying23 rfl (by kernel_rfl) rfl (HS38.u1.cells 0 3 _ rfl)) (resN (n := 3) (cs := [.int .i64 0, .int .i64 0, .int .i64 0]) (by kernel_rfl : _ = Value.pointer (some ⟨b13, 0, none⟩)) Try.underlying23 rfl (by kernel_rfl) rfl (HS38.cells 0 3 _ rfl)) (resT (by kernel_rfl : _ = Value.int .i64 4))) (by kernel_rfl) ?_
      have HS374 := HS38.drop
      have HS375 := HS374.drop
      have HS376 := HS375.drop
      injection h with h
      injection h with h0_ h
      injection h with h1_ h
      subst h0_ h1_ h
      exact ⟨f, rfl, FM.le.refl _, HS376⟩
    · have c30 : ¬ (day2 > 400) := c30
      refine seqRwI 17 (x := (decide (day2 > 400))) (v := false) (by kernel_rfl) (decide_eq_false c30) ?_
      refine seqRwI 18 (x := (decide (day2 > 400))) (v := false) (by kernel_rfl) (decide_eq_false c30) ?_
      refine seqRwI 19 (x := (decide (day2 > 400))) (v := false) (by kernel_rfl) (decide_eq_false c30) ?_
      refine seqG (by kernel_rfl) (does_run (run_loadN (n := 8) rfl Try.underlying36 rfl (by kernel_rfl) (by kernel_rfl : _ = Value.pointer (some ⟨b5, 0, none⟩)) (cs := [.int .i64 b1.ID, .int .i64 b1.Was.X, .int .i64 b1.Was.Y, .int .i64 b1.Was.Z, .int .i64 b1.Here.X, .int .i64 b1.Here.Y, .int .i64 b1.Here.Z, .int .i64 b1.Rate]) rfl (HS15.u2.cells 0 8 _ rfl)) ?_)
      have hq_ := bind_some h; clear h; obtain ⟨vt39, hc40, h⟩ := hq_
      refine seqG (by kernel_rfl) (does_call (f := 33) (args := #[.agg #[.int .i64 b1.ID, .int .i64 b1.Was.X, .int .i64 b1.Was.Y, .int .i64 b1.Was.Z, .int .i64 b1.Here.X, .int .i64 b1.Here.Y, .int .i64 b1.Here.Z, .int .i64 b1.Rate]]) (by kernel_rfl) (sky_moves.calls k b1 HS15 vt39 hc40) ?_)
      rintro _ W43 ⟨f41, rfl, L42, HS44⟩
      refine ⟨_, rfl, ?_⟩
      refine seqS2 (a' := ⟨#[.agg #[iV b1.ID, iV b1.Was.X, iV b1.Was.Y, iV b1.Was.Z, iV b1.Here.X, iV b1.Here.Y, iV b1.Here.Z, iV b1.Rate], iV day2, .pointer (some ⟨b5, 0, none⟩), uV, .pointer (some ⟨b9, 0, none⟩), .pointer (some ⟨b13, 0, none⟩), iV 0, uV, uV, uV, uV, uV, uV, iV day2, .bool false, .bool false, iV day2, .bool false, .bool false, .bool false, .agg #[iV b1.ID, iV b1.Was.X, iV b1.Was.Y, iV b1.Was.Z, iV b1.Here.X, iV b1.Here.Y, iV b1.Here.Z, iV b1.Rate], .bool vt39, .bool (!vt39), .bool (!vt39), uV, uV, uV, uV, uV, uV, uV, uV, uV, uV, uV, uV, uV, uV, uV, uV, uV, uV, uV, uV, uV, uV, uV, uV, uV, uV, uV, uV, uV, uV, uV, uV, uV, uV, uV, uV, uV, uV, uV, uV, uV, uV, uV, uV, uV, uV, uV, uV, uV], []⟩) (by kernel_rfl) ?_
      refine wpList_nil ?_
      refine hK20 _ _ ?_
      have hq_ := ite_some h; clear h; rcases hq_ with ⟨c46, h⟩ | ⟨c46, h⟩
      · have c46 : ¬ (vt39 = true) := c46
        refine wpRwI 22 (x := (!vt39)) (v := true) (by kernel_rfl) (congrArg (fun b_ => !b_) (show vt39 = false from (Bool.eq_false_iff.mpr c46)) : (!vt39) = true) ?_
        refine wpRwI 23 (x := (!vt39)) (v := true) (by kernel_rfl) (congrArg (fun b_ => !b_) (show vt39 = false from (Bool.eq_false_iff.mpr c46)) : (!vt39) = true) ?_
        refine condT (by kernel_rfl) ?_
        refine wp_seq_k (fun K47 hK48 => ?_)
        refine wp_region_lit ?_
        have HS49 := HS44.u1
        refine seqL2 (by kernel_rfl) ?_
        refine seqK rfl (does_store (n := 3) (vs := [.int .i64 0, .int .i64 0, .int .i64 0]) (cs' := #[.int .i64 0, .int .i64 0, .int .i64 0]) rfl (by kernel_rfl) (by kernel_rfl : _ = Value.pointer (some ⟨b9, 0, none⟩)) (by kernel_rfl : _ = Value.agg #[.int .i64 0, .int .i64 0, .int .i64 0]) rfl rfl (by intro u_ hu_; simp only [List.mem_cons, List.not_mem_nil, or_false] at hu_; rcases hu_ with rfl | rfl | rfl <;> rfl) HS49 (Nat.le_of_ble_eq_true rfl) (by kernel_rfl) ?_)
        intro W50 HS51
        have HS52 := HS51.u1
        refine seqK rfl (does_store (n := 3) (vs := [.int .i64 0, .int .i64 0, .int .i64 0]) (cs' := #[.int .i64 0, .int .i64 0, .int .i64 0]) rfl (by kernel_rfl) (by kernel_rfl : _ = Value.pointer (some ⟨b13, 0, none⟩)) (by kernel_rfl : _ = Value.agg #[.int .i64 0, .int .i64 0, .int .i64 0]) rfl rfl (by intro u_ hu_; simp only [List.mem_cons, List.not_mem_nil, or_false] at hu_; rcases hu_ with rfl | rfl | rfl <;> rfl) HS52 (Nat.le_of_ble_eq_true rfl) (by kernel_rfl) ?_)
        intro W53 HS54
        refine seqS1 (a' := ⟨#[.agg #[iV b1.ID, iV b1.Was.X, iV b1.Was.Y, iV b1.Was.Z, iV b1.Here.X, iV b1.Here.Y, iV b1.Here.Z, iV b1.Rate], iV day2, .pointer (some ⟨b5, 0, none⟩), uV, .pointer (some ⟨b9, 0, none⟩), .pointer (some ⟨b13, 0, none⟩), iV 4, uV, uV, uV, uV, uV, uV, iV day2, .bool false, .bool false, iV day2, .bool false, .bool false, .bool false, .agg #[iV b1.ID, iV b1.Was.X, iV b1.Was.Y, iV b1.Was.Z, iV b1.Here.X, iV b1.Here.Y, iV b1.Here.Z, iV b1.Rate], .bool vt39, .bool true, .bool true, .agg #[iV 0, iV 0, iV 0], .agg #[iV 0, iV 0, iV 0], uV, uV, uV, uV, uV, uV, uV, uV, uV, uV, uV, uV, uV, uV, uV, uV, uV, uV, uV, uV, uV, uV, uV, uV, uV, uV, uV, uV, uV, uV, uV, uV, uV, uV, uV, uV, uV, uV, uV, uV, uV, uV, uV, uV, uV, uV, uV], []⟩) (by kernel_rfl) ?_
        refine wpList_nil ?_
        refine hK48 _ _ ?_
        refine wp_ret ?_
        refine hret _ _ ?_
        refine ends (v := Value.tuple #[.agg #[.int .i64 0, .int .i64 0, .int .i64 0], .agg #[.int .i64 0, .int .i64 0, .int .i64 0], .int .i64 4]) (results3 (q1 := .cell 4 23) (q2 := .cell 5 23) (q3 := .tmp 6) (by kernel_rfl) (resN (n := 3) (cs := [.int .i64 0, .int .i64 0, .int .i64 0]) (by kernel_rfl : _ = Value.pointer (some ⟨b9, 0, none⟩)) Try.underlying23 rfl (by kernel_rfl) rfl (HS54.u1.cells 0 3 _ rfl)) (resN (n := 3) (cs := [.int .i64 0, .int .i64 0, .int .i64 0]) (by kernel_rfl : _ = Value.pointer (some ⟨b13, 0, none⟩)) Try.underlying23 rfl (by kernel_rfl) rfl (HS54.cells 0 3 _ rfl)) (resT (by kernel_rfl : _ = Value.int .i64 4))) (by kernel_rfl) ?_
        have HS377 := HS54.drop
        have HS378 := HS377.drop
        have HS379 := HS378.drop
        injection h with h
        injection h with h0_ h
        injection h with h1_ h
        subst h0_ h1_ h
        exact ⟨f41, rfl, L42, HS379⟩
      · have c46 : ¬ (¬ (vt39 = true)) := c46
        refine wpRwI 22 (x := (!vt39)) (v := false) (by kernel_rfl) (congrArg (fun b_ => !b_) (show vt39 = true from (Decidable.of_not_not c46)) : (!vt39) = false) ?_
        refine wpRwI 23 (x := (!vt39)) (v := false) (by kernel_rfl) (congrArg (fun b_ => !b_) (show vt39 = true from (Decidable.of_not_not c46)) : (!vt39) = false) ?_
        refine condF (by kernel_rfl) ?_
        refine wp_skip ?_
        refine hK18 _ _ ?_
        refine wp_seq_k (fun K55 hK56 => ?_)
        have HS57 := HS44.u2
        have HS58 := HS57.u2
        have HS59 := HS58.u2
        refine heldG (S := Sg t f41 ([(b5, .cells #[.int .i64 b1.ID, .int .i64 b1.Was.X, .int .i64 b1.Was.Y, .int .i64 b1.Was.Z, .int .i64 b1.Here.X, .int .i64 b1.Here.Y, .int .i64 b1.Here.Z, .int .i64 b1.Rate] 36 (0, 0))] :: H) [(5, [(b13, .cells #[.int .i64 0, .int .i64 0, .int .i64 0] 23 (0, 0))]), (4, [(b9, .cells #[.int .i64 0, .int .i64 0, .int .i64 0] 23 (0, 0))])]) (n := 6) (by kernel_rfl) rfl HS59 ?_
        intro W60 HS61
        refine takeG [0] (n := 6) (fuel := 5) (l' := #[true, false, false, false, false, false]) (a' := ⟨#[.agg #[iV b1.ID, iV b1.Was.X, iV b1.Was.Y, iV b1.Was.Z, iV b1.Here.X, iV b1.Here.Y, iV b1.Here.Z, iV b1.Rate], iV day2, .pointer (some ⟨b5, 0, none⟩), uV, .pointer (some ⟨b9, 0, none⟩), .pointer (some ⟨b13, 0, none⟩), iV 0, uV, uV, uV, uV, uV, uV, iV day2, .bool false, .bool false, iV day2, .bool false, .bool false, .bool false, .agg #[iV b1.ID, iV b1.Was.X, iV b1.Was.Y, iV b1.Was.Z, iV b1.Here.X, iV b1.Here.Y, iV b1.Here.Z, iV b1.Rate], .bool vt39, .bool false, .bool false, uV, uV, .pointer (some ⟨b5, 1, none⟩), uV, uV, uV, uV, uV, uV, uV, uV, uV, uV, uV, uV, uV, uV, uV, uV, uV, uV, uV, uV, uV, uV, uV, uV, uV, uV, uV, uV, uV, uV, uV, uV, uV, uV, uV, uV, uV, uV, uV, uV, uV, uV, uV, uV, uV, uV], []⟩) rfl (by kernel_rfl) (by kernel_rfl) (by kernel_rfl) hnp (Sg.g2 (Sx.of [[(b13, .cells #[.int .i64 0, .int .i64 0, .int .i64 0] 23 (0, 0))], [(b9, .cells #[.int .i64 0, .int .i64 0, .int .i64 0] 23 (0, 0))]] (FM.le.refl _) HS61) (fun _ => St.only [] HS61 (FM.le.refl _)) (fun _ => St.only [[(b13, .cells #[.int .i64 0, .int .i64 0, .int .i64 0] 23 (0, 0))]] HS61 (FM.le.refl _))) ?_
        refine takeGQ 1 [] rfl (by kernel_rfl) (by kernel_rfl) (by kernel_rfl) (by kernel_rfl) (by kernel_rfl) (by kernel_rfl) hnp (Sg.g2 (Sx.of [[(b13, .cells #[.int .i64 0, .int .i64 0, .int .i64 0] 23 (0, 0))], [(b9, .cells #[.int .i64 0, .int .i64 0, .int .i64 0] 23 (0, 0))]] (FM.le.refl _) HS61) (fun _ => St.only [] HS61 (FM.le.refl _)) (fun _ => St.only [[(b13, .cells #[.int .i64 0, .int .i64 0, .int .i64 0] 23 (0, 0))]] HS61 (FM.le.refl _))) (fun w_ hw_ => by obtain ⟨g_, hl_, hS_⟩ := hw_.st; exact run_loadN (n := 3) rfl Try.underlying23 rfl (by kernel_rfl) (by kernel_rfl : _ = Value.pointer (some ⟨b5, 1, none⟩)) (cs := [.int .i64 b1.Was.X, .int .i64 b1.Was.Y, .int .i64 b1.Was.Z]) rfl (hS_.cells 1 3 _ rfl)) ?_
        refine takeG [2] (n := 4) (fuel := 3) (l' := #[true, true, true, false, false, false]) (a' := ⟨#[.agg #[iV b1.ID, iV b1.Was.X, iV b1.Was.Y, iV b1.Was.Z, iV b1.Here.X, iV b1.Here.Y, iV b1.Here.Z, iV b1.Rate], iV day2, .pointer (some ⟨b5, 0, none⟩), uV, .pointer (some ⟨b9, 0, none⟩), .pointer (some ⟨b13, 0, none⟩), iV 0, uV, uV, uV, uV, uV, uV, iV day2, .bool false, .bool false, iV day2, .bool false, .bool false, .bool false, .agg #[iV b1.ID, iV b1.Was.X, iV b1.Was.Y, iV b1.Was.Z, iV b1.Here.X, iV b1.Here.Y, iV b1.Here.Z, iV b1.Rate], .bool vt39, .bool false, .bool false, uV, uV, .pointer (some ⟨b5, 1, none⟩), .agg #[iV b1.Was.X, iV b1.Was.Y, iV b1.Was.Z], .pointer (some ⟨b5, 4, none⟩), uV, uV, uV, uV, uV, uV, uV, uV, uV, uV, uV, uV, uV, uV, uV, uV, uV, uV, uV, uV, uV, uV, uV, uV, uV, uV, uV, uV, uV, uV, uV, uV, uV, uV, uV, uV, uV, uV, uV, uV, uV, uV, uV, uV], []⟩) rfl (by kernel_rfl) (by kernel_rfl) (by kernel_rfl) hnp (Sg.g2 (Sx.of [[(b13, .cells #[.int .i64 0, .int .i64 0, .int .i64 0] 23 (0, 0))], [(b9, .cells #[.int .i64 0, .int .i64 0, .int .i64 0] 23 (0, 0))]] (FM.le.refl _) HS61) (fun _ => St.only [] HS61 (FM.le.refl _)) (fun _ => St.only [[(b13, .cells #[.int .i64 0, .int .i64 0, .int .i64 0] 23 (0, 0))]] HS61 (FM.le.refl _))) ?_
        refine takeGQ 3 [] rfl (by kernel_rfl) (by kernel_rfl) (by kernel_rfl) (by kernel_rfl) (by kernel_rfl) (by kernel_rfl) hnp (Sg.g2 (Sx.of [[(b13, .cells #[.int .i64 0, .int .i64 0, .int .i64 0] 23 (0, 0))], [(b9, .cells #[.int .i64 0, .int .i64 0, .int .i64 0] 23 (0, 0))]] (FM.le.refl _) HS61) (fun _ => St.only [] HS61 (FM.le.refl _)) (fun _ => St.only [[(b13, .cells #[.int .i64 0, .int .i64 0, .int .i64 0] 23 (0, 0))]] HS61 (FM.le.refl _))) (fun w_ hw_ => by obtain ⟨g_, hl_, hS_⟩ := hw_.st; exact run_loadN (n := 3) rfl Try.underlying23 rfl (by kernel_rfl) (by kernel_rfl : _ = Value.pointer (some ⟨b5, 4, none⟩)) (cs := [.int .i64 b1.Here.X, .int .i64 b1.Here.Y, .int .i64 b1.Here.Z]) rfl (hS_.cells 4 3 _ rfl)) ?_
        have HS62 := HS61.u1
        refine takeGE 4 (by kernel_rfl) rfl (by kernel_rfl) (does_store (n := 3) (vs := [.int .i64 b1.Was.X, .int .i64 b1.Was.Y, .int .i64 b1.Was.Z]) (cs' := #[.int .i64 b1.Was.X, .int .i64 b1.Was.Y, .int .i64 b1.Was.Z]) rfl (by kernel_rfl) (by kernel_rfl : _ = Value.pointer (some ⟨b9, 0, none⟩)) (by kernel_rfl : _ = Value.agg #[.int .i64 b1.Was.X, .int .i64 b1.Was.Y, .int .i64 b1.Was.Z]) rfl rfl (by intro u_ hu_; simp only [List.mem_cons, List.not_mem_nil, or_false] at hu_; rcases hu_ with rfl | rfl | rfl <;> rfl) HS62 (Nat.le_of_ble_eq_true rfl) (by kernel_rfl) ?_)
        intro W63 HS64
        refine ⟨(Sg.g2 (Sx.of [[(b9, .cells #[.int .i64 b1.Was.X, .int .i64 b1.Was.Y, .int .i64 b1.Was.Z] 23 (0, 0))], [(b13, .cells #[.int .i64 0, .int .i64 0, .int .i64 0] 23 (0, 0))]] (FM.le.refl _) HS64) (fun _ => St.only [[(b9, .cells #[.int .i64 b1.Was.X, .int .i64 b1.Was.Y, .int .i64 b1.Was.Z] 23 (0, 0))]] HS64 (FM.le.refl _)) (fun hl_ => Bool.noConfusion (show true = false from hl_))), ?_⟩
        have HS65 := HS64.u1
        refine takeGE 5 (by kernel_rfl) rfl (by kernel_rfl) (does_store (n := 3) (vs := [.int .i64 b1.Here.X, .int .i64 b1.Here.Y, .int .i64 b1.Here.Z]) (cs' := #[.int .i64 b1.Here.X, .int .i64 b1.Here.Y, .int .i64 b1.Here.Z]) rfl (by kernel_rfl) (by kernel_rfl : _ = Value.pointer (some ⟨b13, 0, none⟩)) (by kernel_rfl : _ = Value.agg #[.int .i64 b1.Here.X, .int .i64 b1.Here.Y, .int .i64 b1.Here.Z]) rfl rfl (by intro u_ hu_; simp only [List.mem_cons, List.not_mem_nil, or_false] at hu_; rcases hu_ with rfl | rfl | rfl <;> rfl) HS65 (Nat.le_of_ble_eq_true rfl) (by kernel_rfl) ?_)
        intro W66 HS67
        refine ⟨(Sg.g2 (Sx.of [[(b13, .cells #[.int .i64 b1.Here.X, .int .i64 b1.Here.Y, .int .i64 b1.Here.Z] 23 (0, 0))], [(b9, .cells #[.int .i64 b1.Was.X, .int .i64 b1.Was.Y, .int .i64 b1.Was.Z] 23 (0, 0))]] (FM.le.refl _) HS67) (fun hl_ => Bool.noConfusion (show true = false from hl_)) (fun hl_ => Bool.noConfusion (show true = false from hl_))), ?_⟩
        refine doneG (by kernel_rfl) ?_ _
        refine hK56 _ _ ?_
        refine wp_seq_k (fun K68 hK69 => ?_)
        refine wp_seq_k (fun K70 hK71 => ?_)
        refine wp_region_lit ?_
        refine seqS2 (a' := ⟨#[.agg #[iV b1.ID, iV b1.Was.X, iV b1.Was.Y, iV b1.Was.Z, iV b1.Here.X, iV b1.Here.Y, iV b1.Here.Z, iV b1.Rate], iV day2, .pointer (some ⟨b5, 0, none⟩), uV, .pointer (some ⟨b9, 0, none⟩), .pointer (some ⟨b13, 0, none⟩), iV 0, iV day2, uV, uV, uV, uV, uV, iV day2, .bool false, .bool false, iV day2, .bool false, .bool false, .bool false, .agg #[iV b1.ID, iV b1.Was.X, iV b1.Was.Y, iV b1.Was.Z, iV b1.Here.X, iV b1.Here.Y, iV b1.Here.Z, iV b1.Rate], .bool vt39, .bool false, .bool false, uV, uV, .pointer (some ⟨b5, 1, none⟩), .agg #[iV b1.Was.X, iV b1.Was.Y, iV b1.Was.Z], .pointer (some ⟨b5, 4, none⟩), .agg #[iV b1.Here.X, iV b1.Here.Y, iV b1.Here.Z], iV day2, uV, uV, uV, uV, uV, uV, uV, uV, uV, uV, uV, uV, uV, uV, uV, uV, uV, uV, uV, uV, uV, uV, uV, uV, uV, uV, uV, uV, uV, uV, uV, uV, uV, uV, uV, uV, uV, uV, uV, uV, uV, uV], []⟩) (by kernel_rfl) ?_
        refine wpList_nil ?_
        refine hK71 _ _ ?_
        refine blockK (fun B72 hx73 hn74 hr75 ho76 hp77 => ?_)
        have hq_ := bind_some h; clear h; obtain ⟨o132, hv204, h⟩ := hq_
        have J205 : ∀ (f192 : FM) (e197 : Int) (x198 : Int) (x199 : Int) (x200 : Int) (x201 : Int) (x202 : Int) (x203 : Int) (j196 : Nat → Value) (W194 : World) (a_ : Act), FM.le f41 f192 → some ((e197, x198, x199, x200, x201, x202, x203)) = some o132 → St t W194 f192 ([(b13, .cells #[.int .i64 x198, .int .i64 x199, .int .i64 x200] 23 (0, 0))] :: [(b9, .cells #[.int .i64 x201, .int .i64 x202, .int .i64 x203] 23 (0, 0))] :: [(b5, .cells #[.int .i64 b1.ID, .int .i64 b1.Was.X, .int .i64 b1.Was.Y, .int .i64 b1.Was.Z, .int .i64 b1.Here.X, .int .i64 b1.Here.Y, .int .i64 b1.Here.Z, .int .i64 b1.Rate] 36 (0, 0))] :: H) → a_ = ⟨#[.agg #[iV b1.ID, iV b1.Was.X, iV b1.Was.Y, iV b1.Was.Z, iV b1.Here.X, iV b1.Here.Y, iV b1.Here.Z, iV b1.Rate], iV day2, .pointer (some ⟨b5, 0, none⟩), uV, .pointer (some ⟨b9, 0, none⟩), .pointer (some ⟨b13, 0, none⟩), iV e197, (j196 0), (j196 1), (j196 2), uV, uV, uV, iV day2, .bool false, .bool false, iV day2, .bool false, .bool false, .bool false, .agg #[iV b1.ID, iV b1.Was.X, iV b1.Was.Y, iV b1.Was.Z, iV b1.Here.X, iV b1.Here.Y, iV b1.Here.Z, iV b1.Rate], .bool vt39, .bool false, .bool false, uV, uV, .pointer (some ⟨b5, 1, none⟩), .agg #[iV b1.Was.X, iV b1.Was.Y, iV b1.Was.Z], .pointer (some ⟨b5, 4, none⟩), .agg #[iV b1.Here.X, iV b1.Here.Y, iV b1.Here.Z], iV day2, (j196 3), (j196 4), (j196 5), (j196 6), (j196 7), (j196 8), (j196 9), (j196 10), (j196 11), (j196 12), (j196 13), (j196 14), (j196 15), (j196 16), (j196 17), (j196 18), (j196 19), uV, uV, uV, uV, uV, uV, uV, uV, uV, uV, uV, uV, uV, uV, uV, uV, uV, uV, uV, uV, uV, uV, uV, uV, uV], []⟩ → K68 a_ W194 := by
          intro f192 e197 x198 x199 x200 x201 x202 x203 j196 W194 a_ L193 hj206 HS195  hfr_; subst hfr_
          injection hj206 with hj206; subst hj206; try dsimp only at h
          refine hK69 _ _ ?_
          refine wp_seq_k (fun K212 hK213 => ?_)
          refine wp_seq_k (fun K214 hK215 => ?_)
          refine wp_region_lit ?_
          refine seqS2 (a' := ⟨#[.agg #[iV b1.ID, iV b1.Was.X, iV b1.Was.Y, iV b1.Was.Z, iV b1.Here.X, iV b1.Here.Y, iV b1.Here.Z, iV b1.Rate], iV day2, .pointer (some ⟨b5, 0, none⟩), uV, .pointer (some ⟨b9, 0, none⟩), .pointer (some ⟨b13, 0, none⟩), iV e197, (j196 0), (j196 1), (j196 2), iV day2, uV, uV, iV day2, .bool false, .bool false, iV day2, .bool false, .bool false, .bool false, .agg #[iV b1.ID, iV b1.Was.X, iV b1.Was.Y, iV b1.Was.Z, iV b1.Here.X, iV b1.Here.Y, iV b1.Here.Z, iV b1.Rate], .bool vt39, .bool false, .bool false, uV, uV, .pointer (some ⟨b5, 1, none⟩), .agg #[iV b1.Was.X, iV b1.Was.Y, iV b1.Was.Z], .pointer (some ⟨b5, 4, none⟩), .agg #[iV b1.Here.X, iV b1.Here.Y, iV b1.Here.Z], iV day2, (j196 3), (j196 4), (j196 5), (j196 6), (j196 7), (j196 8), (j196 9), (j196 10), (j196 11), (j196 12), (j196 13), (j196 14), (j196 15), (j196 16), (j196 17), (j196 18), (j196 19), iV day2, uV, uV, uV, uV, uV, uV, uV, uV, uV, uV, uV, uV, uV, uV, uV, uV, uV, uV, uV, uV, uV, uV, uV, uV], []⟩) (by kernel_rfl) ?_
          refine wpList_nil ?_
          refine hK215 _ _ ?_
          refine blockK (fun B216 hx217 hn218 hr219 ho220 hp221 => ?_)
          have hq_ := bind_some h; clear h; obtain ⟨o270, hv336, h⟩ := hq_
          have J337 : ∀ (f324 : FM) (e329 : Int) (x330 : Int) (x331 : Int) (x332 : Int) (x333 : Int) (x334 : Int) (x335 : Int) (j328 : Nat → Value) (W326 : World) (a_ : Act), FM.le f192 f324 → some ((e329, x330, x331, x332, x333, x334, x335)) = some o270 → St t W326 f324 ([(b13, .cells #[.int .i64 x330, .int .i64 x331, .int .i64 x332] 23 (0, 0))] :: [(b9, .cells #[.int .i64 x333, .int .i64 x334, .int .i64 x335] 23 (0, 0))] :: [(b5, .cells #[.int .i64 b1.ID, .int .i64 b1.Was.X, .int .i64 b1.Was.Y, .int .i64 b1.Was.Z, .int .i64 b1.Here.X, .int .i64 b1.Here.Y, .int .i64 b1.Here.Z, .int .i64 b1.Rate] 36 (0, 0))] :: H) → a_ = ⟨#[.agg #[iV b1.ID, iV b1.Was.X, iV b1.Was.Y, iV b1.Was.Z, iV b1.Here.X, iV b1.Here.Y, iV b1.Here.Z, iV b1.Rate], iV day2, .pointer (some ⟨b5, 0, none⟩), uV, .pointer (some ⟨b9, 0, none⟩), .pointer (some ⟨b13, 0, none⟩), iV e329, (j196 0), (j196 1), (j196 2), (j328 0), (j328 1), (j328 2), iV day2, .bool false, .bool false, iV day2, .bool false, .bool false, .bool false, .agg #[iV b1.ID, iV b1.Was.X, iV b1.Was.Y, iV b1.Was.Z, iV b1.Here.X, iV b1.Here.Y, iV b1.Here.Z, iV b1.Rate], .bool vt39, .bool false, .bool false, uV, uV, .pointer (some ⟨b5, 1, none⟩), .agg #[iV b1.Was.X, iV b1.Was.Y, iV b1.Was.Z], .pointer (some ⟨b5, 4, none⟩), .agg #[iV b1.Here.X, iV b1.Here.Y, iV b1.Here.Z], iV day2, (j196 3), (j196 4), (j196 5), (j196 6), (j196 7), (j196 8), (j196 9), (j196 10), (j196 11), (j196 12), (j196 13), (j196 14), (j196 15), (j196 16), (j196 17), (j196 18), (j196 19), iV day2, (j328 3), (j328 4), (j328 5), (j328 6), (j328 7), (j328 8), (j328 9), (j328 10), (j328 11), (j328 12), (j328 13), (j328 14), (j328 15), (j328 16), (j328 17), (j328 18), (j328 19), uV, uV, uV, uV, uV, uV, uV], []⟩ → K212 a_ W326 := by
            intro f324 e329 x330 x331 x332 x333 x334 x335 j328 W326 a_ L325 hj338 HS327  hfr_; subst hfr_
            injection hj338 with hj338; subst hj338; try dsimp only at h
            refine hK213 _ _ ?_
            refine wp_seq_k (fun K344 hK345 => ?_)
            refine wp_seq_k (fun K346 hK347 => ?_)
            refine wp_region_lit ?_
            refine seqS2 (a' := ⟨#[.agg #[iV b1.ID, iV b1.Was.X, iV b1.Was.Y, iV b1.Was.Z, iV b1.Here.X, iV b1.Here.Y, iV b1.Here.Z, iV b1.Rate], iV day2, .pointer (some ⟨b5, 0, none⟩), uV, .pointer (some ⟨b9, 0, none⟩), .pointer (some ⟨b13, 0, none⟩), iV e329, (j196 0), (j196 1), (j196 2), (j328 0), (j328 1), (j328 2), iV day2, .bool false, .bool false, iV day2, .bool false, .bool false, .bool false, .agg #[iV b1.ID, iV b1.Was.X, iV b1.Was.Y, iV b1.Was.Z, iV b1.Here.X, iV b1.Here.Y, iV b1.Here.Z, iV b1.Rate], .bool vt39, .bool false, .bool false, uV, uV, .pointer (some ⟨b5, 1, none⟩), .agg #[iV b1.Was.X, iV b1.Was.Y, iV b1.Was.Z], .pointer (some ⟨b5, 4, none⟩), .agg #[iV b1.Here.X, iV b1.Here.Y, iV b1.Here.Z], iV day2, (j196 3), (j196 4), (j196 5), (j196 6), (j196 7), (j196 8), (j196 9), (j196 10), (j196 11), (j196 12), (j196 13), (j196 14), (j196 15), (j196 16), (j196 17), (j196 18), (j196 19), iV day2, (j328 3), (j328 4), (j328 5), (j328 6), (j328 7), (j328 8), (j328 9), (j328 10), (j328 11), (j328 12), (j328 13), (j328 14), (j328 15), (j328 16), (j328 17), (j328 18), (j328 19), iV e329, .bool (e329 != 0), uV, uV, uV, uV, uV], []⟩) (by kernel_rfl) ?_
            refine wpList_nil ?_
            refine hK347 _ _ ?_
            have hq_ := ite_some h; clear h; rcases hq_ with ⟨c349, h⟩ | ⟨c349, h⟩
            · have c349 : e329 ≠ 0 := c349
              refine wpRwI 67 (x := (e329 != 0)) (v := true) (by kernel_rfl) (bne_iff_ne.mpr c349) ?_
              refine condT (by kernel_rfl) ?_
              refine wp_seq_k (fun K350 hK351 => ?_)
              refine wp_region_lit ?_
              have HS352 := HS327.u1
              refine seqL3 (by kernel_rfl) ?_
              refine seqK rfl (does_store (n := 3) (vs := [.int .i64 0, .int .i64 0, .int .i64 0]) (cs' := #[.int .i64 0, .int .i64 0, .int .i64 0]) rfl (by kernel_rfl) (by kernel_rfl : _ = Value.pointer (some ⟨b9, 0, none⟩)) (by kernel_rfl : _ = Value.agg #[.int .i64 0, .int .i64 0, .int .i64 0]) rfl rfl (by intro u_ hu_; simp only [List.mem_cons, List.not_mem_nil, or_false] at hu_; rcases hu_ with rfl | rfl | rfl <;> rfl) HS352 (Nat.le_of_ble_eq_true rfl) (by kernel_rfl) ?_)
              intro W353 HS354
              have HS355 := HS354.u1
              refine seqK rfl (does_store (n := 3) (vs := [.int .i64 0, .int .i64 0, .int .i64 0]) (cs' := #[.int .i64 0, .int .i64 0, .int .i64 0]) rfl (by kernel_rfl) (by kernel_rfl : _ = Value.pointer (some ⟨b13, 0, none⟩)) (by kernel_rfl : _ = Value.agg #[.int .i64 0, .int .i64 0, .int .i64 0]) rfl rfl (by intro u_ hu_; simp only [List.mem_cons, List.not_mem_nil, or_false] at hu_; rcases hu_ with rfl | rfl | rfl <;> rfl) HS355 (Nat.le_of_ble_eq_true rfl) (by kernel_rfl) ?_)
              intro W356 HS357
              refine seqS1 (a' := ⟨#[.agg #[iV b1.ID, iV b1.Was.X, iV b1.Was.Y, iV b1.Was.Z, iV b1.Here.X, iV b1.Here.Y, iV b1.Here.Z, iV b1.Rate], iV day2, .pointer (some ⟨b5, 0, none⟩), uV, .pointer (some ⟨b9, 0, none⟩), .pointer (some ⟨b13, 0, none⟩), iV e329, (j196 0), (j196 1), (j196 2), (j328 0), (j328 1), (j328 2), iV day2, .bool false, .bool false, iV day2, .bool false, .bool false, .bool false, .agg #[iV b1.ID, iV b1.Was.X, iV b1.Was.Y, iV b1.Was.Z, iV b1.Here.X, iV b1.Here.Y, iV b1.Here.Z, iV b1.Rate], .bool vt39, .bool false, .bool false, uV, uV, .pointer (some ⟨b5, 1, none⟩), .agg #[iV b1.Was.X, iV b1.Was.Y, iV b1.Was.Z], .pointer (some ⟨b5, 4, none⟩), .agg #[iV b1.Here.X, iV b1.Here.Y, iV b1.Here.Z], iV day2, (j196 3), (j196 4), (j196 5), (j196 6), (j196 7), (j196 8), (j196 9), (j196 10), (j196 11), (j196 12), (j196 13), (j196 14), (j196 15), (j196 16), (j196 17), (j196 18), (j196 19), iV day2, (j328 3), (j328 4), (j328 5), (j328 6), (j328 7), (j328 8), (j328 9), (j328 10), (j328 11), (j328 12), (j328 13), (j328 14), (j328 15), (j328 16), (j328 17), (j328 18), (j328 19), iV e329, .bool true, .agg #[iV 0, iV 0, iV 0], .agg #[iV 0, iV 0, iV 0], iV e329, uV, uV], []⟩) (by kernel_rfl) ?_
              refine wpList_nil ?_
              refine hK351 _ _ ?_
              refine wp_ret ?_
              refine hret _ _ ?_
              refine ends (v := Value.tuple #[.agg #[.int .i64 0, .int .i64 0, .int .i64 0], .agg #[.int .i64 0, .int .i64 0, .int .i64 0], .int .i64 e329]) (results3 (q1 := .cell 4 23) (q2 := .cell 5 23) (q3 := .tmp 6) (by kernel_rfl) (resN (n := 3) (cs := [.int .i64 0, .int .i64 0, .int .i64 0]) (by kernel_rfl : _ = Value.pointer (some ⟨b9, 0, none⟩)) Try.underlying23 rfl (by kernel_rfl) rfl (HS357.u1.cells 0 3 _ rfl)) (resN (n := 3) (cs := [.int .i64 0, .int .i64 0, .int .i64 0]) (by kernel_rfl : _ = Value.pointer (some ⟨b13, 0, none⟩)) Try.underlying23 rfl (by kernel_rfl) rfl (HS357.cells 0 3 _ rfl)) (resT (by kernel_rfl : _ = Value.int .i64 e329))) (by kernel_rfl) ?_
              have HS380 := HS357.drop
              have HS381 := HS380.drop
              have HS382 := HS381.drop
              injection h with h
              injection h with h0_ h
              injection h with h1_ h
              subst h0_ h1_ h
              exact ⟨f324, rfl, (L42.trans (L193.trans L325)), HS382⟩
            · have c349 : ¬ (e329 ≠ 0) := c349
              refine wpRwI 67 (x := (e329 != 0)) (v := false) (by kernel_rfl) (bne_eq_false_iff_eq.mpr (Decidable.of_not_not c349)) ?_
              refine condF (by kernel_rfl) ?_
              refine wp_skip ?_
              refine hK345 _ _ ?_
              refine wp_seq_k (fun K358 hK359 => ?_)
              have HS360 := HS327.u2
              have HS361 := HS360.u2
              have HS362 := HS361.u2
              refine heldG (S := Sg t f324 ([(b5, .cells #[.int .i64 b1.ID, .int .i64 b1.Was.X, .int .i64 b1.Was.Y, .int .i64 b1.Was.Z, .int .i64 b1.Here.X, .int .i64 b1.Here.Y, .int .i64 b1.Here.Z, .int .i64 b1.Rate] 36 (0, 0))] :: H) [(3, [(b13, .cells #[.int .i64 x330, .int .i64 x331, .int .i64 x332] 23 (0, 0))]), (2, [(b9, .cells #[.int .i64 x333, .int .i64 x334, .int .i64 x335] 23 (0, 0))])]) (n := 5) (by kernel_rfl) rfl HS362 ?_
              intro W363 HS364
              refine takeGQ 0 [2] rfl (by kernel_rfl) (by kernel_rfl) (by kernel_rfl) (by kernel_rfl) (by kernel_rfl) (by kernel_rfl) hnp (Sg.g2 (Sx.of [[(b13, .cells #[.int .i64 x330, .int .i64 x331, .int .i64 x332] 23 (0, 0))], [(b9, .cells #[.int .i64 x333, .int .i64 x334, .int .i64 x335] 23 (0, 0))]] (FM.le.refl _) HS364) (fun _ => St.only [] HS364 (FM.le.refl _)) (fun _ => St.only [[(b13, .cells #[.int .i64 x330, .int .i64 x331, .int .i64 x332] 23 (0, 0))]] HS364 (FM.le.refl _))) (fun w_ hw_ => by obtain ⟨g_, hl_, hS_⟩ := hw_.seg (j := 2) (s := [(b9, .cells #[.int .i64 x333, .int .i64 x334, .int .i64 x335] 23 (0, 0))]) (by simp) (by simp); exact run_loadN (n := 3) rfl Try.underlying23 rfl (by kernel_rfl) (by kernel_rfl : _ = Value.pointer (some ⟨b9, 0, none⟩)) (cs := [.int .i64 x333, .int .i64 x334, .int .i64 x335]) rfl (hS_.cells 0 3 _ rfl)) ?_
              refine takeGQ 1 [3] rfl (by kernel_rfl) (by kernel_rfl) (by kernel_rfl) (by kernel_rfl) (by kernel_rfl) (by kernel_rfl) hnp (Sg.g2 (Sx.of [[(b13, .cells #[.int .i64 x330, .int .i64 x331, .int .i64 x332] 23 (0, 0))], [(b9, .cells #[.int .i64 x333, .int .i64 x334, .int .i64 x335] 23 (0, 0))]] (FM.le.refl _) HS364) (fun _ => St.only [] HS364 (FM.le.refl _)) (fun _ => St.only [[(b13, .cells #[.int .i64 x330, .int .i64 x331, .int .i64 x332] 23 (0, 0))]] HS364 (FM.le.refl _))) (fun w_ hw_ => by obtain ⟨g_, hl_, hS_⟩ := hw_.seg (j := 3) (s := [(b13, .cells #[.int .i64 x330, .int .i64 x331, .int .i64 x332] 23 (0, 0))]) (by simp) (by simp); exact run_loadN (n := 3) rfl Try.underlying23 rfl (by kernel_rfl) (by kernel_rfl : _ = Value.pointer (some ⟨b13, 0, none⟩)) (cs := [.int .i64 x330, .int .i64 x331, .int .i64 x332]) rfl (hS_.cells 0 3 _ rfl)) ?_
              have HS365 := HS364.u1
              refine takeGE 2 (by kernel_rfl) rfl (by kernel_rfl) (does_store (n := 3) (vs := [.int .i64 x333, .int .i64 x334, .int .i64 x335]) (cs' := #[.int .i64 x333, .int .i64 x334, .int .i64 x335]) rfl (by kernel_rfl) (by kernel_rfl : _ = Value.pointer (some ⟨b9, 0, none⟩)) (by kernel_rfl : _ = Value.agg #[.int .i64 x333, .int .i64 x334, .int .i64 x335]) rfl rfl (by intro u_ hu_; simp only [List.mem_cons, List.not_mem_nil, or_false] at hu_; rcases hu_ with rfl | rfl | rfl <;> rfl) HS365 (Nat.le_of_ble_eq_true rfl) (by kernel_rfl) ?_)
              intro W366 HS367
              refine ⟨(Sg.g2 (Sx.of [[(b9, .cells #[.int .i64 x333, .int .i64 x334, .int .i64 x335] 23 (0, 0))], [(b13, .cells #[.int .i64 x330, .int .i64 x331, .int .i64 x332] 23 (0, 0))]] (FM.le.refl _) HS367) (fun _ => St.only [[(b9, .cells #[.int .i64 x333, .int .i64 x334, .int .i64 x335] 23 (0, 0))]] HS367 (FM.le.refl _)) (fun hl_ => Bool.noConfusion (show true = false from hl_))), ?_⟩
              have HS368 := HS367.u1
              refine takeGE 3 (by kernel_rfl) rfl (by kernel_rfl) (does_store (n := 3) (vs := [.int .i64 x330, .int .i64 x331, .int .i64 x332]) (cs' := #[.int .i64 x330, .int .i64 x331, .int .i64 x332]) rfl (by kernel_rfl) (by kernel_rfl : _ = Value.pointer (some ⟨b13, 0, none⟩)) (by kernel_rfl : _ = Value.agg #[.int .i64 x330, .int .i64 x331, .int .i64 x332]) rfl rfl (by intro u_ hu_; simp only [List.mem_cons, List.not_mem_nil, or_false] at hu_; rcases hu_ with rfl | rfl | rfl <;> rfl) HS368 (Nat.le_of_ble_eq_true rfl) (by kernel_rfl) ?_)
              intro W369 HS370
              refine ⟨(Sg.g2 (Sx.of [[(b13, .cells #[.int .i64 x330, .int .i64 x331, .int .i64 x332] 23 (0, 0))], [(b9, .cells #[.int .i64 x333, .int .i64 x334, .int .i64 x335] 23 (0, 0))]] (FM.le.refl _) HS370) (fun hl_ => Bool.noConfusion (show true = false from hl_)) (fun hl_ => Bool.noConfusion (show true = false from hl_))), ?_⟩
              refine takeG [4] (n := 1) (fuel := 0) (l' := #[true, true, true, true, true]) (a' := ⟨#[.agg #[iV b1.ID, iV b1.Was.X, iV b1.Was.Y, iV b1.Was.Z, iV b1.Here.X, iV b1.Here.Y, iV b1.Here.Z, iV b1.Rate], iV day2, .pointer (some ⟨b5, 0, none⟩), uV, .pointer (some ⟨b9, 0, none⟩), .pointer (some ⟨b13, 0, none⟩), iV 0, (j196 0), (j196 1), (j196 2), (j328 0), (j328 1), (j328 2), iV day2, .bool false, .bool false, iV day2, .bool false, .bool false, .bool false, .agg #[iV b1.ID, iV b1.Was.X, iV b1.Was.Y, iV b1.Was.Z, iV b1.Here.X, iV b1.Here.Y, iV b1.Here.Z, iV b1.Rate], .bool vt39, .bool false, .bool false, uV, uV, .pointer (some ⟨b5, 1, none⟩), .agg #[iV b1.Was.X, iV b1.Was.Y, iV b1.Was.Z], .pointer (some ⟨b5, 4, none⟩), .agg #[iV b1.Here.X, iV b1.Here.Y, iV b1.Here.Z], iV day2, (j196 3), (j196 4), (j196 5), (j196 6), (j196 7), (j196 8), (j196 9), (j196 10), (j196 11), (j196 12), (j196 13), (j196 14), (j196 15), (j196 16), (j196 17), (j196 18), (j196 19), iV day2, (j328 3), (j328 4), (j328 5), (j328 6), (j328 7), (j328 8), (j328 9), (j328 10), (j328 11), (j328 12), (j328 13), (j328 14), (j328 15), (j328 16), (j328 17), (j328 18), (j328 19), iV e329, .bool false, uV, uV, uV, .agg #[iV x333, iV x334, iV x335], .agg #[iV x330, iV x331, iV x332]], []⟩) rfl (by kernel_rfl) (by kernel_rfl) (by kernel_rfl) hnp (Sg.g2 (Sx.of [[(b13, .cells #[.int .i64 x330, .int .i64 x331, .int .i64 x332] 23 (0, 0))], [(b9, .cells #[.int .i64 x333, .int .i64 x334, .int .i64 x335] 23 (0, 0))]] (FM.le.refl _) HS370) (fun hl_ => Bool.noConfusion (show true = false from hl_)) (fun hl_ => Bool.noConfusion (show true = false from hl_))) ?_
              refine doneG (by kernel_rfl) ?_ _
              refine hK359 _ _ ?_
              refine wp_ret ?_
              refine hret _ _ ?_
              refine ends (v := Value.tuple #[.agg #[.int .i64 x333, .int .i64 x334, .int .i64 x335], .agg #[.int .i64 x330, .int .i64 x331, .int .i64 x332], .int .i64 0]) (results3 (q1 := .cell 4 23) (q2 := .cell 5 23) (q3 := .tmp 6) (by kernel_rfl) (resN (n := 3) (cs := [.int .i64 x333, .int .i64 x334, .int .i64 x335]) (by kernel_rfl : _ = Value.pointer (some ⟨b9, 0, none⟩)) Try.underlying23 rfl (by kernel_rfl) rfl (HS370.u1.cells 0 3 _ rfl)) (resN (n := 3) (cs := [.int .i64 x330, .int .i64 x331, .int .i64 x332]) (by kernel_rfl : _ = Value.pointer (some ⟨b13, 0, none⟩)) Try.underlying23 rfl (by kernel_rfl) rfl (HS370.cells 0 3 _ rfl)) (resT (by kernel_rfl : _ = Value.int .i64 0))) (by kernel_rfl) ?_
              have HS383 := HS370.drop
              have HS384 := HS383.drop
              have HS385 := HS384.drop
              injection h with h
              injection h with h0_ h
              injection h with h1_ h
              subst h0_ h1_ h
              exact ⟨f324, rfl, (L42.trans (L193.trans L325)), HS385⟩
          clear h; have h := hv336; clear hv336
          refine loopK (fun n_ a_ w_ => ∃ (f274 : FM) (e279 : Int) (n280 : Int) (x281 : Int) (x282 : Int) (x283 : Int) (x284 : Int) (x285 : Int) (x286 : Int) (j278 : Nat → Value), FM.le f192 f274 ∧ St t w_ f274 ([(b13, .cells #[.int .i64 x281, .int .i64 x282, .int .i64 x283] 23 (0, 0))] :: [(b9, .cells #[.int .i64 x284, .int .i64 x285, .int .i64 x286] 23 (0, 0))] :: [(b5, .cells #[.int .i64 b1.ID, .int .i64 b1.Was.X, .int .i64 b1.Was.Y, .int .i64 b1.Was.Z, .int .i64 b1.Here.X, .int .i64 b1.Here.Y, .int .i64 b1.Here.Z, .int .i64 b1.Rate] 36 (0, 0))] :: H) ∧ sky_Path.l1 k n_ e279 n280 x281 x282 x283 x284 x285 x286 = some o270 ∧ a_ = ⟨#[.agg #[iV b1.ID, iV b1.Was.X, iV b1.Was.Y, iV b1.Was.Z, iV b1.Here.X, iV b1.Here.Y, iV b1.Here.Z, iV b1.Rate], iV day2, .pointer (some ⟨b5, 0, none⟩), uV, .pointer (some ⟨b9, 0, none⟩), .pointer (some ⟨b13, 0, none⟩), iV e279, (j196 0), (j196 1), (j196 2), iV n280, (j278 0), (j278 1), iV day2, .bool false, .bool false, iV day2, .bool false, .bool false, .bool false, .agg #[iV b1.ID, iV b1.Was.X, iV b1.Was.Y, iV b1.Was.Z, iV b1.Here.X, iV b1.Here.Y, iV b1.Here.Z, iV b1.Rate], .bool vt39, .bool false, .bool false, uV, uV, .pointer (some ⟨b5, 1, none⟩), .agg #[iV b1.Was.X, iV b1.Was.Y, iV b1.Was.Z], .pointer (some ⟨b5, 4, none⟩), .agg #[iV b1.Here.X, iV b1.Here.Y, iV b1.Here.Z], iV day2, (j196 3), (j196 4), (j196 5), (j196 6), (j196 7), (j196 8), (j196 9), (j196 10), (j196 11), (j196 12), (j196 13), (j196 14), (j196 15), (j196 16), (j196 17), (j196 18), (j196 19), iV day2, (j278 2), (j278 3), (j278 4), (j278 5), (j278 6), (j278 7), (j278 8), (j278 9), (j278 10), (j278 11), (j278 12), (j278 13), (j278 14), (j278 15), (j278 16), (j278 17), (j278 18), uV, uV, uV, uV, uV, uV, uV], []⟩) k ⟨f192, e197, day2, x198, x199, x200, x201, x202, x203, (fun i_ => [undef, undef, undef, undef, undef, undef, undef, undef, undef, undef, undef, undef, undef, undef, undef, undef, undef, undef, undef].getD i_ undef), (FM.le.refl _), HS195, h, (by kernel_rfl)⟩ ?_
          clear h
          rintro n273 _ W276 ⟨f274, e279, n280, x281, x282, x283, x284, x285, x286, j278, L275, HS277, h, rfl⟩ K271 hK272
          obtain _ | n273 := n273
          · exact nomatch h
          simp only [sky_Path.l1] at h
          refine wp_seq_k (fun K287 hK288 => ?_)
          refine wp_seq_k (fun K289 hK290 => ?_)
          refine wp_region_lit ?_
          refine seqS3 (a' := ⟨#[.agg #[iV b1.ID, iV b1.Was.X, iV b1.Was.Y, iV b1.Was.Z, iV b1.Here.X, iV b1.Here.Y, iV b1.Here.Z, iV b1.Rate], iV day2, .pointer (some ⟨b5, 0, none⟩), uV, .pointer (some ⟨b9, 0, none⟩), .pointer (some ⟨b13, 0, none⟩), iV e279, (j196 0), (j196 1), (j196 2), iV n280, (j278 0), (j278 1), iV day2, .bool false, .bool false, iV day2, .bool false, .bool false, .bool false, .agg #[iV b1.ID, iV b1.Was.X, iV b1.Was.Y, iV b1.Was.Z, iV b1.Here.X, iV b1.Here.Y, iV b1.Here.Z, iV b1.Rate], .bool vt39, .bool false, .bool false, uV, uV, .pointer (some ⟨b5, 1, none⟩), .agg #[iV b1.Was.X, iV b1.Was.Y, iV b1.Was.Z], .pointer (some ⟨b5, 4, none⟩), .agg #[iV b1.Here.X, iV b1.Here.Y, iV b1.Here.Z], iV day2, (j196 3), (j196 4), (j196 5), (j196 6), (j196 7), (j196 8), (j196 9), (j196 10), (j196 11), (j196 12), (j196 13), (j196 14), (j196 15), (j196 16), (j196 17), (j196 18), (j196 19), iV day2, iV n280, .bool (decide (n280 < 0)), .bool (decide (n280 < 0)), (j278 5), (j278 6), (j278 7), (j278 8), (j278 9), (j278 10), (j278 11), (j278 12), (j278 13), (j278 14), (j278 15), (j278 16), (j278 17), (j278 18), uV, uV, uV, uV, uV, uV, uV], []⟩) (by kernel_rfl) ?_
          have hq_ := ite_some h; clear h; rcases hq_ with ⟨c291, h⟩ | ⟨c291, h⟩
          · have c291 : n280 < 0 := c291
            refine seqRwI 50 (x := (decide (n280 < 0))) (v := true) (by kernel_rfl) (decide_eq_true c291) ?_
            refine seqRwI 51 (x := (decide (n280 < 0))) (v := true) (by kernel_rfl) (decide_eq_true c291) ?_
            refine seqS3 (a' := ⟨#[.agg #[iV b1.ID, iV b1.Was.X, iV b1.Was.Y, iV b1.Was.Z, iV b1.Here.X, iV b1.Here.Y, iV b1.Here.Z, iV b1.Rate], iV day2, .pointer (some ⟨b5, 0, none⟩), uV, .pointer (some ⟨b9, 0, none⟩), .pointer (some ⟨b13, 0, none⟩), iV e279, (j196 0), (j196 1), (j196 2), iV n280, (j278 0), (j278 1), iV day2, .bool false, .bool false, iV day2, .bool false, .bool false, .bool false, .agg #[iV b1.ID, iV b1.Was.X, iV b1.Was.Y, iV b1.Was.Z, iV b1.Here.X, iV b1.Here.Y, iV b1.Here.Z, iV b1.Rate], .bool vt39, .bool false, .bool false, uV, uV, .pointer (some ⟨b5, 1, none⟩), .agg #[iV b1.Was.X, iV b1.Was.Y, iV b1.Was.Z], .pointer (some ⟨b5, 4, none⟩), .agg #[iV b1.Here.X, iV b1.Here.Y, iV b1.Here.Z], iV day2, (j196 3), (j196 4), (j196 5), (j196 6), (j196 7), (j196 8), (j196 9), (j196 10), (j196 11), (j196 12), (j196 13), (j196 14), (j196 15), (j196 16), (j196 17), (j196 18), (j196 19), iV day2, iV n280, .bool true, .bool true, iV e279, .bool (e279 == 0), .bool (e279 == 0), (j278 8), (j278 9), (j278 10), (j278 11), (j278 12), (j278 13), (j278 14), (j278 15), (j278 16), (j278 17), (j278 18), uV, uV, uV, uV, uV, uV, uV], []⟩) (by kernel_rfl) ?_
            refine wpList_nil ?_
            refine hK290 _ _ ?_
            have hq_ := ite_some h; clear h; rcases hq_ with ⟨c293, h⟩ | ⟨c293, h⟩
            · have c293 : e279 = 0 := c293
              refine wpRwI 53 (x := (e279 == 0)) (v := true) (by kernel_rfl) (beq_iff_eq.mpr c293) ?_
              refine wpRwI 54 (x := (e279 == 0)) (v := true) (by kernel_rfl) (beq_iff_eq.mpr c293) ?_
              refine condT (by kernel_rfl) ?_
              refine wp_skip ?_
              refine hK288 _ _ ?_
              refine wp_seq_k (fun K294 hK295 => ?_)
              refine blockK (fun B296 hx297 hn298 hr299 ho300 hp301 => ?_)
              refine wp_seq_k (fun K303 hK304 => ?_)
              refine wp_region_lit ?_
              refine seqK rfl (does_run (run_loadN (n := 3) rfl Try.underlying23 rfl (by kernel_rfl) (by kernel_rfl : _ = Value.pointer (some ⟨b13, 0, none⟩)) (cs := [.int .i64 x281, .int .i64 x282, .int .i64 x283]) rfl (HS277.cells 0 3 _ rfl)) ?_)
              refine seqK rfl (does_run (run_loadN (n := 3) rfl Try.underlying23 rfl (by kernel_rfl) (by kernel_rfl : _ = Value.pointer (some ⟨b9, 0, none⟩)) (cs := [.int .i64 x284, .int .i64 x285, .int .i64 x286]) rfl (HS277.u1.cells 0 3 _ rfl)) ?_)
              have hq_ := bind_some h; clear h; obtain ⟨⟨vt305, vt306⟩, hc307, h⟩ := hq_
              refine seqK rfl (does_call (f := 8) (args := #[.agg #[.int .i64 x281, .int .i64 x282, .int .i64 x283], .agg #[.int .i64 x284, .int .i64 x285, .int .i64 x286]]) (by kernel_rfl) (sky_Step.calls k (⟨x281, x282, x283⟩ : S_Vec) (⟨x284, x285, x286⟩ : S_Vec) HS277 vt305 vt306 hc307) ?_)
              rintro _ W310 ⟨f308, rfl, L309, HS311⟩
              refine ⟨_, rfl, ?_⟩
              refine seqL3 (by kernel_rfl) ?_
              refine seqK rfl (does_alloc (z := Value.agg #[.int .i64 0, .int .i64 0, .int .i64 0]) (cs := #[.int .i64 0, .int .i64 0, .int .i64 0]) rfl (by kernel_rfl) rfl HS311 ?_)
              intro b312 W313 HS314
              refine seqK rfl (does_store (n := 3) (vs := [.int .i64 vt305.X, .int .i64 vt305.Y, .int .i64 vt305.Z]) (cs' := #[.int .i64 vt305.X, .int .i64 vt305.Y, .int .i64 vt305.Z]) rfl (by kernel_rfl) (by kernel_rfl : _ = Value.pointer (some ⟨b312, 0, none⟩)) (by kernel_rfl : _ = Value.agg #[.int .i64 vt305.X, .int .i64 vt305.Y, .int .i64 vt305.Z]) rfl rfl (by intro u_ hu_; simp only [List.mem_cons, List.not_mem_nil, or_false] at hu_; rcases hu_ with rfl | rfl | rfl <;> rfl) HS314 (Nat.le_of_ble_eq_true rfl) (by kernel_rfl) ?_)
              intro W316 HS317
              refine seqS1 (a' := ⟨#[.agg #[iV b1.ID, iV b1.Was.X, iV b1.Was.Y, iV b1.Was.Z, iV b1.Here.X, iV b1.Here.Y, iV b1.Here.Z, iV b1.Rate], iV day2, .pointer (some ⟨b5, 0, none⟩), uV, .pointer (some ⟨b9, 0, none⟩), .pointer (some ⟨b13, 0, none⟩), iV e279, (j196 0), (j196 1), (j196 2), iV n280, .pointer (some ⟨b312, 0, none⟩), iV vt306, iV day2, .bool false, .bool false, iV day2, .bool false, .bool false, .bool false, .agg #[iV b1.ID, iV b1.Was.X, iV b1.Was.Y, iV b1.Was.Z, iV b1.Here.X, iV b1.Here.Y, iV b1.Here.Z, iV b1.Rate], .bool vt39, .bool false, .bool false, uV, uV, .pointer (some ⟨b5, 1, none⟩), .agg #[iV b1.Was.X, iV b1.Was.Y, iV b1.Was.Z], .pointer (some ⟨b5, 4, none⟩), .agg #[iV b1.Here.X, iV b1.Here.Y, iV b1.Here.Z], iV day2, (j196 3), (j196 4), (j196 5), (j196 6), (j196 7), (j196 8), (j196 9), (j196 10), (j196 11), (j196 12), (j196 13), (j196 14), (j196 15), (j196 16), (j196 17), (j196 18), (j196 19), iV day2, iV n280, .bool true, .bool true, iV e279, .bool true, .bool true, (j278 8), (j278 9), .tuple #[.agg #[iV vt305.X, iV vt305.Y, iV vt305.Z], iV vt306], .agg #[iV x281, iV x282, iV x283], .agg #[iV x284, iV x285, iV x286], .tuple #[.agg #[iV vt305.X, iV vt305.Y, iV vt305.Z], iV vt306], .agg #[iV vt305.X, iV vt305.Y, iV vt305.Z], iV vt306, (j278 16), (j278 17), (j278 18), uV, uV, uV, uV, uV, uV, uV], []⟩) (by kernel_rfl) ?_
              refine wpList_nil ?_
              refine hK304 _ _ ?_
              refine wp_region_lit ?_
              refine seqK rfl (does_run (run_loadN (n := 3) rfl Try.underlying23 rfl (by kernel_rfl) (by kernel_rfl : _ = Value.pointer (some ⟨b312, 0, none⟩)) (cs := [.int .i64 vt305.X, .int .i64 vt305.Y, .int .i64 vt305.Z]) rfl (HS317.cells 0 3 _ rfl)) ?_)
              refine seqK rfl (does_run (run_loadN (n := 3) rfl Try.underlying23 rfl (by kernel_rfl) (by kernel_rfl : _ = Value.pointer (some ⟨b9, 0, none⟩)) (cs := [.int .i64 x284, .int .i64 x285, .int .i64 x286]) rfl (HS317.u2.cells 0 3 _ rfl)) ?_)
              have HS318 := HS317.u2
              refine seqL1 (by kernel_rfl) ?_
              refine seqK rfl (does_store (n := 3) (vs := [.int .i64 vt305.X, .int .i64 vt305.Y, .int .i64 vt305.Z]) (cs' := #[.int .i64 vt305.X, .int .i64 vt305.Y, .int .i64 vt305.Z]) rfl (by kernel_rfl) (by kernel_rfl : _ = Value.pointer (some ⟨b9, 0, none⟩)) (by kernel_rfl : _ = Value.agg #[.int .i64 vt305.X, .int .i64 vt305.Y, .int .i64 vt305.Z]) rfl rfl (by intro u_ hu_; simp only [List.mem_cons, List.not_mem_nil, or_false] at hu_; rcases hu_ with rfl | rfl | rfl <;> rfl) HS318 (Nat.le_of_ble_eq_true rfl) (by kernel_rfl) ?_)
              intro W319 HS320
              have HS321 := HS320.u2
              refine seqK rfl (does_store (n := 3) (vs := [.int .i64 x284, .int .i64 x285, .int .i64 x286]) (cs' := #[.int .i64 x284, .int .i64 x285, .int .i64 x286]) rfl (by kernel_rfl) (by kernel_rfl : _ = Value.pointer (some ⟨b13, 0, none⟩)) (by kernel_rfl : _ = Value.agg #[.int .i64 x284, .int .i64 x285, .int .i64 x286]) rfl rfl (by intro u_ hu_; simp only [List.mem_cons, List.not_mem_nil, or_false] at hu_; rcases hu_ with rfl | rfl | rfl <;> rfl) HS321 (Nat.le_of_ble_eq_true rfl) (by kernel_rfl) ?_)
              intro W322 HS323
              refine seqS1 (a' := ⟨#[.agg #[iV b1.ID, iV b1.Was.X, iV b1.Was.Y, iV b1.Was.Z, iV b1.Here.X, iV b1.Here.Y, iV b1.Here.Z, iV b1.Rate], iV day2, .pointer (some ⟨b5, 0, none⟩), uV, .pointer (some ⟨b9, 0, none⟩), .pointer (some ⟨b13, 0, none⟩), iV vt306, (j196 0), (j196 1), (j196 2), iV n280, .pointer (some ⟨b312, 0, none⟩), iV vt306, iV day2, .bool false, .bool false, iV day2, .bool false, .bool false, .bool false, .agg #[iV b1.ID, iV b1.Was.X, iV b1.Was.Y, iV b1.Was.Z, iV b1.Here.X, iV b1.Here.Y, iV b1.Here.Z, iV b1.Rate], .bool vt39, .bool false, .bool false, uV, uV, .pointer (some ⟨b5, 1, none⟩), .agg #[iV b1.Was.X, iV b1.Was.Y, iV b1.Was.Z], .pointer (some ⟨b5, 4, none⟩), .agg #[iV b1.Here.X, iV b1.Here.Y, iV b1.Here.Z], iV day2, (j196 3), (j196 4), (j196 5), (j196 6), (j196 7), (j196 8), (j196 9), (j196 10), (j196 11), (j196 12), (j196 13), (j196 14), (j196 15), (j196 16), (j196 17), (j196 18), (j196 19), iV day2, iV n280, .bool true, .bool true, iV e279, .bool true, .bool true, (j278 8), (j278 9), .tuple #[.agg #[iV vt305.X, iV vt305.Y, iV vt305.Z], iV vt306], .agg #[iV x281, iV x282, iV x283], .agg #[iV x284, iV x285, iV x286], .tuple #[.agg #[iV vt305.X, iV vt305.Y, iV vt305.Z], iV vt306], .agg #[iV vt305.X, iV vt305.Y, iV vt305.Z], iV vt306, .agg #[iV vt305.X, iV vt305.Y, iV vt305.Z], .agg #[iV x284, iV x285, iV x286], iV vt306, uV, uV, uV, uV, uV, uV, uV], []⟩) (by kernel_rfl) ?_
              refine wpList_nil ?_
              refine hn298 _ _ ?_
              refine hK295 _ _ ?_
              refine wp_region_lit ?_
              refine seqS3 (a' := ⟨#[.agg #[iV b1.ID, iV b1.Was.X, iV b1.Was.Y, iV b1.Was.Z, iV b1.Here.X, iV b1.Here.Y, iV b1.Here.Z, iV b1.Rate], iV day2, .pointer (some ⟨b5, 0, none⟩), uV, .pointer (some ⟨b9, 0, none⟩), .pointer (some ⟨b13, 0, none⟩), iV vt306, (j196 0), (j196 1), (j196 2), iV (w64 (n280 + 1)), .pointer (some ⟨b312, 0, none⟩), iV vt306, iV day2, .bool false, .bool false, iV day2, .bool false, .bool false, .bool false, .agg #[iV b1.ID, iV b1.Was.X, iV b1.Was.Y, iV b1.Was.Z, iV b1.Here.X, iV b1.Here.Y, iV b1.Here.Z, iV b1.Rate], .bool vt39, .bool false, .bool false, uV, uV, .pointer (some ⟨b5, 1, none⟩), .agg #[iV b1.Was.X, iV b1.Was.Y, iV b1.Was.Z], .pointer (some ⟨b5, 4, none⟩), .agg #[iV b1.Here.X, iV b1.Here.Y, iV b1.Here.Z], iV day2, (j196 3), (j196 4), (j196 5), (j196 6), (j196 7), (j196 8), (j196 9), (j196 10), (j196 11), (j196 12), (j196 13), (j196 14), (j196 15), (j196 16), (j196 17), (j196 18), (j196 19), iV day2, iV n280, .bool true, .bool true, iV e279, .bool true, .bool true, iV n280, iV (w64 (n280 + 1)), .tuple #[.agg #[iV vt305.X, iV vt305.Y, iV vt305.Z], iV vt306], .agg #[iV x281, iV x282, iV x283], .agg #[iV x284, iV x285, iV x286], .tuple #[.agg #[iV vt305.X, iV vt305.Y, iV vt305.Z], iV vt306], .agg #[iV vt305.X, iV vt305.Y, iV vt305.Z], iV vt306, .agg #[iV vt305.X, iV vt305.Y, iV vt305.Z], .agg #[iV x284, iV x285, iV x286], iV vt306, uV, uV, uV, uV, uV, uV, uV], []⟩) (by kernel_rfl) ?_
              refine wpList_nil ?_
              refine hK272 n273 _ _ (Nat.lt_succ_self _) ?_
              have HS339 := HS323.u3
              have HS340 := HS339.u2
              have HS341 := HS340.u2
              have HS342 := HS341.u3
              have HS343 := HS342.drop
              exact ⟨f308, vt306, (w64 (n280 + 1)), x284, x285, x286, vt305.X, vt305.Y, vt305.Z, (fun i_ => [Value.pointer (some ⟨b312, 0, none⟩), Value.int .i64 vt306, Value.int .i64 n280, Value.bool true, Value.bool true, Value.int .i64 e279, Value.bool true, Value.bool true, Value.int .i64 n280, Value.int .i64 (w64 (n280 + 1)), Value.tuple #[.agg #[.int .i64 vt305.X, .int .i64 vt305.Y, .int .i64 vt305.Z], .int .i64 vt306], Value.agg #[.int .i64 x281, .int .i64 x282, .int .i64 x283], Value.agg #[.int .i64 x284, .int .i64 x285, .int .i64 x286], Value.tuple #[.agg #[.int .i64 vt305.X, .int .i64 vt305.Y, .int .i64 vt305.Z], .int .i64 vt306], Value.agg #[.int .i64 vt305.X, .int .i64 vt305.Y, .int .i64 vt305.Z], Value.int .i64 vt306, Value.agg #[.int .i64 vt305.X, .int .i64 vt305.Y, .int .i64 vt305.Z], Value.agg #[.int .i64 x284, .int .i64 x285, .int .i64 x286], Value.int .i64 vt306].getD i_ undef), (L275.trans L309), HS343, h, (by kernel_rfl)⟩
            · have c293 : ¬ (e279 = 0) := c293
              refine wpRwI 53 (x := (e279 == 0)) (v := false) (by kernel_rfl) (beq_eq_false_iff_ne.mpr c293) ?_
              refine wpRwI 54 (x := (e279 == 0)) (v := false) (by kernel_rfl) (beq_eq_false_iff_ne.mpr c293) ?_
              refine condF (by kernel_rfl) ?_
              refine wp_exit ?_
              refine hx217 _ _ ?_
              exact J337 f274 e279 x281 x282 x283 x284 x285 x286 (fun i_ => [Value.int .i64 n280, (j278 0), (j278 1), Value.int .i64 n280, Value.bool true, Value.bool true, Value.int .i64 e279, Value.bool false, Value.bool false, (j278 8), (j278 9), (j278 10), (j278 11), (j278 12), (j278 13), (j278 14), (j278 15), (j278 16), (j278 17), (j278 18)].getD i_ undef) W276 _ L275 h HS277 (by kernel_rfl)
          · have c291 : ¬ (n280 < 0) := c291
            refine seqRwI 50 (x := (decide (n280 < 0))) (v := false) (by kernel_rfl) (decide_eq_false c291) ?_
            refine seqRwI 51 (x := (decide (n280 < 0))) (v := false) (by kernel_rfl) (decide_eq_false c291) ?_
            refine seqS3 (a' := ⟨#[.agg #[iV b1.ID, iV b1.Was.X, iV b1.Was.Y, iV b1.Was.Z, iV b1.Here.X, iV b1.Here.Y, iV b1.Here.Z, iV b1.Rate], iV day2, .pointer (some ⟨b5, 0, none⟩), uV, .pointer (some ⟨b9, 0, none⟩), .pointer (some ⟨b13, 0, none⟩), iV e279, (j196 0), (j196 1), (j196 2), iV n280, (j278 0), (j278 1), iV day2, .bool false, .bool false, iV day2, .bool false, .bool false, .bool false, .agg #[iV b1.ID, iV b1.Was.X, iV b1.Was.Y, iV b1.Was.Z, iV b1.Here.X, iV b1.Here.Y, iV b1.Here.Z, iV b1.Rate], .bool vt39, .bool false, .bool false, uV, uV, .pointer (some ⟨b5, 1, none⟩), .agg #[iV b1.Was.X, iV b1.Was.Y, iV b1.Was.Z], .pointer (some ⟨b5, 4, none⟩), .agg #[iV b1.Here.X, iV b1.Here.Y, iV b1.Here.Z], iV day2, (j196 3), (j196 4), (j196 5), (j196 6), (j196 7), (j196 8), (j196 9), (j196 10), (j196 11), (j196 12), (j196 13), (j196 14), (j196 15), (j196 16), (j196 17), (j196 18), (j196 19), iV day2, iV n280, .bool false, .bool false, uV, uV, .bool false, (j278 8), (j278 9), (j278 10), (j278 11), (j278 12), (j278 13), (j278 14), (j278 15), (j278 16), (j278 17), (j278 18), uV, uV, uV, uV, uV, uV, uV], []⟩) (by kernel_rfl) ?_
            refine wpList_nil ?_
            refine hK290 _ _ ?_
            refine condF (by kernel_rfl) ?_
            refine wp_exit ?_
            refine hx217 _ _ ?_
            exact J337 f274 e279 x281 x282 x283 x284 x285 x286 (fun i_ => [Value.int .i64 n280, (j278 0), (j278 1), Value.int .i64 n280, Value.bool false, Value.bool false, undef, undef, Value.bool false, (j278 8), (j278 9), (j278 10), (j278 11), (j278 12), (j278 13), (j278 14), (j278 15), (j278 16), (j278 17), (j278 18)].getD i_ undef) W276 _ L275 h HS277 (by kernel_rfl)
        clear h; have h := hv204; clear hv204
        refine loopK (fun n_ a_ w_ => ∃ (f136 : FM) (e141 : Int) (n142 : Int) (x143 : Int) (x144 : Int) (x145 : Int) (x146 : Int) (x147 : Int) (x148 : Int) (j140 : Nat → Value), FM.le f41 f136 ∧ St t w_ f136 ([(b13, .cells #[.int .i64 x143, .int .i64 x144, .int .i64 x145] 23 (0, 0))] :: [(b9, .cells #[.int .i64 x146, .int .i64 x147, .int .i64 x148] 23 (0, 0))] :: [(b5, .cells #[.int .i64 b1.ID, .int .i64 b1.Was.X, .int .i64 b1.Was.Y, .int .i64 b1.Was.Z, .int .i64 b1.Here.X, .int .i64 b1.Here.Y, .int .i64 b1.Here.Z, .int .i64 b1.Rate] 36 (0, 0))] :: H) ∧ sky_Path.l0 k n_ e141 n142 x143 x144 x145 x146 x147 x148 = some o132 ∧ a_ = ⟨#[.agg #[iV b1.ID, iV b1.Was.X, iV b1.Was.Y, iV b1.Was.Z, iV b1.Here.X, iV b1.Here.Y, iV b1.Here.Z, iV b1.Rate], iV day2, .pointer (some ⟨b5, 0, none⟩), uV, .pointer (some ⟨b9, 0, none⟩), .pointer (some ⟨b13, 0, none⟩), iV e141, iV n142, (j140 0), (j140 1), uV, uV, uV, iV day2, .bool false, .bool false, iV day2, .bool false, .bool false, .bool false, .agg #[iV b1.ID, iV b1.Was.X, iV b1.Was.Y, iV b1.Was.Z, iV b1.Here.X, iV b1.Here.Y, iV b1.Here.Z, iV b1.Rate], .bool vt39, .bool false, .bool false, uV, uV, .pointer (some ⟨b5, 1, none⟩), .agg #[iV b1.Was.X, iV b1.Was.Y, iV b1.Was.Z], .pointer (some ⟨b5, 4, none⟩), .agg #[iV b1.Here.X, iV b1.Here.Y, iV b1.Here.Z], iV day2, (j140 2), (j140 3), (j140 4), (j140 5), (j140 6), (j140 7), (j140 8), (j140 9), (j140 10), (j140 11), (j140 12), (j140 13), (j140 14), (j140 15), (j140 16), (j140 17), (j140 18), uV, uV, uV, uV, uV, uV, uV, uV, uV, uV, uV, uV, uV, uV, uV, uV, uV, uV, uV, uV, uV, uV, uV, uV, uV], []⟩) k ⟨f41, 0, day2, b1.Here.X, b1.Here.Y, b1.Here.Z, b1.Was.X, b1.Was.Y, b1.Was.Z, (fun i_ => [undef, undef, undef, undef, undef, undef, undef, undef, undef, undef, undef, undef, undef, undef, undef, undef, undef, undef, undef].getD i_ undef), (FM.le.refl _), HS67, h, (by kernel_rfl)⟩ ?_
        clear h
        rintro n135 _ W138 ⟨f136, e141, n142, x143, x144, x145, x146, x147, x148, j140, L137, HS139, h, rfl⟩ K133 hK134
        obtain _ | n135 := n135
        · exact nomatch h
        simp only [sky_Path.l0] at h
        refine wp_seq_k (fun K149 hK150 => ?_)
        refine wp_seq_k (fun K151 hK152 => ?_)
        refine wp_region_lit ?_
        refine seqS3 (a' := ⟨#[.agg #[iV b1.ID, iV b1.Was.X, iV b1.Was.Y, iV b1.Was.Z, iV b1.Here.X, iV b1.Here.Y, iV b1.Here.Z, iV b1.Rate], iV day2, .pointer (some ⟨b5, 0, none⟩), uV, .pointer (some ⟨b9, 0, none⟩), .pointer (some ⟨b13, 0, none⟩), iV e141, iV n142, (j140 0), (j140 1), uV, uV, uV, iV day2, .bool false, .bool false, iV day2, .bool false, .bool false, .bool false, .agg #[iV b1.ID, iV b1.Was.X, iV b1.Was.Y, iV b1.Was.Z, iV b1.Here.X, iV b1.Here.Y, iV b1.Here.Z, iV b1.Rate], .bool vt39, .bool false, .bool false, uV, uV, .pointer (some ⟨b5, 1, none⟩), .agg #[iV b1.Was.X, iV b1.Was.Y, iV b1.Was.Z], .pointer (some ⟨b5, 4, none⟩), .agg #[iV b1.Here.X, iV b1.Here.Y, iV b1.Here.Z], iV day2, iV n142, .bool (decide (n142 > 0)), .bool (decide (n142 > 0)), (j140 5), (j140 6), (j140 7), (j140 8), (j140 9), (j140 10), (j140 11), (j140 12), (j140 13), (j140 14), (j140 15), (j140 16), (j140 17), (j140 18), uV, uV, uV, uV, uV, uV, uV, uV, uV, uV, uV, uV, uV, uV, uV, uV, uV, uV, uV, uV, uV, uV, uV, uV, uV], []⟩) (by kernel_rfl) ?_
        have hq_ := ite_some h; clear h; rcases hq_ with ⟨c153, h⟩ | ⟨c153, h⟩
        · have c153 : n142 > 0 := c153
          refine seqRwI 32 (x := (decide (n142 > 0))) (v := true) (by kernel_rfl) (decide_eq_true c153) ?_
          refine seqRwI 33 (x := (decide (n142 > 0))) (v := true) (by kernel_rfl) (decide_eq_true c153) ?_
          refine seqS3 (a' := ⟨#[.agg #[iV b1.ID, iV b1.Was.X, iV b1.Was.Y, iV b1.Was.Z, iV b1.Here.X, iV b1.Here.Y, iV b1.Here.Z, iV b1.Rate], iV day2, .pointer (some ⟨b5, 0, none⟩), uV, .pointer (some ⟨b9, 0, none⟩), .pointer (some ⟨b13, 0, none⟩), iV e141, iV n142, (j140 0), (j140 1), uV, uV, uV, iV day2, .bool false, .bool false, iV day2, .bool false, .bool false, .bool false, .agg #[iV b1.ID, iV b1.Was.X, iV b1.Was.Y, iV b1.Was.Z, iV b1.Here.X, iV b1.Here.Y, iV b1.Here.Z, iV b1.Rate], .bool vt39, .bool false, .bool false, uV, uV, .pointer (some ⟨b5, 1, none⟩), .agg #[iV b1.Was.X, iV b1.Was.Y, iV b1.Was.Z], .pointer (some ⟨b5, 4, none⟩), .agg #[iV b1.Here.X, iV b1.Here.Y, iV b1.Here.Z], iV day2, iV n142, .bool true, .bool true, iV e141, .bool (e141 == 0), .bool (e141 == 0), (j140 8), (j140 9), (j140 10), (j140 11), (j140 12), (j140 13), (j140 14), (j140 15), (j140 16), (j140 17), (j140 18), uV, uV, uV, uV, uV, uV, uV, uV, uV, uV, uV, uV, uV, uV, uV, uV, uV, uV, uV, uV, uV, uV, uV, uV, uV], []⟩) (by kernel_rfl) ?_
          refine wpList_nil ?_
          refine hK152 _ _ ?_
          have hq_ := ite_some h; clear h; rcases hq_ with ⟨c155, h⟩ | ⟨c155, h⟩
          · have c155 : e141 = 0 := c155
            refine wpRwI 35 (x := (e141 == 0)) (v := true) (by kernel_rfl) (beq_iff_eq.mpr c155) ?_
            refine wpRwI 36 (x := (e141 == 0)) (v := true) (by kernel_rfl) (beq_iff_eq.mpr c155) ?_
            refine condT (by kernel_rfl) ?_
            refine wp_skip ?_
            refine hK150 _ _ ?_
            refine wp_seq_k (fun K156 hK157 => ?_)
            refine blockK (fun B158 hx159 hn160 hr161 ho162 hp163 => ?_)
            refine wp_seq_k (fun K165 hK166 => ?_)
            refine wp_region_lit ?_
            refine seqK rfl (does_run (run_loadN (n := 3) rfl Try.underlying23 rfl (by kernel_rfl) (by kernel_rfl : _ = Value.pointer (some ⟨b9, 0, none⟩)) (cs := [.int .i64 x146, .int .i64 x147, .int .i64 x148]) rfl (HS139.u1.cells 0 3 _ rfl)) ?_)
            refine seqK rfl (does_run (run_loadN (n := 3) rfl Try.underlying23 rfl (by kernel_rfl) (by kernel_rfl : _ = Value.pointer (some ⟨b13, 0, none⟩)) (cs := [.int .i64 x143, .int .i64 x144, .int .i64 x145]) rfl (HS139.cells 0 3 _ rfl)) ?_)
            have hq_ := bind_some h; clear h; obtain ⟨⟨vt167, vt168⟩, hc169, h⟩ := hq_
            refine seqK rfl (does_call (f := 8) (args := #[.agg #[.int .i64 x146, .int .i64 x147, .int .i64 x148], .agg #[.int .i64 x143, .int .i64 x144, .int .i64 x145]]) (by kernel_rfl) (sky_Step.calls k (⟨x146, x147, x148⟩ : S_Vec) (⟨x143, x144, x145⟩ : S_Vec) HS139 vt167 vt168 hc169) ?_)
            rintro _ W172 ⟨f170, rfl, L171, HS173⟩
            refine ⟨_, rfl, ?_⟩
            refine seqL3 (by kernel_rfl) ?_
            refine seqK rfl (does_alloc (z := Value.agg #[.int .i64 0, .int .i64 0, .int .i64 0]) (cs := #[.int .i64 0, .int .i64 0, .int .i64 0]) rfl (by kernel_rfl) rfl HS173 ?_)
            intro b174 W175 HS176
            refine seqK rfl (does_store (n := 3) (vs := [.int .i64 vt167.X, .int .i64 vt167.Y, .int .i64 vt167.Z]) (cs' := #[.int .i64 vt167.X, .int .i64 vt167.Y, .int .i64 vt167.Z]) rfl (by kernel_rfl) (by kernel_rfl : _ = Value.pointer (some ⟨b174, 0, none⟩)) (by kernel_rfl : _ = Value.agg #[.int .i64 vt167.X, .int .i64 vt167.Y, .int .i64 vt167.Z]) rfl rfl (by intro u_ hu_; simp only [List.mem_cons, List.not_mem_nil, or_false] at hu_; rcases hu_ with rfl | rfl | rfl <;> rfl) HS176 (Nat.le_of_ble_eq_true rfl) (by kernel_rfl) ?_)
            intro W178 HS179
            refine seqS1 (a' := ⟨#[.agg #[iV b1.ID, iV b1.Was.X, iV b1.Was.Y, iV b1.Was.Z, iV b1.Here.X, iV b1.Here.Y, iV b1.Here.Z, iV b1.Rate], iV day2, .pointer (some ⟨b5, 0, none⟩), uV, .pointer (some ⟨b9, 0, none⟩), .pointer (some ⟨b13, 0, none⟩), iV e141, iV n142, .pointer (some ⟨b174, 0, none⟩), iV vt168, uV, uV, uV, iV day2, .bool false, .bool false, iV day2, .bool false, .bool false, .bool false, .agg #[iV b1.ID, iV b1.Was.X, iV b1.Was.Y, iV b1.Was.Z, iV b1.Here.X, iV b1.Here.Y, iV b1.Here.Z, iV b1.Rate], .bool vt39, .bool false, .bool false, uV, uV, .pointer (some ⟨b5, 1, none⟩), .agg #[iV b1.Was.X, iV b1.Was.Y, iV b1.Was.Z], .pointer (some ⟨b5, 4, none⟩), .agg #[iV b1.Here.X, iV b1.Here.Y, iV b1.Here.Z], iV day2, iV n142, .bool true, .bool true, iV e141, .bool true, .bool true, (j140 8), (j140 9), .tuple #[.agg #[iV vt167.X, iV vt167.Y, iV vt167.Z], iV vt168], .agg #[iV x146, iV x147, iV x148], .agg #[iV x143, iV x144, iV x145], .tuple #[.agg #[iV vt167.X, iV vt167.Y, iV vt167.Z], iV vt168], .agg #[iV vt167.X, iV vt167.Y, iV vt167.Z], iV vt168, (j140 16), (j140 17), (j140 18), uV, uV, uV, uV, uV, uV, uV, uV, uV, uV, uV, uV, uV, uV, uV, uV, uV, uV, uV, uV, uV, uV, uV, uV, uV], []⟩) (by kernel_rfl) ?_
            refine wpList_nil ?_
            refine hK166 _ _ ?_
            have HS180 := HS179.u3
            have HS181 := HS180.u1
            have HS182 := HS181.u3
            have HS183 := HS182.u3
            refine heldG (S := Sg t f170 ([(b174, .cells #[.int .i64 vt167.X, .int .i64 vt167.Y, .int .i64 vt167.Z] 23 (0, 0))] :: [(b5, .cells #[.int .i64 b1.ID, .int .i64 b1.Was.X, .int .i64 b1.Was.Y, .int .i64 b1.Was.Z, .int .i64 b1.Here.X, .int .i64 b1.Here.Y, .int .i64 b1.Here.Z, .int .i64 b1.Rate] 36 (0, 0))] :: H) [(4, [(b13, .cells #[.int .i64 x143, .int .i64 x144, .int .i64 x145] 23 (0, 0))]), (3, [(b9, .cells #[.int .i64 x146, .int .i64 x147, .int .i64 x148] 23 (0, 0))])]) (n := 6) (by kernel_rfl) rfl HS183 ?_
            intro W184 HS185
            refine takeGQ 0 [4] rfl (by kernel_rfl) (by kernel_rfl) (by kernel_rfl) (by kernel_rfl) (by kernel_rfl) (by kernel_rfl) (fun ch_ a_ w_ q_ => (fun ch_ a_ w_ q_ => hnp ch_ a_ w_ (hp77 ch_ a_ w_ q_)) ch_ a_ w_ (hp163 ch_ a_ w_ q_)) (Sg.g2 (Sx.of [[(b13, .cells #[.int .i64 x143, .int .i64 x144, .int .i64 x145] 23 (0, 0))], [(b9, .cells #[.int .i64 x146, .int .i64 x147, .int .i64 x148] 23 (0, 0))]] (FM.le.refl _) HS185) (fun _ => St.only [] HS185 (FM.le.refl _)) (fun _ => St.only [[(b13, .cells #[.int .i64 x143, .int .i64 x144, .int .i64 x145] 23 (0, 0))]] HS185 (FM.le.refl _))) (fun w_ hw_ => by obtain ⟨g_, hl_, hS_⟩ := hw_.seg (j := 4) (s := [(b13, .cells #[.int .i64 x143, .int .i64 x144, .int .i64 x145] 23 (0, 0))]) (by simp) (by simp); exact run_loadN (n := 3) rfl Try.underlying23 rfl (by kernel_rfl) (by kernel_rfl : _ = Value.pointer (some ⟨b13, 0, none⟩)) (cs := [.int .i64 x143, .int .i64 x144, .int .i64 x145]) rfl (hS_.cells 0 3 _ rfl)) ?_
            refine takeGQ 1 [] rfl (by kernel_rfl) (by kernel_rfl) (by kernel_rfl) (by kernel_rfl) (by kernel_rfl) (by kernel_rfl) (fun ch_ a_ w_ q_ => (fun ch_ a_ w_ q_ => hnp ch_ a_ w_ (hp77 ch_ a_ w_ q_)) ch_ a_ w_ (hp163 ch_ a_ w_ q_)) (Sg.g2 (Sx.of [[(b13, .cells #[.int .i64 x143, .int .i64 x144, .int .i64 x145] 23 (0, 0))], [(b9, .cells #[.int .i64 x146, .int .i64 x147, .int .i64 x148] 23 (0, 0))]] (FM.le.refl _) HS185) (fun _ => St.only [] HS185 (FM.le.refl _)) (fun _ => St.only [[(b13, .cells #[.int .i64 x143, .int .i64 x144, .int .i64 x145] 23 (0, 0))]] HS185 (FM.le.refl _))) (fun w_ hw_ => by obtain ⟨g_, hl_, hS_⟩ := hw_.st; exact run_loadN (n := 3) rfl Try.underlying23 rfl (by kernel_rfl) (by kernel_rfl : _ = Value.pointer (some ⟨b174, 0, none⟩)) (cs := [.int .i64 vt167.X, .int .i64 vt167.Y, .int .i64 vt167.Z]) rfl (hS_.cells 0 3 _ rfl)) ?_
            refine takeG [2] (n := 4) (fuel := 3) (l' := #[true, true, true, false, false, false]) (a' := ⟨#[.agg #[iV b1.ID, iV b1.Was.X, iV b1.Was.Y, iV b1.Was.Z, iV b1.Here.X, iV b1.Here.Y, iV b1.Here.Z, iV b1.Rate], iV day2, .pointer (some ⟨b5, 0, none⟩), uV, .pointer (some ⟨b9, 0, none⟩), .pointer (some ⟨b13, 0, none⟩), iV e141, iV n142, .pointer (some ⟨b174, 0, none⟩), iV vt168, uV, uV, uV, iV day2, .bool false, .bool false, iV day2, .bool false, .bool false, .bool false, .agg #[iV b1.ID, iV b1.Was.X, iV b1.Was.Y, iV b1.Was.Z, iV b1.Here.X, iV b1.Here.Y, iV b1.Here.Z, iV b1.Rate], .bool vt39, .bool false, .bool false, uV, uV, .pointer (some ⟨b5, 1, none⟩), .agg #[iV b1.Was.X, iV b1.Was.Y, iV b1.Was.Z], .pointer (some ⟨b5, 4, none⟩), .agg #[iV b1.Here.X, iV b1.Here.Y, iV b1.Here.Z], iV day2, iV n142, .bool true, .bool true, iV e141, .bool true, .bool true, (j140 8), (j140 9), .tuple #[.agg #[iV vt167.X, iV vt167.Y, iV vt167.Z], iV vt168], .agg #[iV x146, iV x147, iV x148], .agg #[iV x143, iV x144, iV x145], .tuple #[.agg #[iV vt167.X, iV vt167.Y, iV vt167.Z], iV vt168], .agg #[iV vt167.X, iV vt167.Y, iV vt167.Z], iV vt168, .agg #[iV x143, iV x144, iV x145], .agg #[iV vt167.X, iV vt167.Y, iV vt167.Z], iV vt168, uV, uV, uV, uV, uV, uV, uV, uV, uV, uV, uV, uV, uV, uV, uV, uV, uV, uV, uV, uV, uV, uV, uV, uV, uV], []⟩) rfl (by kernel_rfl) (by kernel_rfl) (by kernel_rfl) (fun ch_ a_ w_ q_ => (fun ch_ a_ w_ q_ => hnp ch_ a_ w_ (hp77 ch_ a_ w_ q_)) ch_ a_ w_ (hp163 ch_ a_ w_ q_)) (Sg.g2 (Sx.of [[(b13, .cells #[.int .i64 x143, .int .i64 x144, .int .i64 x145] 23 (0, 0))], [(b9, .cells #[.int .i64 x146, .int .i64 x147, .int .i64 x148] 23 (0, 0))]] (FM.le.refl _) HS185) (fun _ => St.only [] HS185 (FM.le.refl _)) (fun _ => St.only [[(b13, .cells #[.int .i64 x143, .int .i64 x144, .int .i64 x145] 23 (0, 0))]] HS185 (FM.le.refl _))) ?_
            have HS186 := HS185.u1
            refine takeGE 3 (by kernel_rfl) rfl (by kernel_rfl) (does_store (n := 3) (vs := [.int .i64 x143, .int .i64 x144, .int .i64 x145]) (cs' := #[.int .i64 x143, .int .i64 x144, .int .i64 x145]) rfl (by kernel_rfl) (by kernel_rfl : _ = Value.pointer (some ⟨b9, 0, none⟩)) (by kernel_rfl : _ = Value.agg #[.int .i64 x143, .int .i64 x144, .int .i64 x145]) rfl rfl (by intro u_ hu_; simp only [List.mem_cons, List.not_mem_nil, or_false] at hu_; rcases hu_ with rfl | rfl | rfl <;> rfl) HS186 (Nat.le_of_ble_eq_true rfl) (by kernel_rfl) ?_)
            intro W187 HS188
            refine ⟨(Sg.g2 (Sx.of [[(b9, .cells #[.int .i64 x143, .int .i64 x144, .int .i64 x145] 23 (0, 0))], [(b13, .cells #[.int .i64 x143, .int .i64 x144, .int .i64 x145] 23 (0, 0))]] (FM.le.refl _) HS188) (fun _ => St.only [[(b9, .cells #[.int .i64 x143, .int .i64 x144, .int .i64 x145] 23 (0, 0))]] HS188 (FM.le.refl _)) (fun hl_ => Bool.noConfusion (show true = false from hl_))), ?_⟩
            have HS189 := HS188.u1
            refine takeGE 4 (by kernel_rfl) rfl (by kernel_rfl) (does_store (n := 3) (vs := [.int .i64 vt167.X, .int .i64 vt167.Y, .int .i64 vt167.Z]) (cs' := #[.int .i64 vt167.X, .int .i64 vt167.Y, .int .i64 vt167.Z]) rfl (by kernel_rfl) (by kernel_rfl : _ = Value.pointer (some ⟨b13, 0, none⟩)) (by kernel_rfl : _ = Value.agg #[.int .i64 vt167.X, .int .i64 vt167.Y, .int .i64 vt167.Z]) rfl rfl (by intro u_ hu_; simp only [List.mem_cons, List.not_mem_nil, or_false] at hu_; rcases hu_ with rfl | rfl | rfl <;> rfl) HS189 (Nat.le_of_ble_eq_true rfl) (by kernel_rfl) ?_)
            intro W190 HS191
            refine ⟨(Sg.g2 (Sx.of [[(b13, .cells #[.int .i64 vt167.X, .int .i64 vt167.Y, .int .i64 vt167.Z] 23 (0, 0))], [(b9, .cells #[.int .i64 x143, .int .i64 x144, .int .i64 x145] 23 (0, 0))]] (FM.le.refl _) HS191) (fun hl_ => Bool.noConfusion (show true = false from hl_)) (fun hl_ => Bool.noConfusion (show true = false from hl_))), ?_⟩
            refine takeG [5] (n := 1) (fuel := 0) (l' := #[true, true, true, true, true, true]) (a' := ⟨#[.agg #[iV b1.ID, iV b1.Was.X, iV b1.Was.Y, iV b1.Was.Z, iV b1.Here.X, iV b1.Here.Y, iV b1.Here.Z, iV b1.Rate], iV day2, .pointer (some ⟨b5, 0, none⟩), uV, .pointer (some ⟨b9, 0, none⟩), .pointer (some ⟨b13, 0, none⟩), iV vt168, iV n142, .pointer (some ⟨b174, 0, none⟩), iV vt168, uV, uV, uV, iV day2, .bool false, .bool false, iV day2, .bool false, .bool false, .bool false, .agg #[iV b1.ID, iV b1.Was.X, iV b1.Was.Y, iV b1.Was.Z, iV b1.Here.X, iV b1.Here.Y, iV b1.Here.Z, iV b1.Rate], .bool vt39, .bool false, .bool false, uV, uV, .pointer (some ⟨b5, 1, none⟩), .agg #[iV b1.Was.X, iV b1.Was.Y, iV b1.Was.Z], .pointer (some ⟨b5, 4, none⟩), .agg #[iV b1.Here.X, iV b1.Here.Y, iV b1.Here.Z], iV day2, iV n142, .bool true, .bool true, iV e141, .bool true, .bool true, (j140 8), (j140 9), .tuple #[.agg #[iV vt167.X, iV vt167.Y, iV vt167.Z], iV vt168], .agg #[iV x146, iV x147, iV x148], .agg #[iV x143, iV x144, iV x145], .tuple #[.agg #[iV vt167.X, iV vt167.Y, iV vt167.Z], iV vt168], .agg #[iV vt167.X, iV vt167.Y, iV vt167.Z], iV vt168, .agg #[iV x143, iV x144, iV x145], .agg #[iV vt167.X, iV vt167.Y, iV vt167.Z], iV vt168, uV, uV, uV, uV, uV, uV, uV, uV, uV, uV, uV, uV, uV, uV, uV, uV, uV, uV, uV, uV, uV, uV, uV, uV, uV], []⟩) rfl (by kernel_rfl) (by kernel_rfl) (by kernel_rfl) (fun ch_ a_ w_ q_ => (fun ch_ a_ w_ q_ => hnp ch_ a_ w_ (hp77 ch_ a_ w_ q_)) ch_ a_ w_ (hp163 ch_ a_ w_ q_)) (Sg.g2 (Sx.of [[(b13, .cells #[.int .i64 vt167.X, .int .i64 vt167.Y, .int .i64 vt167.Z] 23 (0, 0))], [(b9, .cells #[.int .i64 x143, .int .i64 x144, .int .i64 x145] 23 (0, 0))]] (FM.le.refl _) HS191) (fun hl_ => Bool.noConfusion (show true = false from hl_)) (fun hl_ => Bool.noConfusion (show true = false from hl_))) ?_
            refine doneG (by kernel_rfl) ?_ _
            refine hn160 _ _ ?_
            refine hK157 _ _ ?_
            refine wp_region_lit ?_
            refine seqS3 (a' := ⟨#[.agg #[iV b1.ID, iV b1.Was.X, iV b1.Was.Y, iV b1.Was.Z, iV b1.Here.X, iV b1.Here.Y, iV b1.Here.Z, iV b1.Rate], iV day2, .pointer (some ⟨b5, 0, none⟩), uV, .pointer (some ⟨b9, 0, none⟩), .pointer (some ⟨b13, 0, none⟩), iV vt168, iV (w64 (n142 - 1)), .pointer (some ⟨b174, 0, none⟩), iV vt168, uV, uV, uV, iV day2, .bool false, .bool false, iV day2, .bool false, .bool false, .bool false, .agg #[iV b1.ID, iV b1.Was.X, iV b1.Was.Y, iV b1.Was.Z, iV b1.Here.X, iV b1.Here.Y, iV b1.Here.Z, iV b1.Rate], .bool vt39, .bool false, .bool false, uV, uV, .pointer (some ⟨b5, 1, none⟩), .agg #[iV b1.Was.X, iV b1.Was.Y, iV b1.Was.Z], .pointer (some ⟨b5, 4, none⟩), .agg #[iV b1.Here.X, iV b1.Here.Y, iV b1.Here.Z], iV day2, iV n142, .bool true, .bool true, iV e141, .bool true, .bool true, iV n142, iV (w64 (n142 - 1)), .tuple #[.agg #[iV vt167.X, iV vt167.Y, iV vt167.Z], iV vt168], .agg #[iV x146, iV x147, iV x148], .agg #[iV x143, iV x144, iV x145], .tuple #[.agg #[iV vt167.X, iV vt167.Y, iV vt167.Z], iV vt168], .agg #[iV vt167.X, iV vt167.Y, iV vt167.Z], iV vt168, .agg #[iV x143, iV x144, iV x145], .agg #[iV vt167.X, iV vt167.Y, iV vt167.Z], iV vt168, uV, uV, uV, uV, uV, uV, uV, uV, uV, uV, uV, uV, uV, uV, uV, uV, uV, uV, uV, uV, uV, uV, uV, uV, uV], []⟩) (by kernel_rfl) ?_
            refine wpList_nil ?_
            refine hK134 n135 _ _ (Nat.lt_succ_self _) ?_
            have HS207 := HS191.u3
            have HS208 := HS207.u2
            have HS209 := HS208.u2
            have HS210 := HS209.u3
            have HS211 := HS210.drop
            exact ⟨f170, vt168, (w64 (n142 - 1)), vt167.X, vt167.Y, vt167.Z, x143, x144, x145, (fun i_ => [Value.pointer (some ⟨b174, 0, none⟩), Value.int .i64 vt168, Value.int .i64 n142, Value.bool true, Value.bool true, Value.int .i64 e141, Value.bool true, Value.bool true, Value.int .i64 n142, Value.int .i64 (w64 (n142 - 1)), Value.tuple #[.agg #[.int .i64 vt167.X, .int .i64 vt167.Y, .int .i64 vt167.Z], .int .i64 vt168], Value.agg #[.int .i64 x146, .int .i64 x147, .int .i64 x148], Value.agg #[.int .i64 x143, .int .i64 x144, .int .i64 x145], Value.tuple #[.agg #[.int .i64 vt167.X, .int .i64 vt167.Y, .int .i64 vt167.Z], .int .i64 vt168], Value.agg #[.int .i64 vt167.X, .int .i64 vt167.Y, .int .i64 vt167.Z], Value.int .i64 vt168, Value.agg #[.int .i64 x143, .int .i64 x144, .int .i64 x145], Value.agg #[.int .i64 vt167.X, .int .i64 vt167.Y, .int .i64 vt167.Z], Value.int .i64 vt168].getD i_ undef), (L137.trans L171), HS211, h, (by kernel_rfl)⟩
          · have c155 : ¬ (e141 = 0) := c155
            refine wpRwI 35 (x := (e141 == 0)) (v := false) (by kernel_rfl) (beq_eq_false_iff_ne.mpr c155) ?_
            refine wpRwI 36 (x := (e141 == 0)) (v := false) (by kernel_rfl) (beq_eq_false_iff_ne.mpr c155) ?_
            refine condF (by kernel_rfl) ?_
            refine wp_exit ?_
            refine hx73 _ _ ?_
            exact J205 f136 e141 x143 x144 x145 x146 x147 x148 (fun i_ => [Value.int .i64 n142, (j140 0), (j140 1), Value.int .i64 n142, Value.bool true, Value.bool true, Value.int .i64 e141, Value.bool false, Value.bool false, (j140 8), (j140 9), (j140 10), (j140 11), (j140 12), (j140 13), (j140 14), (j140 15), (j140 16), (j140 17), (j140 18)].getD i_ undef) W138 _ L137 h HS139 (by kernel_rfl)
        · have c153 : ¬ (n142 > 0) := c153
          refine seqRwI 32 (x := (decide (n142 > 0))) (v := false) (by kernel_rfl) (decide_eq_false c153) ?_
          refine seqRwI 33 (x := (decide (n142 > 0))) (v := false) (by kernel_rfl) (decide_eq_false c153) ?_
          refine seqS3 (a' := ⟨#[.agg #[iV b1.ID, iV b1.Was.X, iV b1.Was.Y, iV b1.Was.Z, iV b1.Here.X, iV b1.Here.Y, iV b1.Here.Z, iV b1.Rate], iV day2, .pointer (some ⟨b5, 0, none⟩), uV, .pointer (some ⟨b9, 0, none⟩), .pointer (some ⟨b13, 0, none⟩), iV e141, iV n142, (j140 0), (j140 1), uV, uV, uV, iV day2, .bool false, .bool false, iV day2, .bool false, .bool false, .bool false, .agg #[iV b1.ID, iV b1.Was.X, iV b1.Was.Y, iV b1.Was.Z, iV b1.Here.X, iV b1.Here.Y, iV b1.Here.Z, iV b1.Rate], .bool vt39, .bool false, .bool false, uV, uV, .pointer (some ⟨b5, 1, none⟩), .agg #[iV b1.Was.X, iV b1.Was.Y, iV b1.Was.Z], .pointer (some ⟨b5, 4, none⟩), .agg #[iV b1.Here.X, iV b1.Here.Y, iV b1.Here.Z], iV day2, iV n142, .bool false, .bool false, uV, uV, .bool false, (j140 8), (j140 9), (j140 10), (j140 11), (j140 12), (j140 13), (j140 14), (j140 15), (j140 16), (j140 17), (j140 18), uV, uV, uV, uV, uV, uV, uV, uV, uV, uV, uV, uV, uV, uV, uV, uV, uV, uV, uV, uV, uV, uV, uV, uV, uV], []⟩) (by kernel_rfl) ?_
          refine wpList_nil ?_
          refine hK152 _ _ ?_
          refine condF (by kernel_rfl) ?_
          refine wp_exit ?_
          refine hx73 _ _ ?_
          exact J205 f136 e141 x143 x144 x145 x146 x147 x148 (fun i_ => [Value.int .i64 n142, (j140 0), (j140 1), Value.int .i64 n142, Value.bool false, Value.bool false, undef, undef, Value.bool false, (j140 8), (j140 9), (j140 10), (j140 11), (j140 12), (j140 13), (j140 14), (j140 15), (j140 16), (j140 17), (j140 18)].getD i_ undef) W138 _ L137 h HS139 (by kernel_rfl)

set_option maxRecDepth 100000 in
set_option maxHeartbeats 4000000 in
theorem sky_Days.calls (k : Nat)  (b1 : S_Body) {t w : World} {f : FM} {H : List Seg} (HS : St t w f (H)) (r1 : S_Body) (h : sky_Days k b1 = some r1) :
    Calls Try.prog 17 #[.agg #[.int .i64 b1.ID, .int .i64 b1.Was.X, .int .i64 b1.Was.Y, .int .i64 b1.Was.Z, .int .i64 b1.Here.X, .int .i64 b1.Here.Y, .int .i64 b1.Here.Z, .int .i64 b1.Rate]] w (fun e w' => ∃ (g : FM) (b14 : Nat), e = .returned (Value.func (.func 34) #[] #[.pointer (some ⟨b14, 0, none⟩)]) ∧ FM.le f g ∧ St t w' g (H) ∧ g b14 = some (.cells #[.int .i64 r1.ID, .int .i64 r1.Was.X, .int .i64 r1.Was.Y, .int .i64 r1.Was.Z, .int .i64 r1.Here.X, .int .i64 r1.Here.Y, .int .i64 r1.Here.Z, .int .i64 r1.Rate] 36 (0, 0))) := by
  unfold sky_Days at h
  refine enter Try.func17 rfl (tm := #[.agg #[iV b1.ID, iV b1.Was.X, iV b1.Was.Y, iV b1.Was.Z, iV b1.Here.X, iV b1.Here.Y, iV b1.Here.Z, iV b1.Rate], uV, uV, uV]) (by kernel_rfl) ?_
  intro B hret hnor hnp
  refine wp_seq_k (fun K2 hK3 => ?_)
  refine wp_region_lit ?_
  refine seqK rfl (does_box (cs := #[.int .i64 b1.ID, .int .i64 b1.Was.X, .int .i64 b1.Was.Y, .int .i64 b1.Was.Z, .int .i64 b1.Here.X, .int .i64 b1.Here.Y, .int .i64 b1.Here.Z, .int .i64 b1.Rate]) rfl (by kernel_rfl : _ = Value.agg #[.int .i64 b1.ID, .int .i64 b1.Was.X, .int .i64 b1.Was.Y, .int .i64 b1.Was.Z, .int .i64 b1.Here.X, .int .i64 b1.Here.Y, .int .i64 b1.Here.Z, .int .i64 b1.Rate]) rfl HS ?_)
  intro b4 W5 HS6
  refine seqS1 (a' := ⟨#[.agg #[iV b1.ID, iV b1.Was.X, iV b1.Was.Y, iV b1.Was.Z, iV b1.Here.X, iV b1.Here.Y, iV b1.Here.Z, iV b1.Rate], .pointer (some ⟨b4, 0, none⟩), .nilFunc, uV], []⟩) (by kernel_rfl) ?_
  refine wpList_nil ?_
  refine hK3 _ _ ?_
  refine wp_seq_k (fun K8 hK9 => ?_)
  refine wp_region_lit ?_
  refine seqS2 (a' := ⟨#[.agg #[iV b1.ID, iV b1.Was.X, iV b1.Was.Y, iV b1.Was.Z, iV b1.Here.X, iV b1.Here.Y, iV b1.Here.Z, iV b1.Rate], .pointer (some ⟨b4, 0, none⟩), .func (.func 34) #[] #[.pointer (some ⟨b4, 0, none⟩)], .func (.func 34) #[] #[.pointer (some ⟨b4, 0, none⟩)]], []⟩) (by kernel_rfl) ?_
  refine wpList_nil ?_
  refine hK9 _ _ ?_
  refine wp_ret ?_
  refine hret _ _ ?_
  obtain ⟨f10, L11, HS12, HF13⟩ := HS6.freezeB
  refine ends_still (v := Value.func (.func 34) #[] #[.pointer (some ⟨b4, 0, none⟩)]) (by kernel_rfl) (by kernel_rfl) ?_
  injection h with h
  subst h
  exact ⟨f10, b4, rfl, L11, HS12, HF13⟩

set_option maxRecDepth 100000 in
set_option maxHeartbeats 4000000 in
theorem sky_Days_1.iter (k : Nat) (b1 : Nat) (x2 : S_Body) {f : FM} (HF3 : f b1 = some (.cells #[.int .i64 x2.ID, .int .i64 x2.Was.X, .int .i64 x2.Was.Y, .int .i64 x2.Was.Z, .int .i64 x2.Here.X, .int .i64 x2.Here.Y, .int .i64 x2.Here.Z, .int .i64 x2.Rate] 36 (0, 0))) (xs : List (Int × S_Vec)) (h : sky_Days_1 k x2 = some xs) :
    Iter Try.prog 34 #[Value.pointer (some ⟨b1, 0, none⟩)] (fun (g_ : FM) (x_ : Int × S_Vec) vs_ => vs_ = #[Value.int .i64 x_.1, Value.agg #[.int .i64 x_.2.X, .int .i64 x_.2.Y, .int .i64 x_.2.Z]]) xs f := by
  unfold sky_Days_1 at h
  obtain ⟨v_, hX, hv_⟩ : ∃ v_, xs = [] ++ v_ ∧ xs = v_ := ⟨xs, rfl, rfl⟩
  rw [hv_] at h
  intro l t w g0 H KJ KX hl0 hKJ HS hmJ hmX hY
  refine enterI Try.func34 rfl (tm := #[.func (.yield l) #[] #[], .pointer (some ⟨b1, 0, none⟩), uV, uV, uV, uV, uV, uV, uV, uV, uV, uV, uV, uV, uV, uV, uV, uV, uV, uV, uV, uV, uV, uV, uV, uV, uV, uV, uV, uV, uV, uV, uV, uV, uV]) (by kernel_rfl) ?_
  intro B hret hnor hnp
  refine Rwp_seq_k (fun K4 hK5 => ?_)
  refine Rwp_seq_k (fun K6 hK7 => ?_)
  refine Rwp_region_lit (by kernel_rfl) ?_
  refine seqK rfl (does_run (run_loadN (n := 8) rfl Try.underlying36 rfl (by kernel_rfl) (by kernel_rfl : _ = Value.pointer (some ⟨b1, 0, none⟩)) (cs := [.int .i64 x2.ID, .int .i64 x2.Was.X, .int .i64 x2.Was.Y, .int .i64 x2.Was.Z, .int .i64 x2.Here.X, .int .i64 x2.Here.Y, .int .i64 x2.Here.Z, .int .i64 x2.Rate]) rfl (HS.fcells HF3 hl0 0 8 _ rfl)) ?_)
  have hq_ := bind_some h; clear h; obtain ⟨vt8, hc9, h⟩ := hq_
  refine seqK rfl (does_call (f := 33) (args := #[.agg #[.int .i64 x2.ID, .int .i64 x2.Was.X, .int .i64 x2.Was.Y, .int .i64 x2.Was.Z, .int .i64 x2.Here.X, .int .i64 x2.Here.Y, .int .i64 x2.Here.Z, .int .i64 x2.Rate]]) (by kernel_rfl) (sky_moves.calls k x2 HS vt8 hc9) ?_)
  rintro _ W12 ⟨f10, rfl, L11, HS13⟩
  refine ⟨_, rfl, ?_⟩
  refine seqS1 (a' := ⟨#[.func (.yield l) #[] #[], .pointer (some ⟨b1, 0, none⟩), uV, uV, uV, uV, uV, uV, .agg #[iV x2.ID, iV x2.Was.X, iV x2.Was.Y, iV x2.Was.Z, iV x2.Here.X, iV x2.Here.Y, iV x2.Here.Z, iV x2.Rate], .bool vt8, .bool (!vt8), uV, uV, uV, uV, uV, uV, uV, uV, uV, uV, uV, uV, uV, uV, uV, uV, uV, uV, uV, uV, uV, uV, uV, uV], []⟩) (by kernel_rfl) ?_
  refine RwpList_nil ?_
  refine hK7 _ _ ?_
  have hq_ := ite_some h; clear h; rcases hq_ with ⟨c15, h⟩ | ⟨c15, h⟩
  · have c15 : ¬ (vt8 = true) := c15
    refine RwpRwI 10 (x := (!vt8)) (v := true) (by kernel_rfl) (congrArg (fun b_ => !b_) (show vt8 = false from (Bool.eq_false_iff.mpr c15)) : (!vt8) = true) ?_
    refine RcondT (by kernel_rfl) ?_
    refine Rwp_ret ?_
    refine hret _ _ ?_
    refine ends_still (v := Value.tuple #[]) (by kernel_rfl) (by kernel_rfl) ?_
    injection h with h
    have hx9_ := hX
    rw [← h, List.append_nil] at hx9_
    exact ⟨_, f10, H, rfl, L11, HS13, .inl (by rw [hx9_]; exact (hmJ _ _ _ _ hKJ L11))⟩
  · have c15 : ¬ (¬ (vt8 = true)) := c15
    refine RwpRwI 10 (x := (!vt8)) (v := false) (by kernel_rfl) (congrArg (fun b_ => !b_) (show vt8 = true from (Decidable.of_not_not c15)) : (!vt8) = false) ?_
    refine RcondF (by kernel_rfl) ?_
    refine Rwp_skip ?_
    refine hK5 _ _ ?_
    refine Rwp_seq_k (fun K16 hK17 => ?_)
    refine RheldG (by kernel_rfl) (S := Sg t f10 (H) []) (n := 8) (by kernel_rfl) rfl HS13 ?_
    intro W18 HS19
    refine takeG [0] (n := 8) (fuel := 7) (l' := #[true, false, false, false, false, false, false, false]) (a' := ⟨#[.func (.yield l) #[] #[], .pointer (some ⟨b1, 0, none⟩), uV, uV, uV, uV, uV, uV, .agg #[iV x2.ID, iV x2.Was.X, iV x2.Was.Y, iV x2.Was.Z, iV x2.Here.X, iV x2.Here.Y, iV x2.Here.Z, iV x2.Rate], .bool vt8, .bool false, .pointer (some ⟨b1, 1, none⟩), uV, uV, uV, uV, uV, uV, uV, uV, uV, uV, uV, uV, uV, uV, uV, uV, uV, uV, uV, uV, uV, uV, uV], []⟩) rfl (by kernel_rfl) (by kernel_rfl) (by kernel_rfl) hnp (Sg.g0 (Sx.of [] (FM.le.refl _) HS19)) ?_
    refine takeGQ 1 [] rfl (by kernel_rfl) (by kernel_rfl) (by kernel_rfl) (by kernel_rfl) (by kernel_rfl) (by kernel_rfl) hnp (Sg.g0 (Sx.of [] (FM.le.refl _) HS19)) (fun w_ hw_ => by obtain ⟨g_, hl_, hS_⟩ := hw_.st; exact run_loadN (n := 3) rfl Try.underlying23 rfl (by kernel_rfl) (by kernel_rfl : _ = Value.pointer (some ⟨b1, 1, none⟩)) (cs := [.int .i64 x2.Was.X, .int .i64 x2.Was.Y, .int .i64 x2.Was.Z]) rfl (hS_.fcells HF3 ((hl0.trans L11).trans hl_) 1 3 _ rfl)) ?_
    refine takeG [2] (n := 6) (fuel := 5) (l' := #[true, true, true, false, false, false, false, false]) (a' := ⟨#[.func (.yield l) #[] #[], .pointer (some ⟨b1, 0, none⟩), uV, uV, uV, uV, uV, uV, .agg #[iV x2.ID, iV x2.Was.X, iV x2.Was.Y, iV x2.Was.Z, iV x2.Here.X, iV x2.Here.Y, iV x2.Here.Z, iV x2.Rate], .bool vt8, .bool false, .pointer (some ⟨b1, 1, none⟩), .agg #[iV x2.Was.X, iV x2.Was.Y, iV x2.Was.Z], .pointer (some ⟨b1, 4, none⟩), uV, uV, uV, uV, uV, uV, uV, uV, uV, uV, uV, uV, uV, uV, uV, uV, uV, uV, uV, uV, uV], []⟩) rfl (by kernel_rfl) (by kernel_rfl) (by kernel_rfl) hnp (Sg.g0 (Sx.of [] (FM.le.refl _) HS19)) ?_
    refine takeGQ 3 [] rfl (by kernel_rfl) (by kernel_rfl) (by kernel_rfl) (by kernel_rfl) (by kernel_rfl) (by kernel_rfl) hnp (Sg.g0 (Sx.of [] (FM.le.refl _) HS19)) (fun w_ hw_ => by obtain ⟨g_, hl_, hS_⟩ := hw_.st; exact run_loadN (n := 3) rfl Try.underlying23 rfl (by kernel_rfl) (by kernel_rfl : _ = Value.pointer (some ⟨b1, 4, none⟩)) (cs := [.int .i64 x2.Here.X, .int .i64 x2.Here.Y, .int .i64 x2.Here.Z]) rfl (hS_.fcells HF3 ((hl0.trans L11).trans hl_) 4 3 _ rfl)) ?_
    refine withR #[true, true, true, true, true, true, true, true] ?_
    intro R34 hR35 hR36
    have J37 : ∀ (b20 : Nat) (b24 : Nat) (W38 : World) (a_ : Act), St t W38 f10 ([(b24, .cells #[.int .i64 x2.Here.X, .int .i64 x2.Here.Y, .int .i64 x2.Here.Z] 23 (0, 0))] :: [(b20, .cells #[.int .i64 x2.Was.X, .int .i64 x2.Was.Y, .int .i64 x2.Was.Z] 23 (0, 0))] :: H) → a_ = ⟨#[.func (.yield l) #[] #[], .pointer (some ⟨b1, 0, none⟩), uV, .pointer (some ⟨b20, 0, none⟩), .pointer (some ⟨b24, 0, none⟩), uV, uV, uV, .agg #[iV x2.ID, iV x2.Was.X, iV x2.Was.Y, iV x2.Was.Z, iV x2.Here.X, iV x2.Here.Y, iV x2.Here.Z, iV x2.Rate], .bool vt8, .bool false, .pointer (some ⟨b1, 1, none⟩), .agg #[iV x2.Was.X, iV x2.Was.Y, iV x2.Was.Z], .pointer (some ⟨b1, 4, none⟩), .agg #[iV x2.Here.X, iV x2.Here.Y, iV x2.Here.Z], uV, uV, uV, uV, uV, uV, uV, uV, uV, uV, uV, uV, uV, uV, uV, uV, uV, uV, uV, uV], []⟩ → R34 a_ W38 := by
      intro b20 b24 W38 a_  HS39 hfr_; subst hfr_
      refine hR35 _ _ ?_
      refine doneG (by kernel_rfl) ?_ _
      refine hK17 _ _ ?_
      refine Rwp_seq_k (fun K67 hK68 => ?_)
      refine Rwp_region_lit (by kernel_rfl) ?_
      refine seqS1 (a' := ⟨#[.func (.yield l) #[] #[], .pointer (some ⟨b1, 0, none⟩), uV, .pointer (some ⟨b20, 0, none⟩), .pointer (some ⟨b24, 0, none⟩), iV 0, uV, uV, .agg #[iV x2.ID, iV x2.Was.X, iV x2.Was.Y, iV x2.Was.Z, iV x2.Here.X, iV x2.Here.Y, iV x2.Here.Z, iV x2.Rate], .bool vt8, .bool false, .pointer (some ⟨b1, 1, none⟩), .agg #[iV x2.Was.X, iV x2.Was.Y, iV x2.Was.Z], .pointer (some ⟨b1, 4, none⟩), .agg #[iV x2.Here.X, iV x2.Here.Y, iV x2.Here.Z], uV, uV, uV, uV, uV, uV, uV, uV, uV, uV, uV, uV, uV, uV, uV, uV, uV, uV, uV, uV], []⟩) (by kernel_rfl) ?_
      refine RwpList_nil ?_
      refine hK68 _ _ ?_
      refine RblockK (fun B69 hx70 hn71 hr72 ho73 hp74 => ?_)
      refine RloopK (fun n_ a_ w_ => ∃ (f147 : FM) (day152 : Int) (x153 : Int) (x154 : Int) (x155 : Int) (x156 : Int) (x157 : Int) (x158 : Int) (j151 : Nat → Value) (H : List Seg) (pre_ v_ : List _), FM.le f10 f147 ∧ St t w_ f147 ([(b24, .cells #[.int .i64 x153, .int .i64 x154, .int .i64 x155] 23 (0, 0))] :: [(b20, .cells #[.int .i64 x156, .int .i64 x157, .int .i64 x158] 23 (0, 0))] :: H) ∧ sky_Days_1.l0 k n_ day152 x153 x154 x155 x156 x157 x158 = some v_ ∧ xs = pre_ ++ v_ ∧ KJ pre_ f147 H ∧ a_ = ⟨#[.func (.yield l) #[] #[], .pointer (some ⟨b1, 0, none⟩), uV, .pointer (some ⟨b20, 0, none⟩), .pointer (some ⟨b24, 0, none⟩), iV day152, (j151 0), (j151 1), .agg #[iV x2.ID, iV x2.Was.X, iV x2.Was.Y, iV x2.Was.Z, iV x2.Here.X, iV x2.Here.Y, iV x2.Here.Z, iV x2.Rate], .bool vt8, .bool false, .pointer (some ⟨b1, 1, none⟩), .agg #[iV x2.Was.X, iV x2.Was.Y, iV x2.Was.Z], .pointer (some ⟨b1, 4, none⟩), .agg #[iV x2.Here.X, iV x2.Here.Y, iV x2.Here.Z], (j151 2), (j151 3), (j151 4), (j151 5), (j151 6), (j151 7), (j151 8), (j151 9), (j151 10), (j151 11), (j151 12), (j151 13), (j151 14), (j151 15), (j151 16), (j151 17), (j151 18), (j151 19), (j151 20), (j151 21)], []⟩) k ⟨f10, 0, x2.Here.X, x2.Here.Y, x2.Here.Z, x2.Was.X, x2.Was.Y, x2.Was.Z, (fun i_ => [undef, undef, undef, undef, undef, undef, undef, undef, undef, undef, undef, undef, undef, undef, undef, undef, undef, undef, undef, undef, undef, undef].getD i_ undef), H, [], v_, (FM.le.refl _), HS39, h, hX, (hmJ _ _ _ _ hKJ L11), (by kernel_rfl)⟩ ?_
      clear h
      rintro n146 _ W149 ⟨f147, day152, x153, x154, x155, x156, x157, x158, j151, H, pre159, v160, L148, HS150, h, hX161, hK162, rfl⟩ K144 hK145
      obtain _ | n146 := n146
      · exact nomatch h
      simp only [sky_Days_1.l0] at h
      refine Rwp_seq_k (fun K163 hK164 => ?_)
      refine Rwp_seq_k (fun K165 hK166 => ?_)
      refine RregionY 6 (by kernel_rfl) ?_
      refine seqS3 (a' := ⟨#[.func (.yield l) #[] #[], .pointer (some ⟨b1, 0, none⟩), uV, .pointer (some ⟨b20, 0, none⟩), .pointer (some ⟨b24, 0, none⟩), iV day152, (j151 0), (j151 1), .agg #[iV x2.ID, iV x2.Was.X, iV x2.Was.Y, iV x2.Was.Z, iV x2.Here.X, iV x2.Here.Y, iV x2.Here.Z, iV x2.Rate], .bool vt8, .bool false, .pointer (some ⟨b1, 1, none⟩), .agg #[iV x2.Was.X, iV x2.Was.Y, iV x2.Was.Z], .pointer (some ⟨b1, 4, none⟩), .agg #[iV x2.Here.X, iV x2.Here.Y, iV x2.Here.Z], iV day152, .bool (decide (day152 ≤ 400)), .bool (decide (day152 ≤ 400)), (j151 5), (j151 6), (j151 7), (j151 8), (j151 9), (j151 10), (j151 11), (j151 12), (j151 13), (j151 14), (j151 15), (j151 16), (j151 17), (j151 18), (j151 19), (j151 20), (j151 21)], []⟩) (by kernel_rfl) ?_
      have hq_ := ite_some h; clear h; rcases hq_ with ⟨c167, h⟩ | ⟨c167, h⟩
      · have c167 : day152 ≤ 400 := c167
        refine seqRwI 16 (x := (decide (day152 ≤ 400))) (v := true) (by kernel_rfl) (decide_eq_true c167) ?_
        refine seqRwI 17 (x := (decide (day152 ≤ 400))) (v := true) (by kernel_rfl) (decide_eq_true c167) ?_
        refine seqL2 (by kernel_rfl) ?_
        refine seqG (by kernel_rfl) (does_run (run_loadN (n := 3) rfl Try.underlying23 rfl (by kernel_rfl) (by kernel_rfl : _ = Value.pointer (some ⟨b24, 0, none⟩)) (cs := [.int .i64 x153, .int .i64 x154, .int .i64 x155]) rfl (HS150.cells 0 3 _ rfl)) ?_)
        have hq_ := bind_some h; clear h; obtain ⟨z168, h, hz_⟩ := hq_; injection hz_ with hz_; have hX169 := hX161.trans (congrArg (fun y_ => pre159 ++ y_) hz_.symm)
        have hy170 := hY pre159 (day152, (⟨x153, x154, x155⟩ : S_Vec)) z168 #[Value.int .i64 day152, Value.agg #[.int .i64 x153, .int .i64 x154, .int .i64 x155]] W149 f147 [[(b24, .cells #[.int .i64 x153, .int .i64 x154, .int .i64 x155] 23 (0, 0))], [(b20, .cells #[.int .i64 x156, .int .i64 x157, .int .i64 x158] 23 (0, 0))]] H hX169 rfl hK162 HS150
        refine listN ?_
        refine yieldK (l := l) (vs := #[Value.int .i64 day152, Value.agg #[.int .i64 x153, .int .i64 x154, .int .i64 x155]]) (by kernel_rfl) (by kernel_rfl) (by kernel_rfl) hy170 ?_
        rintro _ W171 ⟨f172, H, L173, HS174, (⟨rfl, hK175⟩ | ⟨rfl, hK175⟩)⟩
        · refine ⟨_, rfl, ?_⟩
          refine listR (by kernel_rfl) ?_
          have hX176 := hX169.trans (List.append_cons pre159 (day152, (⟨x153, x154, x155⟩ : S_Vec)) z168)
          refine seqS1 (a' := ⟨#[.func (.yield l) #[] #[], .pointer (some ⟨b1, 0, none⟩), uV, .pointer (some ⟨b20, 0, none⟩), .pointer (some ⟨b24, 0, none⟩), iV day152, (j151 0), (j151 1), .agg #[iV x2.ID, iV x2.Was.X, iV x2.Was.Y, iV x2.Was.Z, iV x2.Here.X, iV x2.Here.Y, iV x2.Here.Z, iV x2.Rate], .bool vt8, .bool false, .pointer (some ⟨b1, 1, none⟩), .agg #[iV x2.Was.X, iV x2.Was.Y, iV x2.Was.Z], .pointer (some ⟨b1, 4, none⟩), .agg #[iV x2.Here.X, iV x2.Here.Y, iV x2.Here.Z], iV day152, .bool true, .bool true, .func (.yield l) #[] #[], iV day152, .agg #[iV x153, iV x154, iV x155], .bool true, .bool true, (j151 10), (j151 11), (j151 12), (j151 13), (j151 14), (j151 15), (j151 16), (j151 17), (j151 18), (j151 19), (j151 20), (j151 21)], []⟩) (by kernel_rfl) ?_
          refine RwpList_nil ?_
          refine hK166 _ _ ?_
          refine RcondT (by kernel_rfl) ?_
          refine Rwp_skip ?_
          refine hK164 _ _ ?_
          refine Rwp_seq_k (fun K177 hK178 => ?_)
          refine RblockK (fun B179 hx180 hn181 hr182 ho183 hp184 => ?_)
          refine Rwp_seq_k (fun K186 hK187 => ?_)
          refine Rwp_region_lit (by kernel_rfl) ?_
          refine seqK rfl (does_run (run_loadN (n := 3) rfl Try.underlying23 rfl (by kernel_rfl) (by kernel_rfl : _ = Value.pointer (some ⟨b20, 0, none⟩)) (cs := [.int .i64 x156, .int .i64 x157, .int .i64 x158]) rfl (HS174.u1.cells 0 3 _ rfl)) ?_)
          refine seqK rfl (does_run (run_loadN (n := 3) rfl Try.underlying23 rfl (by kernel_rfl) (by kernel_rfl : _ = Value.pointer (some ⟨b24, 0, none⟩)) (cs := [.int .i64 x153, .int .i64 x154, .int .i64 x155]) rfl (HS174.cells 0 3 _ rfl)) ?_)
          have hq_ := bind_some h; clear h; obtain ⟨⟨vt188, vt189⟩, hc190, h⟩ := hq_
          refine seqK rfl (does_call (f := 8) (args := #[.agg #[.int .i64 x156, .int .i64 x157, .int .i64 x158], .agg #[.int .i64 x153, .int .i64 x154, .int .i64 x155]]) (by kernel_rfl) (sky_Step.calls k (⟨x156, x157, x158⟩ : S_Vec) (⟨x153, x154, x155⟩ : S_Vec) HS174 vt188 vt189 hc190) ?_)
          rintro _ W193 ⟨f191, rfl, L192, HS194⟩
          refine ⟨_, rfl, ?_⟩
          refine seqL3 (by kernel_rfl) ?_
          refine seqK rfl (does_alloc (z := Value.agg #[.int .i64 0, .int .i64 0, .int .i64 0]) (cs := #[.int .i64 0, .int .i64 0, .int .i64 0]) rfl (by kernel_rfl) rfl HS194 ?_)
          intro b195 W196 HS197
          refine seqK rfl (does_store (n := 3) (vs := [.int .i64 vt188.X, .int .i64 vt188.Y, .int .i64 vt188.Z]) (cs' := #[.int .i64 vt188.X, .int .i64 vt188.Y, .int .i64 vt188.Z]) rfl (by kernel_rfl) (by kernel_rfl : _ = Value.pointer (some ⟨b195, 0, none⟩)) (by kernel_rfl : _ = Value.agg #[.int .i64 vt188.X, .int .i64 vt188.Y, .int .i64 vt188.Z]) rfl rfl (by intro u_ hu_; simp only [List.mem_cons, List.not_mem_nil, or_false] at hu_; rcases hu_ with rfl | rfl | rfl <;> rfl) HS197 (Nat.le_of_ble_eq_true rfl) (by kernel_rfl) ?_)
          intro W199 HS200
          refine seqS1 (a' := ⟨#[.func (.yield l) #[] #[], .pointer (some ⟨b1, 0, none⟩), uV, .pointer (some ⟨b20, 0, none⟩), .pointer (some ⟨b24, 0, none⟩), iV day152, .pointer (some ⟨b195, 0, none⟩), iV vt189, .agg #[iV x2.ID, iV x2.Was.X, iV x2.Was.Y, iV x2.Was.Z, iV x2.Here.X, iV x2.Here.Y, iV x2.Here.Z, iV x2.Rate], .bool vt8, .bool false, .pointer (some ⟨b1, 1, none⟩), .agg #[iV x2.Was.X, iV x2.Was.Y, iV x2.Was.Z], .pointer (some ⟨b1, 4, none⟩), .agg #[iV x2.Here.X, iV x2.Here.Y, iV x2.Here.Z], iV day152, .bool true, .bool true, .func (.yield l) #[] #[], iV day152, .agg #[iV x153, iV x154, iV x155], .bool true, .bool true, (j151 10), (j151 11), .tuple #[.agg #[iV vt188.X, iV vt188.Y, iV vt188.Z], iV vt189], .agg #[iV x156, iV x157, iV x158], .agg #[iV x153, iV x154, iV x155], .tuple #[.agg #[iV vt188.X, iV vt188.Y, iV vt188.Z], iV vt189], .agg #[iV vt188.X, iV vt188.Y, iV vt188.Z], iV vt189, (j151 18), (j151 19), (j151 20), (j151 21)], []⟩) (by kernel_rfl) ?_
          refine RwpList_nil ?_
          refine hK187 _ _ ?_
          refine Rwp_seq_k (fun K201 hK202 => ?_)
          refine Rwp_seq_k (fun K203 hK204 => ?_)
          refine Rwp_region_lit (by kernel_rfl) ?_
          refine seqS2 (a' := ⟨#[.func (.yield l) #[] #[], .pointer (some ⟨b1, 0, none⟩), uV, .pointer (some ⟨b20, 0, none⟩), .pointer (some ⟨b24, 0, none⟩), iV day152, .pointer (some ⟨b195, 0, none⟩), iV vt189, .agg #[iV x2.ID, iV x2.Was.X, iV x2.Was.Y, iV x2.Was.Z, iV x2.Here.X, iV x2.Here.Y, iV x2.Here.Z, iV x2.Rate], .bool vt8, .bool false, .pointer (some ⟨b1, 1, none⟩), .agg #[iV x2.Was.X, iV x2.Was.Y, iV x2.Was.Z], .pointer (some ⟨b1, 4, none⟩), .agg #[iV x2.Here.X, iV x2.Here.Y, iV x2.Here.Z], iV day152, .bool true, .bool true, .func (.yield l) #[] #[], iV day152, .agg #[iV x153, iV x154, iV x155], .bool true, .bool true, (j151 10), (j151 11), .tuple #[.agg #[iV vt188.X, iV vt188.Y, iV vt188.Z], iV vt189], .agg #[iV x156, iV x157, iV x158], .agg #[iV x153, iV x154, iV x155], .tuple #[.agg #[iV vt188.X, iV vt188.Y, iV vt188.Z], iV vt189], .agg #[iV vt188.X, iV vt188.Y, iV vt188.Z], iV vt189, iV vt189, .bool (vt189 != 0), (j151 20), (j151 21)], []⟩) (by kernel_rfl) ?_
          refine RwpList_nil ?_
          refine hK204 _ _ ?_
          have hq_ := ite_some h; clear h; rcases hq_ with ⟨c206, h⟩ | ⟨c206, h⟩
          · have c206 : vt189 ≠ 0 := c206
            refine RwpRwI 32 (x := (vt189 != 0)) (v := true) (by kernel_rfl) (bne_iff_ne.mpr c206) ?_
            refine RcondT (by kernel_rfl) ?_
            refine Rwp_ret ?_
            refine hr182 _ _ ?_
            refine hr72 _ _ ?_
            refine hret _ _ ?_
            refine ends_still (v := Value.tuple #[]) (by kernel_rfl) (by kernel_rfl) ?_
            have HS221 := HS200.drop
            have HS222 := HS221.drop
            have HS223 := HS222.drop
            injection h with h
            have hx9_ := hX176
            rw [← h, List.append_nil] at hx9_
            exact ⟨_, f191, H, rfl, (L11.trans (L148.trans (L173.trans L192))), HS223, .inl (by rw [hx9_]; exact (hmJ _ _ _ _ hK175 L192))⟩
          · have c206 : ¬ (vt189 ≠ 0) := c206
            refine RwpRwI 32 (x := (vt189 != 0)) (v := false) (by kernel_rfl) (bne_eq_false_iff_eq.mpr (Decidable.of_not_not c206)) ?_
            refine RcondF (by kernel_rfl) ?_
            refine Rwp_skip ?_
            refine hK202 _ _ ?_
            have HS207 := HS200.u2
            have HS208 := HS207.u2
            refine RheldG (by kernel_rfl) (S := Sg t f191 ([(b195, .cells #[.int .i64 vt188.X, .int .i64 vt188.Y, .int .i64 vt188.Z] 23 (0, 0))] :: H) [(3, [(b24, .cells #[.int .i64 x153, .int .i64 x154, .int .i64 x155] 23 (0, 0))]), (2, [(b20, .cells #[.int .i64 x156, .int .i64 x157, .int .i64 x158] 23 (0, 0))])]) (n := 4) (by kernel_rfl) rfl HS208 ?_
            intro W209 HS210
            refine takeGQ 0 [3] rfl (by kernel_rfl) (by kernel_rfl) (by kernel_rfl) (by kernel_rfl) (by kernel_rfl) (by kernel_rfl) (fun ch_ a_ w_ q_ => (fun ch_ a_ w_ q_ => hnp ch_ a_ w_ (hp74 ch_ a_ w_ q_)) ch_ a_ w_ (hp184 ch_ a_ w_ q_)) (Sg.g2 (Sx.of [[(b24, .cells #[.int .i64 x153, .int .i64 x154, .int .i64 x155] 23 (0, 0))], [(b20, .cells #[.int .i64 x156, .int .i64 x157, .int .i64 x158] 23 (0, 0))]] (FM.le.refl _) HS210) (fun _ => St.only [] HS210 (FM.le.refl _)) (fun _ => St.only [[(b24, .cells #[.int .i64 x153, .int .i64 x154, .int .i64 x155] 23 (0, 0))]] HS210 (FM.le.refl _))) (fun w_ hw_ => by obtain ⟨g_, hl_, hS_⟩ := hw_.seg (j := 3) (s := [(b24, .cells #[.int .i64 x153, .int .i64 x154, .int .i64 x155] 23 (0, 0))]) (by simp) (by simp); exact run_loadN (n := 3) rfl Try.underlying23 rfl (by kernel_rfl) (by kernel_rfl : _ = Value.pointer (some ⟨b24, 0, none⟩)) (cs := [.int .i64 x153, .int .i64 x154, .int .i64 x155]) rfl (hS_.cells 0 3 _ rfl)) ?_
            refine takeGQ 1 [] rfl (by kernel_rfl) (by kernel_rfl) (by kernel_rfl) (by kernel_rfl) (by kernel_rfl) (by kernel_rfl) (fun ch_ a_ w_ q_ => (fun ch_ a_ w_ q_ => hnp ch_ a_ w_ (hp74 ch_ a_ w_ q_)) ch_ a_ w_ (hp184 ch_ a_ w_ q_)) (Sg.g2 (Sx.of [[(b24, .cells #[.int .i64 x153, .int .i64 x154, .int .i64 x155] 23 (0, 0))], [(b20, .cells #[.int .i64 x156, .int .i64 x157, .int .i64 x158] 23 (0, 0))]] (FM.le.refl _) HS210) (fun _ => St.only [] HS210 (FM.le.refl _)) (fun _ => St.only [[(b24, .cells #[.int .i64 x153, .int .i64 x154, .int .i64 x155] 23 (0, 0))]] HS210 (FM.le.refl _))) (fun w_ hw_ => by obtain ⟨g_, hl_, hS_⟩ := hw_.st; exact run_loadN (n := 3) rfl Try.underlying23 rfl (by kernel_rfl) (by kernel_rfl : _ = Value.pointer (some ⟨b195, 0, none⟩)) (cs := [.int .i64 vt188.X, .int .i64 vt188.Y, .int .i64 vt188.Z]) rfl (hS_.cells 0 3 _ rfl)) ?_
            have HS211 := HS210.u1
            refine takeGE 2 (by kernel_rfl) rfl (by kernel_rfl) (does_store (n := 3) (vs := [.int .i64 x153, .int .i64 x154, .int .i64 x155]) (cs' := #[.int .i64 x153, .int .i64 x154, .int .i64 x155]) rfl (by kernel_rfl) (by kernel_rfl : _ = Value.pointer (some ⟨b20, 0, none⟩)) (by kernel_rfl : _ = Value.agg #[.int .i64 x153, .int .i64 x154, .int .i64 x155]) rfl rfl (by intro u_ hu_; simp only [List.mem_cons, List.not_mem_nil, or_false] at hu_; rcases hu_ with rfl | rfl | rfl <;> rfl) HS211 (Nat.le_of_ble_eq_true rfl) (by kernel_rfl) ?_)
            intro W212 HS213
            refine ⟨(Sg.g2 (Sx.of [[(b20, .cells #[.int .i64 x153, .int .i64 x154, .int .i64 x155] 23 (0, 0))], [(b24, .cells #[.int .i64 x153, .int .i64 x154, .int .i64 x155] 23 (0, 0))]] (FM.le.refl _) HS213) (fun _ => St.only [[(b20, .cells #[.int .i64 x153, .int .i64 x154, .int .i64 x155] 23 (0, 0))]] HS213 (FM.le.refl _)) (fun hl_ => Bool.noConfusion (show true = false from hl_))), ?_⟩
            have HS214 := HS213.u1
            refine takeGE 3 (by kernel_rfl) rfl (by kernel_rfl) (does_store (n := 3) (vs := [.int .i64 vt188.X, .int .i64 vt188.Y, .int .i64 vt188.Z]) (cs' := #[.int .i64 vt188.X, .int .i64 vt188.Y, .int .i64 vt188.Z]) rfl (by kernel_rfl) (by kernel_rfl : _ = Value.pointer (some ⟨b24, 0, none⟩)) (by kernel_rfl : _ = Value.agg #[.int .i64 vt188.X, .int .i64 vt188.Y, .int .i64 vt188.Z]) rfl rfl (by intro u_ hu_; simp only [List.mem_cons, List.not_mem_nil, or_false] at hu_; rcases hu_ with rfl | rfl | rfl <;> rfl) HS214 (Nat.le_of_ble_eq_true rfl) (by kernel_rfl) ?_)
            intro W215 HS216
            refine ⟨(Sg.g2 (Sx.of [[(b24, .cells #[.int .i64 vt188.X, .int .i64 vt188.Y, .int .i64 vt188.Z] 23 (0, 0))], [(b20, .cells #[.int .i64 x153, .int .i64 x154, .int .i64 x155] 23 (0, 0))]] (FM.le.refl _) HS216) (fun hl_ => Bool.noConfusion (show true = false from hl_)) (fun hl_ => Bool.noConfusion (show true = false from hl_))), ?_⟩
            refine RdoneG (by kernel_rfl) ?_ _
            refine hn181 _ _ ?_
            refine hK178 _ _ ?_
            refine Rwp_region_lit (by kernel_rfl) ?_
            refine seqS3 (a' := ⟨#[.func (.yield l) #[] #[], .pointer (some ⟨b1, 0, none⟩), uV, .pointer (some ⟨b20, 0, none⟩), .pointer (some ⟨b24, 0, none⟩), iV (w64 (day152 + 1)), .pointer (some ⟨b195, 0, none⟩), iV vt189, .agg #[iV x2.ID, iV x2.Was.X, iV x2.Was.Y, iV x2.Was.Z, iV x2.Here.X, iV x2.Here.Y, iV x2.Here.Z, iV x2.Rate], .bool vt8, .bool false, .pointer (some ⟨b1, 1, none⟩), .agg #[iV x2.Was.X, iV x2.Was.Y, iV x2.Was.Z], .pointer (some ⟨b1, 4, none⟩), .agg #[iV x2.Here.X, iV x2.Here.Y, iV x2.Here.Z], iV day152, .bool true, .bool true, .func (.yield l) #[] #[], iV day152, .agg #[iV x153, iV x154, iV x155], .bool true, .bool true, iV day152, iV (w64 (day152 + 1)), .tuple #[.agg #[iV vt188.X, iV vt188.Y, iV vt188.Z], iV vt189], .agg #[iV x156, iV x157, iV x158], .agg #[iV x153, iV x154, iV x155], .tuple #[.agg #[iV vt188.X, iV vt188.Y, iV vt188.Z], iV vt189], .agg #[iV vt188.X, iV vt188.Y, iV vt188.Z], iV vt189, iV vt189, .bool false, .agg #[iV x153, iV x154, iV x155], .agg #[iV vt188.X, iV vt188.Y, iV vt188.Z]], []⟩) (by kernel_rfl) ?_
            refine RwpList_nil ?_
            refine hK145 n146 _ _ (Nat.lt_succ_self _) ?_
            have HS217 := HS216.u1
            have HS218 := HS217.u1
            have HS219 := HS218.u2
            have HS220 := HS219.drop
            exact ⟨f191, (w64 (day152 + 1)), vt188.X, vt188.Y, vt188.Z, x153, x154, x155, (fun i_ => [Value.pointer (some ⟨b195, 0, none⟩), Value.int .i64 vt189, Value.int .i64 day152, Value.bool true, Value.bool true, Value.func (.yield l) #[] #[], Value.int .i64 day152, Value.agg #[.int .i64 x153, .int .i64 x154, .int .i64 x155], Value.bool true, Value.bool true, Value.int .i64 day152, Value.int .i64 (w64 (day152 + 1)), Value.tuple #[.agg #[.int .i64 vt188.X, .int .i64 vt188.Y, .int .i64 vt188.Z], .int .i64 vt189], Value.agg #[.int .i64 x156, .int .i64 x157, .int .i64 x158], Value.agg #[.int .i64 x153, .int .i64 x154, .int .i64 x155], Value.tuple #[.agg #[.int .i64 vt188.X, .int .i64 vt188.Y, .int .i64 vt188.Z], .int .i64 vt189], Value.agg #[.int .i64 vt188.X, .int .i64 vt188.Y, .int .i64 vt188.Z], Value.int .i64 vt189, Value.int .i64 vt189, Value.bool false, Value.agg #[.int .i64 x153, .int .i64 x154, .int .i64 x155], Value.agg #[.int .i64 vt188.X, .int .i64 vt188.Y, .int .i64 vt188.Z]].getD i_ undef), H, (pre159 ++ [(day152, (⟨x153, x154, x155⟩ : S_Vec))]), z168, (L148.trans (L173.trans L192)), HS220, h, hX176, (hmJ _ _ _ _ hK175 L192), (by kernel_rfl)⟩
        · refine ⟨_, rfl, ?_⟩
          refine listR (by kernel_rfl) ?_
          refine seqS1 (a' := ⟨#[.func (.yield l) #[] #[], .pointer (some ⟨b1, 0, none⟩), uV, .pointer (some ⟨b20, 0, none⟩), .pointer (some ⟨b24, 0, none⟩), iV day152, (j151 0), (j151 1), .agg #[iV x2.ID, iV x2.Was.X, iV x2.Was.Y, iV x2.Was.Z, iV x2.Here.X, iV x2.Here.Y, iV x2.Here.Z, iV x2.Rate], .bool vt8, .bool false, .pointer (some ⟨b1, 1, none⟩), .agg #[iV x2.Was.X, iV x2.Was.Y, iV x2.Was.Z], .pointer (some ⟨b1, 4, none⟩), .agg #[iV x2.Here.X, iV x2.Here.Y, iV x2.Here.Z], iV day152, .bool true, .bool true, .func (.yield l) #[] #[], iV day152, .agg #[iV x153, iV x154, iV x155], .bool false, .bool false, (j151 10), (j151 11), (j151 12), (j151 13), (j151 14), (j151 15), (j151 16), (j151 17), (j151 18), (j151 19), (j151 20), (j151 21)], []⟩) (by kernel_rfl) ?_
          refine RwpList_nil ?_
          refine hK166 _ _ ?_
          refine RcondF (by kernel_rfl) ?_
          refine Rwp_exit ?_
          refine hx70 _ _ ?_
          refine hnor _ _ ?_
          refine ends_still (v := Value.tuple #[]) (by kernel_rfl) (by kernel_rfl) ?_
          have HS224 := HS174.drop
          have HS225 := HS224.drop
          exact ⟨_, f172, H, rfl, (L11.trans (L148.trans L173)), HS225, .inr ⟨pre159, (day152, (⟨x153, x154, x155⟩ : S_Vec)), z168, hX169, hK175⟩⟩
      · have c167 : ¬ (day152 ≤ 400) := c167
        refine seqRwI 16 (x := (decide (day152 ≤ 400))) (v := false) (by kernel_rfl) (decide_eq_false c167) ?_
        refine seqRwI 17 (x := (decide (day152 ≤ 400))) (v := false) (by kernel_rfl) (decide_eq_false c167) ?_
        refine seqS3 (a' := ⟨#[.func (.yield l) #[] #[], .pointer (some ⟨b1, 0, none⟩), uV, .pointer (some ⟨b20, 0, none⟩), .pointer (some ⟨b24, 0, none⟩), iV day152, (j151 0), (j151 1), .agg #[iV x2.ID, iV x2.Was.X, iV x2.Was.Y, iV x2.Was.Z, iV x2.Here.X, iV x2.Here.Y, iV x2.Here.Z, iV x2.Rate], .bool vt8, .bool false, .pointer (some ⟨b1, 1, none⟩), .agg #[iV x2.Was.X, iV x2.Was.Y, iV x2.Was.Z], .pointer (some ⟨b1, 4, none⟩), .agg #[iV x2.Here.X, iV x2.Here.Y, iV x2.Here.Z], iV day152, .bool false, .bool false, uV, uV, uV, (j151 8), (j151 9), (j151 10), (j151 11), (j151 12), (j151 13), (j151 14), (j151 15), (j151 16), (j151 17), (j151 18), (j151 19), (j151 20), (j151 21)], []⟩) (by kernel_rfl) ?_
        refine listN ?_
        refine listR (by kernel_rfl) ?_
        refine seqS2 (a' := ⟨#[.func (.yield l) #[] #[], .pointer (some ⟨b1, 0, none⟩), uV, .pointer (some ⟨b20, 0, none⟩), .pointer (some ⟨b24, 0, none⟩), iV day152, (j151 0), (j151 1), .agg #[iV x2.ID, iV x2.Was.X, iV x2.Was.Y, iV x2.Was.Z, iV x2.Here.X, iV x2.Here.Y, iV x2.Here.Z, iV x2.Rate], .bool vt8, .bool false, .pointer (some ⟨b1, 1, none⟩), .agg #[iV x2.Was.X, iV x2.Was.Y, iV x2.Was.Z], .pointer (some ⟨b1, 4, none⟩), .agg #[iV x2.Here.X, iV x2.Here.Y, iV x2.Here.Z], iV day152, .bool false, .bool false, uV, uV, uV, uV, .bool false, (j151 10), (j151 11), (j151 12), (j151 13), (j151 14), (j151 15), (j151 16), (j151 17), (j151 18), (j151 19), (j151 20), (j151 21)], []⟩) (by kernel_rfl) ?_
        refine RwpList_nil ?_
        refine hK166 _ _ ?_
        refine RcondF (by kernel_rfl) ?_
        refine Rwp_exit ?_
        refine hx70 _ _ ?_
        refine hnor _ _ ?_
        refine ends_still (v := Value.tuple #[]) (by kernel_rfl) (by kernel_rfl) ?_
        have HS226 := HS150.drop
        have HS227 := HS226.drop
        injection h with h
        have hx9_ := hX161
        rw [← h, List.append_nil] at hx9_
        exact ⟨_, f147, H, rfl, (L11.trans L148), HS227, .inl (by rw [hx9_]; exact hK162)⟩
    refine takeEither 4 5 (by kernel_rfl) rfl rfl rfl rfl ?_ ?_
    · refine does_alloc (z := Value.agg #[.int .i64 0, .int .i64 0, .int .i64 0]) (cs := #[.int .i64 0, .int .i64 0, .int .i64 0]) rfl (by kernel_rfl) rfl HS19 ?_
      intro b40 W41 HS42
      refine ⟨(Sg.g0 (Sx.of [[(b40, .cells #[.int .i64 0, .int .i64 0, .int .i64 0] 23 (0, 0))]] (FM.le.refl _) HS42)), ?_⟩
      refine takeGE 5 (by kernel_rfl) rfl (by kernel_rfl) (does_alloc (z := Value.agg #[.int .i64 0, .int .i64 0, .int .i64 0]) (cs := #[.int .i64 0, .int .i64 0, .int .i64 0]) rfl (by kernel_rfl) rfl HS42 ?_)
      intro b44 W45 HS46
      refine ⟨(Sg.g0 (Sx.of [[(b44, .cells #[.int .i64 0, .int .i64 0, .int .i64 0] 23 (0, 0))], [(b40, .cells #[.int .i64 0, .int .i64 0, .int .i64 0] 23 (0, 0))]] (FM.le.refl _) HS46)), ?_⟩
      have HS48 := HS46.u1
      refine takeGE 6 (by kernel_rfl) rfl (by kernel_rfl) (does_store (n := 3) (vs := [.int .i64 x2.Was.X, .int .i64 x2.Was.Y, .int .i64 x2.Was.Z]) (cs' := #[.int .i64 x2.Was.X, .int .i64 x2.Was.Y, .int .i64 x2.Was.Z]) rfl (by kernel_rfl) (by kernel_rfl : _ = Value.pointer (some ⟨b40, 0, none⟩)) (by kernel_rfl : _ = Value.agg #[.int .i64 x2.Was.X, .int .i64 x2.Was.Y, .int .i64 x2.Was.Z]) rfl rfl (by intro u_ hu_; simp only [List.mem_cons, List.not_mem_nil, or_false] at hu_; rcases hu_ with rfl | rfl | rfl <;> rfl) HS48 (Nat.le_of_ble_eq_true rfl) (by kernel_rfl) ?_)
      intro W49 HS50
      refine ⟨(Sg.g0 (Sx.of [[(b40, .cells #[.int .i64 x2.Was.X, .int .i64 x2.Was.Y, .int .i64 x2.Was.Z] 23 (0, 0))], [(b44, .cells #[.int .i64 0, .int .i64 0, .int .i64 0] 23 (0, 0))]] (FM.le.refl _) HS50)), ?_⟩
      have HS51 := HS50.u1
      refine takeGE 7 (by kernel_rfl) rfl (by kernel_rfl) (does_store (n := 3) (vs := [.int .i64 x2.Here.X, .int .i64 x2.Here.Y, .int .i64 x2.Here.Z]) (cs' := #[.int .i64 x2.Here.X, .int .i64 x2.Here.Y, .int .i64 x2.Here.Z]) rfl (by kernel_rfl) (by kernel_rfl : _ = Value.pointer (some ⟨b44, 0, none⟩)) (by kernel_rfl : _ = Value.agg #[.int .i64 x2.Here.X, .int .i64 x2.Here.Y, .int .i64 x2.Here.Z]) rfl rfl (by intro u_ hu_; simp only [List.mem_cons, List.not_mem_nil, or_false] at hu_; rcases hu_ with rfl | rfl | rfl <;> rfl) HS51 (Nat.le_of_ble_eq_true rfl) (by kernel_rfl) ?_)
      intro W52 HS53
      refine ⟨(Sg.g0 (Sx.of [[(b44, .cells #[.int .i64 x2.Here.X, .int .i64 x2.Here.Y, .int .i64 x2.Here.Z] 23 (0, 0))], [(b40, .cells #[.int .i64 x2.Was.X, .int .i64 x2.Was.Y, .int .i64 x2.Was.Z] 23 (0, 0))]] (FM.le.refl _) HS53)), ?_⟩
      refine hR36 _ _ ?_
      exact J37 b40 b44 W52 _  HS53 (by kernel_rfl)
    · refine does_alloc (z := Value.agg #[.int .i64 0, .int .i64 0, .int .i64 0]) (cs := #[.int .i64 0, .int .i64 0, .int .i64 0]) rfl (by kernel_rfl) rfl HS19 ?_
      intro b54 W55 HS56
      refine ⟨(Sg.g0 (Sx.of [[(b54, .cells #[.int .i64 0, .int .i64 0, .int .i64 0] 23 (0, 0))]] (FM.le.refl _) HS56)), ?_⟩
      refine takeGE 4 (by kernel_rfl) rfl (by kernel_rfl) (does_alloc (z := Value.agg #[.int .i64 0, .int .i64 0, .int .i64 0]) (cs := #[.int .i64 0, .int .i64 0, .int .i64 0]) rfl (by kernel_rfl) rfl HS56 ?_)
      intro b58 W59 HS60
      refine ⟨(Sg.g0 (Sx.of [[(b58, .cells #[.int .i64 0, .int .i64 0, .int .i64 0] 23 (0, 0))], [(b54, .cells #[.int .i64 0, .int .i64 0, .int .i64 0] 23 (0, 0))]] (FM.le.refl _) HS60)), ?_⟩
      refine takeGE 6 (by kernel_rfl) rfl (by kernel_rfl) (does_store (n := 3) (vs := [.int .i64 x2.Was.X, .int .i64 x2.Was.Y, .int .i64 x2.Was.Z]) (cs' := #[.int .i64 x2.Was.X, .int .i64 x2.Was.Y, .int .i64 x2.Was.Z]) rfl (by kernel_rfl) (by kernel_rfl : _ = Value.pointer (some ⟨b58, 0, none⟩)) (by kernel_rfl : _ = Value.agg #[.int .i64 x2.Was.X, .int .i64 x2.Was.Y, .int .i64 x2.Was.Z]) rfl rfl (by intro u_ hu_; simp only [List.mem_cons, List.not_mem_nil, or_false] at hu_; rcases hu_ with rfl | rfl | rfl <;> rfl) HS60 (Nat.le_of_ble_eq_true rfl) (by kernel_rfl) ?_)
      intro W62 HS63
      refine ⟨(Sg.g0 (Sx.of [[(b58, .cells #[.int .i64 x2.Was.X, .int .i64 x2.Was.Y, .int .i64 x2.Was.Z] 23 (0, 0))], [(b54, .cells #[.int .i64 0, .int .i64 0, .int .i64 0] 23 (0, 0))]] (FM.le.refl _) HS63)), ?_⟩
      have HS64 := HS63.u1
      refine takeGE 7 (by kernel_rfl) rfl (by kernel_rfl) (does_store (n := 3) (vs := [.int .i64 x2.Here.X, .int .i64 x2.Here.Y, .int .i64 x2.Here.Z]) (cs' := #[.int .i64 x2.Here.X, .int .i64 x2.Here.Y, .int .i64 x2.Here.Z]) rfl (by kernel_rfl) (by kernel_rfl : _ = Value.pointer (some ⟨b54, 0, none⟩)) (by kernel_rfl : _ = Value.agg #[.int .i64 x2.Here.X, .int .i64 x2.Here.Y, .int .i64 x2.Here.Z]) rfl rfl (by intro u_ hu_; simp only [List.mem_cons, List.not_mem_nil, or_false] at hu_; rcases hu_ with rfl | rfl | rfl <;> rfl) HS64 (Nat.le_of_ble_eq_true rfl) (by kernel_rfl) ?_)
      intro W65 HS66
      refine ⟨(Sg.g0 (Sx.of [[(b54, .cells #[.int .i64 x2.Here.X, .int .i64 x2.Here.Y, .int .i64 x2.Here.Z] 23 (0, 0))], [(b58, .cells #[.int .i64 x2.Was.X, .int .i64 x2.Was.Y, .int .i64 x2.Was.Z] 23 (0, 0))]] (FM.le.refl _) HS66)), ?_⟩
      refine hR36 _ _ ?_
      exact J37 b58 b54 W65 _  HS66 (by kernel_rfl)

end Go.Sp.W4
