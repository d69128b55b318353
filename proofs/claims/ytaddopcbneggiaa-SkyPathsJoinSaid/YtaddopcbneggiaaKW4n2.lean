import Derived.Test.YtaddopcbneggiaaProg
import Derived.Test.YtaddopcbneggiaaSpCopy
import Derived.Test.YtaddopcbneggiaaFW4
import Derived.Test.YtaddopcbneggiaaSpRound
import Derived.Test.YtaddopcbneggiaaKW4n0
import Derived.Test.YtaddopcbneggiaaKW4n1
namespace Go.Sp.W4
open Go Go.Sp Go.Proofs
set_option linter.unusedVariables false
attribute [local irreducible] wpList AnyL Code.wp Calls Does Code.wpIn wpListIn CallsIn bodyPostM LeavesInM
set_option maxRecDepth 100000 in
set_option maxHeartbeats 4000000 in
theorem num_Wide_Div.calls (k : Nat)  (vw1 : S_Wide) (d2 : Int) {t w : World} {f : FM} {H : List Seg} (HS : St t w f (H)) (r1 : Int) (r2 : Int) (h : num_Wide_Div k vw1 d2 = some (r1, r2)) :
    Calls Try.prog 46 #[.agg #[.int .i64 vw1.Hi, .int .u64 vw1.Lo], .int .i64 d2] w (fun e w' => ∃ (g : FM), e = .returned (Value.tuple #[.int .i64 r1, .int .i64 r2]) ∧ FM.le f g ∧ St t w' g (H)) := by
  unfold num_Wide_Div at h
  refine enter Try.func46 rfl (tm := #[.agg #[iV vw1.Hi, .int .u64 vw1.Lo], iV d2, uV, uV, uV, uV, uV, uV, uV, uV, uV, uV, uV, uV, uV, uV, uV, uV, uV, uV, uV, uV, uV, uV, uV, uV, uV, uV, uV, uV, uV, uV, uV, uV, uV, uV, uV, uV, uV, uV, uV, uV, uV, uV, uV, uV, uV, uV, uV, uV, uV, uV, uV, uV, uV, uV, uV, uV, uV, uV, uV]) (by kernel_rfl) ?_
  intro B hret hnor hnp
  refine wp_seq_k (fun K3 hK4 => ?_)
  refine wp_region_lit ?_
  refine seqK rfl (does_box (cs := #[.int .i64 vw1.Hi, .int .u64 vw1.Lo]) rfl (by kernel_rfl : _ = Value.agg #[.int .i64 vw1.Hi, .int .u64 vw1.Lo]) rfl HS ?_)
  intro b5 W6 HS7
  refine seqS2 (a' := ⟨#[.agg #[iV vw1.Hi, .int .u64 vw1.Lo], iV d2, .pointer (some ⟨b5, 0, none⟩), uV, iV 0, iV 0, uV, uV, uV, uV, uV, uV, uV, uV, uV, uV, uV, uV, uV, uV, uV, uV, uV, uV, uV, uV, uV, uV, uV, uV, uV, uV, uV, uV, uV, uV, uV, uV, uV, uV, uV, uV, uV, uV, uV, uV, uV, uV, uV, uV, uV, uV, uV, uV, uV, uV, uV, uV, uV, uV, uV], []⟩) (by kernel_rfl) ?_
  refine wpList_nil ?_
  refine hK4 _ _ ?_
  refine wp_seq_k (fun K9 hK10 => ?_)
  refine wp_seq_k (fun K11 hK12 => ?_)
  refine wp_region_lit ?_
  refine seqS2 (a' := ⟨#[.agg #[iV vw1.Hi, .int .u64 vw1.Lo], iV d2, .pointer (some ⟨b5, 0, none⟩), uV, iV 0, iV 0, uV, uV, uV, uV, iV d2, .bool (decide (d2 < 1)), uV, uV, uV, uV, uV, uV, uV, uV, uV, uV, uV, uV, uV, uV, uV, uV, uV, uV, uV, uV, uV, uV, uV, uV, uV, uV, uV, uV, uV, uV, uV, uV, uV, uV, uV, uV, uV, uV, uV, uV, uV, uV, uV, uV, uV, uV, uV, uV, uV], []⟩) (by kernel_rfl) ?_
  refine wpList_nil ?_
  refine hK12 _ _ ?_
  have hq_ := ite_some h; clear h; rcases hq_ with ⟨c14, h⟩ | ⟨c14, h⟩
  · have c14 : d2 < 1 := c14
    refine wpRwI 11 (x := (decide (d2 < 1))) (v := true) (by kernel_rfl) (decide_eq_true c14) ?_
    refine condT (by kernel_rfl) ?_
    refine wp_seq_k (fun K15 hK16 => ?_)
    refine wp_region_lit ?_
    refine seqS2 (a' := ⟨#[.agg #[iV vw1.Hi, .int .u64 vw1.Lo], iV d2, .pointer (some ⟨b5, 0, none⟩), uV, iV 0, iV 1, uV, uV, uV, uV, iV d2, .bool true, uV, uV, uV, uV, uV, uV, uV, uV, uV, uV, uV, uV, uV, uV, uV, uV, uV, uV, uV, uV, uV, uV, uV, uV, uV, uV, uV, uV, uV, uV, uV, uV, uV, uV, uV, uV, uV, uV, uV, uV, uV, uV, uV, uV, uV, uV, uV, uV, uV], []⟩) (by kernel_rfl) ?_
    refine wpList_nil ?_
    refine hK16 _ _ ?_
    refine wp_ret ?_
    refine hret _ _ ?_
    refine ends_still (v := Value.tuple #[.int .i64 0, .int .i64 1]) (by kernel_rfl) (by kernel_rfl) ?_
    have HS129 := HS7.drop
    injection h with h
    injection h with h0_ h
    subst h0_ h
    exact ⟨f, rfl, FM.le.refl _, HS129⟩
  · have c14 : ¬ (d2 < 1) := c14
    refine wpRwI 11 (x := (decide (d2 < 1))) (v := false) (by kernel_rfl) (decide_eq_false c14) ?_
    refine condF (by kernel_rfl) ?_
    refine wp_skip ?_
    refine hK10 _ _ ?_
    refine wp_seq_k (fun K17 hK18 => ?_)
    refine wp_region_lit ?_
    refine seqK rfl (does_run (run_loadN (n := 2) rfl Try.underlying95 rfl (by kernel_rfl) (by kernel_rfl : _ = Value.pointer (some ⟨b5, 0, none⟩)) (cs := [.int .i64 vw1.Hi, .int .u64 vw1.Lo]) rfl (HS7.cells 0 2 _ rfl)) ?_)
    refine seqK rfl (does_alloc (z := Value.agg #[.int .i64 0, .int .u64 0]) (cs := #[.int .i64 0, .int .u64 0]) rfl (by kernel_rfl) rfl HS7 ?_)
    intro b19 W20 HS21
    refine seqK rfl (does_store (n := 2) (vs := [.int .i64 vw1.Hi, .int .u64 vw1.Lo]) (cs' := #[.int .i64 vw1.Hi, .int .u64 vw1.Lo]) rfl (by kernel_rfl) (by kernel_rfl : _ = Value.pointer (some ⟨b19, 0, none⟩)) (by kernel_rfl : _ = Value.agg #[.int .i64 vw1.Hi, .int .u64 vw1.Lo]) rfl rfl (by intro u_ hu_; simp only [List.mem_cons, List.not_mem_nil, or_false] at hu_; rcases hu_ with rfl | rfl <;> rfl) HS21 (Nat.le_of_ble_eq_true rfl) (by kernel_rfl) ?_)
    intro W23 HS24
    refine wpList_nil ?_
    refine hK18 _ _ ?_
    refine wp_seq_k (fun K25 hK26 => ?_)
    refine wp_seq_k (fun K27 hK28 => ?_)
    refine wp_region_lit ?_
    refine seqL1 (by kernel_rfl) ?_
    refine seqK rfl (does_run (run_load rfl Try.underlying2 rfl (by kernel_rfl : _ = Value.pointer (some ⟨b5, 0, none⟩)) (HS24.u1.cell 0)) ?_)
    refine seqS1 (a' := ⟨#[.agg #[iV vw1.Hi, .int .u64 vw1.Lo], iV d2, .pointer (some ⟨b5, 0, none⟩), uV, iV 0, iV 0, .pointer (some ⟨b19, 0, none⟩), uV, uV, uV, iV d2, .bool false, .agg #[iV vw1.Hi, .int .u64 vw1.Lo], .pointer (some ⟨b5, 0, none⟩), iV vw1.Hi, .bool (decide (vw1.Hi < 0)), uV, uV, uV, uV, uV, uV, uV, uV, uV, uV, uV, uV, uV, uV, uV, uV, uV, uV, uV, uV, uV, uV, uV, uV, uV, uV, uV, uV, uV, uV, uV, uV, uV, uV, uV, uV, uV, uV, uV, uV, uV, uV, uV, uV, uV], []⟩) (by kernel_rfl) ?_
    refine wpList_nil ?_
    refine hK28 _ _ ?_
    have hq_ := bind_some h; clear h; obtain ⟨v29, hv46, h⟩ := hq_
    have J47 : ∀ (f39 : FM) (x44 : Int) (x45 : Int) (j43 : Nat → Value) (W41 : World) (a_ : Act), FM.le f f39 → some ((x44, x45)) = some v29 → St t W41 f39 ([(b19, .cells #[.int .i64 x44, .int .u64 x45] 95 (0, 0))] :: [(b5, .cells #[.int .i64 vw1.Hi, .int .u64 vw1.Lo] 95 (0, 0))] :: H) → a_ = ⟨#[.agg #[iV vw1.Hi, .int .u64 vw1.Lo], iV d2, .pointer (some ⟨b5, 0, none⟩), uV, iV 0, iV 0, .pointer (some ⟨b19, 0, none⟩), uV, uV, uV, iV d2, .bool false, .agg #[iV vw1.Hi, .int .u64 vw1.Lo], .pointer (some ⟨b5, 0, none⟩), iV vw1.Hi, (j43 0), (j43 1), (j43 2), uV, uV, uV, uV, uV, uV, uV, uV, uV, uV, uV, uV, uV, uV, uV, uV, uV, uV, uV, uV, uV, uV, uV, uV, uV, uV, uV, uV, uV, uV, uV, uV, uV, uV, uV, uV, uV, uV, uV, uV, uV, uV, uV], []⟩ → K25 a_ W41 := by
      intro f39 x44 x45 j43 W41 a_ L40 hj48 HS42  hfr_; subst hfr_
      injection hj48 with hj48; subst hj48; try dsimp only at h
      refine hK26 _ _ ?_
      refine wp_seq_k (fun K49 hK50 => ?_)
      refine wp_seq_k (fun K51 hK52 => ?_)
      refine wp_region_lit ?_
      refine seqL1 (by kernel_rfl) ?_
      refine seqK rfl (does_run (run_load rfl Try.underlying2 rfl (by kernel_rfl : _ = Value.pointer (some ⟨b19, 0, none⟩)) (HS42.cell 0)) ?_)
      refine seqS4 (a' := ⟨#[.agg #[iV vw1.Hi, .int .u64 vw1.Lo], iV d2, .pointer (some ⟨b5, 0, none⟩), uV, iV 0, iV 0, .pointer (some ⟨b19, 0, none⟩), uV, uV, uV, iV d2, .bool false, .agg #[iV vw1.Hi, .int .u64 vw1.Lo], .pointer (some ⟨b5, 0, none⟩), iV vw1.Hi, (j43 0), (j43 1), (j43 2), .pointer (some ⟨b19, 0, none⟩), iV x44, .int .u64 (u64 (x44)), iV d2, .int .u64 (u64 (d2)), .bool (decide ((u64 (x44)) ≥ (u64 (d2)))), uV, uV, uV, uV, uV, uV, uV, uV, uV, uV, uV, uV, uV, uV, uV, uV, uV, uV, uV, uV, uV, uV, uV, uV, uV, uV, uV, uV, uV, uV, uV, uV, uV, uV, uV, uV, uV], []⟩) (by kernel_rfl) ?_
      refine wpList_nil ?_
      refine hK52 _ _ ?_
      have hq_ := ite_some h; clear h; rcases hq_ with ⟨c54, h⟩ | ⟨c54, h⟩
      · have c54 : (u64 (x44)) ≥ (u64 (d2)) := c54
        refine wpRwI 23 (x := (decide ((u64 (x44)) ≥ (u64 (d2))))) (v := true) (by kernel_rfl) (decide_eq_true c54) ?_
        refine condT (by kernel_rfl) ?_
        refine wp_seq_k (fun K55 hK56 => ?_)
        refine wp_region_lit ?_
        refine seqS2 (a' := ⟨#[.agg #[iV vw1.Hi, .int .u64 vw1.Lo], iV d2, .pointer (some ⟨b5, 0, none⟩), uV, iV 0, iV 2, .pointer (some ⟨b19, 0, none⟩), uV, uV, uV, iV d2, .bool false, .agg #[iV vw1.Hi, .int .u64 vw1.Lo], .pointer (some ⟨b5, 0, none⟩), iV vw1.Hi, (j43 0), (j43 1), (j43 2), .pointer (some ⟨b19, 0, none⟩), iV x44, .int .u64 (u64 (x44)), iV d2, .int .u64 (u64 (d2)), .bool true, uV, uV, uV, uV, uV, uV, uV, uV, uV, uV, uV, uV, uV, uV, uV, uV, uV, uV, uV, uV, uV, uV, uV, uV, uV, uV, uV, uV, uV, uV, uV, uV, uV, uV, uV, uV, uV], []⟩) (by kernel_rfl) ?_
        refine wpList_nil ?_
        refine hK56 _ _ ?_
        refine wp_ret ?_
        refine hret _ _ ?_
        refine ends_still (v := Value.tuple #[.int .i64 0, .int .i64 2]) (by kernel_rfl) (by kernel_rfl) ?_
        have HS130 := HS42.drop
        have HS131 := HS130.drop
        injection h with h
        injection h with h0_ h
        subst h0_ h
        exact ⟨f39, rfl, L40, HS131⟩
      · have c54 : ¬ ((u64 (x44)) ≥ (u64 (d2))) := c54
        refine wpRwI 23 (x := (decide ((u64 (x44)) ≥ (u64 (d2))))) (v := false) (by kernel_rfl) (decide_eq_false c54) ?_
        refine condF (by kernel_rfl) ?_
        refine wp_skip ?_
        refine hK50 _ _ ?_
        refine wp_seq_k (fun K57 hK58 => ?_)
        refine wp_region_lit ?_
        refine seqL1 (by kernel_rfl) ?_
        refine seqK rfl (does_run (run_load rfl Try.underlying2 rfl (by kernel_rfl : _ = Value.pointer (some ⟨b19, 0, none⟩)) (HS42.cell 0)) ?_)
        refine seqL2 (by kernel_rfl) ?_
        refine seqK rfl (does_run (run_load rfl Try.underlying84 rfl (by kernel_rfl : _ = Value.pointer (some ⟨b19, 1, none⟩)) (HS42.cell 1)) ?_)
        have hq_ := bind_some h; clear h; obtain ⟨⟨vt59, vt60⟩, hc61, h⟩ := hq_
        refine seqL2 (by kernel_rfl) ?_
        refine seqK rfl (does_call (f := 57) (args := #[.int .u64 (u64 (x44)), .int .u64 x45, .int .u64 (u64 (d2))]) (by kernel_rfl) (bits_Div64.calls k (u64 (x44)) x45 (u64 (d2)) HS42 vt59 vt60 hc61) ?_)
        rintro _ W64 ⟨f62, rfl, L63, HS65⟩
        refine ⟨_, rfl, ?_⟩
        refine seqS5 (a' := ⟨#[.agg #[iV vw1.Hi, .int .u64 vw1.Lo], iV d2, .pointer (some ⟨b5, 0, none⟩), uV, iV 0, iV 0, .pointer (some ⟨b19, 0, none⟩), .int .u64 vt59, .int .u64 vt60, uV, iV d2, .bool false, .agg #[iV vw1.Hi, .int .u64 vw1.Lo], .pointer (some ⟨b5, 0, none⟩), iV vw1.Hi, (j43 0), (j43 1), (j43 2), .pointer (some ⟨b19, 0, none⟩), iV x44, .int .u64 (u64 (x44)), iV d2, .int .u64 (u64 (d2)), .bool false, .tuple #[.int .u64 vt59, .int .u64 vt60], .pointer (some ⟨b19, 0, none⟩), iV x44, .int .u64 (u64 (x44)), .pointer (some ⟨b19, 1, none⟩), .int .u64 x45, iV d2, .int .u64 (u64 (d2)), .tuple #[.int .u64 vt59, .int .u64 vt60], .int .u64 vt59, .int .u64 vt60, uV, uV, uV, uV, uV, uV, uV, uV, uV, uV, uV, uV, uV, uV, uV, uV, uV, uV, uV, uV, uV, uV, uV, uV, uV, uV], []⟩) (by kernel_rfl) ?_
        refine wpList_nil ?_
        refine hK58 _ _ ?_
        refine wp_seq_k (fun K66 hK67 => ?_)
        refine wp_region_lit ?_
        refine seqS1 (a' := ⟨#[.agg #[iV vw1.Hi, .int .u64 vw1.Lo], iV d2, .pointer (some ⟨b5, 0, none⟩), uV, iV 0, iV 0, .pointer (some ⟨b19, 0, none⟩), .int .u64 vt59, .int .u64 vt60, .int .u64 9223372036854775807, iV d2, .bool false, .agg #[iV vw1.Hi, .int .u64 vw1.Lo], .pointer (some ⟨b5, 0, none⟩), iV vw1.Hi, (j43 0), (j43 1), (j43 2), .pointer (some ⟨b19, 0, none⟩), iV x44, .int .u64 (u64 (x44)), iV d2, .int .u64 (u64 (d2)), .bool false, .tuple #[.int .u64 vt59, .int .u64 vt60], .pointer (some ⟨b19, 0, none⟩), iV x44, .int .u64 (u64 (x44)), .pointer (some ⟨b19, 1, none⟩), .int .u64 x45, iV d2, .int .u64 (u64 (d2)), .tuple #[.int .u64 vt59, .int .u64 vt60], .int .u64 vt59, .int .u64 vt60, uV, uV, uV, uV, uV, uV, uV, uV, uV, uV, uV, uV, uV, uV, uV, uV, uV, uV, uV, uV, uV, uV, uV, uV, uV, uV], []⟩) (by kernel_rfl) ?_
        refine wpList_nil ?_
        refine hK67 _ _ ?_
        refine wp_seq_k (fun K68 hK69 => ?_)
        refine wp_seq_k (fun K70 hK71 => ?_)
        refine wp_region_lit ?_
        refine seqL1 (by kernel_rfl) ?_
        refine seqK rfl (does_run (run_load rfl Try.underlying2 rfl (by kernel_rfl : _ = Value.pointer (some ⟨b5, 0, none⟩)) (HS65.u1.cell 0)) ?_)
        refine seqS1 (a' := ⟨#[.agg #[iV vw1.Hi, .int .u64 vw1.Lo], iV d2, .pointer (some ⟨b5, 0, none⟩), uV, iV 0, iV 0, .pointer (some ⟨b19, 0, none⟩), .int .u64 vt59, .int .u64 vt60, .int .u64 9223372036854775807, iV d2, .bool false, .agg #[iV vw1.Hi, .int .u64 vw1.Lo], .pointer (some ⟨b5, 0, none⟩), iV vw1.Hi, (j43 0), (j43 1), (j43 2), .pointer (some ⟨b19, 0, none⟩), iV x44, .int .u64 (u64 (x44)), iV d2, .int .u64 (u64 (d2)), .bool false, .tuple #[.int .u64 vt59, .int .u64 vt60], .pointer (some ⟨b19, 0, none⟩), iV x44, .int .u64 (u64 (x44)), .pointer (some ⟨b19, 1, none⟩), .int .u64 x45, iV d2, .int .u64 (u64 (d2)), .tuple #[.int .u64 vt59, .int .u64 vt60], .int .u64 vt59, .int .u64 vt60, .pointer (some ⟨b5, 0, none⟩), iV vw1.Hi, .bool (decide (vw1.Hi < 0)), uV, uV, uV, uV, uV, uV, uV, uV, uV, uV, uV, uV, uV, uV, uV, uV, uV, uV, uV, uV, uV, uV, uV], []⟩) (by kernel_rfl) ?_
        refine wpList_nil ?_
        refine hK71 _ _ ?_
        have hq_ := bind_some h; clear h; obtain ⟨v72, hv95, h⟩ := hq_
        have J96 : ∀ (f89 : FM) (most94 : Int) (j93 : Nat → Value) (W91 : World) (a_ : Act), FM.le f62 f89 → some (most94) = some v72 → St t W91 f89 ([(b19, .cells #[.int .i64 x44, .int .u64 x45] 95 (0, 0))] :: [(b5, .cells #[.int .i64 vw1.Hi, .int .u64 vw1.Lo] 95 (0, 0))] :: H) → a_ = ⟨#[.agg #[iV vw1.Hi, .int .u64 vw1.Lo], iV d2, .pointer (some ⟨b5, 0, none⟩), uV, iV 0, iV 0, .pointer (some ⟨b19, 0, none⟩), .int .u64 vt59, .int .u64 vt60, .int .u64 most94, iV d2, .bool false, .agg #[iV vw1.Hi, .int .u64 vw1.Lo], .pointer (some ⟨b5, 0, none⟩), iV vw1.Hi, (j43 0), (j43 1), (j43 2), .pointer (some ⟨b19, 0, none⟩), iV x44, .int .u64 (u64 (x44)), iV d2, .int .u64 (u64 (d2)), .bool false, .tuple #[.int .u64 vt59, .int .u64 vt60], .pointer (some ⟨b19, 0, none⟩), iV x44, .int .u64 (u64 (x44)), .pointer (some ⟨b19, 1, none⟩), .int .u64 x45, iV d2, .int .u64 (u64 (d2)), .tuple #[.int .u64 vt59, .int .u64 vt60], .int .u64 vt59, .int .u64 vt60, .pointer (some ⟨b5, 0, none⟩), iV vw1.Hi, (j93 0), (j93 1), (j93 2), (j93 3), (j93 4), uV, uV, uV, uV, uV, uV, uV, uV, uV, uV, uV, uV, uV, uV, uV, uV, uV, uV, uV], []⟩ → K68 a_ W91 := by
          intro f89 most94 j93 W91 a_ L90 hj97 HS92  hfr_; subst hfr_
          injection hj97 with hj97; subst hj97; try dsimp only at h
          refine hK69 _ _ ?_
          refine wp_seq_k (fun K98 hK99 => ?_)
          refine wp_seq_k (fun K100 hK101 => ?_)
          refine wp_region_lit ?_
          refine seqS3 (a' := ⟨#[.agg #[iV vw1.Hi, .int .u64 vw1.Lo], iV d2, .pointer (some ⟨b5, 0, none⟩), uV, iV 0, iV 0, .pointer (some ⟨b19, 0, none⟩), .int .u64 vt59, .int .u64 vt60, .int .u64 most94, iV d2, .bool false, .agg #[iV vw1.Hi, .int .u64 vw1.Lo], .pointer (some ⟨b5, 0, none⟩), iV vw1.Hi, (j43 0), (j43 1), (j43 2), .pointer (some ⟨b19, 0, none⟩), iV x44, .int .u64 (u64 (x44)), iV d2, .int .u64 (u64 (d2)), .bool false, .tuple #[.int .u64 vt59, .int .u64 vt60], .pointer (some ⟨b19, 0, none⟩), iV x44, .int .u64 (u64 (x44)), .pointer (some ⟨b19, 1, none⟩), .int .u64 x45, iV d2, .int .u64 (u64 (d2)), .tuple #[.int .u64 vt59, .int .u64 vt60], .int .u64 vt59, .int .u64 vt60, .pointer (some ⟨b5, 0, none⟩), iV vw1.Hi, (j93 0), (j93 1), (j93 2), (j93 3), (j93 4), .int .u64 vt59, .int .u64 most94, .bool (decide (vt59 > most94)), uV, uV, uV, uV, uV, uV, uV, uV, uV, uV, uV, uV, uV, uV, uV, uV], []⟩) (by kernel_rfl) ?_
          refine wpList_nil ?_
          refine hK101 _ _ ?_
          have hq_ := ite_some h; clear h; rcases hq_ with ⟨c103, h⟩ | ⟨c103, h⟩
          · have c103 : vt59 > most94 := c103
            refine wpRwI 44 (x := (decide (vt59 > most94))) (v := true) (by kernel_rfl) (decide_eq_true c103) ?_
            refine condT (by kernel_rfl) ?_
            refine wp_seq_k (fun K104 hK105 => ?_)
            refine wp_region_lit ?_
            refine seqS2 (a' := ⟨#[.agg #[iV vw1.Hi, .int .u64 vw1.Lo], iV d2, .pointer (some ⟨b5, 0, none⟩), uV, iV 0, iV 2, .pointer (some ⟨b19, 0, none⟩), .int .u64 vt59, .int .u64 vt60, .int .u64 most94, iV d2, .bool false, .agg #[iV vw1.Hi, .int .u64 vw1.Lo], .pointer (some ⟨b5, 0, none⟩), iV vw1.Hi, (j43 0), (j43 1), (j43 2), .pointer (some ⟨b19, 0, none⟩), iV x44, .int .u64 (u64 (x44)), iV d2, .int .u64 (u64 (d2)), .bool false, .tuple #[.int .u64 vt59, .int .u64 vt60], .pointer (some ⟨b19, 0, none⟩), iV x44, .int .u64 (u64 (x44)), .pointer (some ⟨b19, 1, none⟩), .int .u64 x45, iV d2, .int .u64 (u64 (d2)), .tuple #[.int .u64 vt59, .int .u64 vt60], .int .u64 vt59, .int .u64 vt60, .pointer (some ⟨b5, 0, none⟩), iV vw1.Hi, (j93 0), (j93 1), (j93 2), (j93 3), (j93 4), .int .u64 vt59, .int .u64 most94, .bool true, uV, uV, uV, uV, uV, uV, uV, uV, uV, uV, uV, uV, uV, uV, uV, uV], []⟩) (by kernel_rfl) ?_
            refine wpList_nil ?_
            refine hK105 _ _ ?_
            refine wp_ret ?_
            refine hret _ _ ?_
            refine ends_still (v := Value.tuple #[.int .i64 0, .int .i64 2]) (by kernel_rfl) (by kernel_rfl) ?_
            have HS132 := HS92.drop
            have HS133 := HS132.drop
            injection h with h
            injection h with h0_ h
            subst h0_ h
            exact ⟨f89, rfl, (L40.trans (L63.trans L90)), HS133⟩
          · have c103 : ¬ (vt59 > most94) := c103
            refine wpRwI 44 (x := (decide (vt59 > most94))) (v := false) (by kernel_rfl) (decide_eq_false c103) ?_
            refine condF (by kernel_rfl) ?_
            refine wp_skip ?_
            refine hK99 _ _ ?_
            refine wp_seq_k (fun K106 hK107 => ?_)
            refine blockK (fun B108 hx109 hn110 hr111 ho112 hp113 => ?_)
            refine wp_seq_k (fun K115 hK116 => ?_)
            refine wp_region_lit ?_
            refine seqL1 (by kernel_rfl) ?_
            refine seqK rfl (does_run (run_load rfl Try.underlying2 rfl (by kernel_rfl : _ = Value.pointer (some ⟨b5, 0, none⟩)) (HS92.u1.cell 0)) ?_)
            refine seqS2 (a' := ⟨#[.agg #[iV vw1.Hi, .int .u64 vw1.Lo], iV d2, .pointer (some ⟨b5, 0, none⟩), uV, iV 0, iV 0, .pointer (some ⟨b19, 0, none⟩), .int .u64 vt59, .int .u64 vt60, .int .u64 most94, iV d2, .bool false, .agg #[iV vw1.Hi, .int .u64 vw1.Lo], .pointer (some ⟨b5, 0, none⟩), iV vw1.Hi, (j43 0), (j43 1), (j43 2), .pointer (some ⟨b19, 0, none⟩), iV x44, .int .u64 (u64 (x44)), iV d2, .int .u64 (u64 (d2)), .bool false, .tuple #[.int .u64 vt59, .int .u64 vt60], .pointer (some ⟨b19, 0, none⟩), iV x44, .int .u64 (u64 (x44)), .pointer (some ⟨b19, 1, none⟩), .int .u64 x45, iV d2, .int .u64 (u64 (d2)), .tuple #[.int .u64 vt59, .int .u64 vt60], .int .u64 vt59, .int .u64 vt60, .pointer (some ⟨b5, 0, none⟩), iV vw1.Hi, (j93 0), (j93 1), (j93 2), (j93 3), (j93 4), .int .u64 vt59, .int .u64 most94, .bool false, .bool (decide (vw1.Hi ≥ 0)), .pointer (some ⟨b5, 0, none⟩), iV vw1.Hi, .bool (decide (vw1.Hi ≥ 0)), uV, uV, uV, uV, uV, uV, uV, uV, uV, uV, uV, uV], []⟩) (by kernel_rfl) ?_
            refine wpList_nil ?_
            refine hK116 _ _ ?_
            have hq_ := ite_some h; clear h; rcases hq_ with ⟨c118, h⟩ | ⟨c118, h⟩
            · have c118 : vw1.Hi ≥ 0 := c118
              refine wpRwI 45 (x := (decide (vw1.Hi ≥ 0))) (v := true) (by kernel_rfl) (decide_eq_true c118) ?_
              refine wpRwI 48 (x := (decide (vw1.Hi ≥ 0))) (v := true) (by kernel_rfl) (decide_eq_true c118) ?_
              refine condT (by kernel_rfl) ?_
              refine wp_seq_k (fun K119 hK120 => ?_)
              refine wp_region_lit ?_
              refine seqS4 (a' := ⟨#[.agg #[iV vw1.Hi, .int .u64 vw1.Lo], iV d2, .pointer (some ⟨b5, 0, none⟩), uV, iV (w64 (vt59)), iV 0, .pointer (some ⟨b19, 0, none⟩), .int .u64 vt59, .int .u64 vt60, .int .u64 most94, iV d2, .bool false, .agg #[iV vw1.Hi, .int .u64 vw1.Lo], .pointer (some ⟨b5, 0, none⟩), iV vw1.Hi, (j43 0), (j43 1), (j43 2), .pointer (some ⟨b19, 0, none⟩), iV x44, .int .u64 (u64 (x44)), iV d2, .int .u64 (u64 (d2)), .bool false, .tuple #[.int .u64 vt59, .int .u64 vt60], .pointer (some ⟨b19, 0, none⟩), iV x44, .int .u64 (u64 (x44)), .pointer (some ⟨b19, 1, none⟩), .int .u64 x45, iV d2, .int .u64 (u64 (d2)), .tuple #[.int .u64 vt59, .int .u64 vt60], .int .u64 vt59, .int .u64 vt60, .pointer (some ⟨b5, 0, none⟩), iV vw1.Hi, (j93 0), (j93 1), (j93 2), (j93 3), (j93 4), .int .u64 vt59, .int .u64 most94, .bool false, .bool true, .pointer (some ⟨b5, 0, none⟩), iV vw1.Hi, .bool true, .int .u64 vt59, iV (w64 (vt59)), uV, uV, uV, uV, uV, uV, uV, uV, uV, uV], []⟩) (by kernel_rfl) ?_
              refine wpList_nil ?_
              refine hK120 _ _ ?_
              refine wp_ret ?_
              refine hr111 _ _ ?_
              refine hret _ _ ?_
              refine ends_still (v := Value.tuple #[.int .i64 (w64 (vt59)), .int .i64 0]) (by kernel_rfl) (by kernel_rfl) ?_
              have HS134 := HS92.drop
              have HS135 := HS134.drop
              injection h with h
              injection h with h0_ h
              subst h0_ h
              exact ⟨f89, rfl, (L40.trans (L63.trans L90)), HS135⟩
            · have c118 : ¬ (vw1.Hi ≥ 0) := c118
              refine wpRwI 45 (x := (decide (vw1.Hi ≥ 0))) (v := false) (by kernel_rfl) (decide_eq_false c118) ?_
              refine wpRwI 48 (x := (decide (vw1.Hi ≥ 0))) (v := false) (by kernel_rfl) (decide_eq_false c118) ?_
              refine condF (by kernel_rfl) ?_
              refine wp_seq_k (fun K121 hK122 => ?_)
              refine wp_region_lit ?_
              refine seqS3 (a' := ⟨#[.agg #[iV vw1.Hi, .int .u64 vw1.Lo], iV d2, .pointer (some ⟨b5, 0, none⟩), uV, iV 0, iV 0, .pointer (some ⟨b19, 0, none⟩), .int .u64 vt59, .int .u64 vt60, .int .u64 most94, iV d2, .bool false, .agg #[iV vw1.Hi, .int .u64 vw1.Lo], .pointer (some ⟨b5, 0, none⟩), iV vw1.Hi, (j43 0), (j43 1), (j43 2), .pointer (some ⟨b19, 0, none⟩), iV x44, .int .u64 (u64 (x44)), iV d2, .int .u64 (u64 (d2)), .bool false, .tuple #[.int .u64 vt59, .int .u64 vt60], .pointer (some ⟨b19, 0, none⟩), iV x44, .int .u64 (u64 (x44)), .pointer (some ⟨b19, 1, none⟩), .int .u64 x45, iV d2, .int .u64 (u64 (d2)), .tuple #[.int .u64 vt59, .int .u64 vt60], .int .u64 vt59, .int .u64 vt60, .pointer (some ⟨b5, 0, none⟩), iV vw1.Hi, (j93 0), (j93 1), (j93 2), (j93 3), (j93 4), .int .u64 vt59, .int .u64 most94, .bool false, .bool false, .pointer (some ⟨b5, 0, none⟩), iV vw1.Hi, .bool false, uV, uV, .bool (decide (vt60 > 0)), .int .u64 vt60, .bool (decide (vt60 > 0)), uV, uV, uV, uV, uV, uV, uV], []⟩) (by kernel_rfl) ?_
              refine wpList_nil ?_
              refine hK122 _ _ ?_
              have hq_ := ite_some h; clear h; rcases hq_ with ⟨c124, h⟩ | ⟨c124, h⟩
              · have c124 : vt60 > 0 := c124
                refine wpRwI 51 (x := (decide (vt60 > 0))) (v := true) (by kernel_rfl) (decide_eq_true c124) ?_
                refine wpRwI 53 (x := (decide (vt60 > 0))) (v := true) (by kernel_rfl) (decide_eq_true c124) ?_
                refine condT (by kernel_rfl) ?_
                refine wp_seq_k (fun K125 hK126 => ?_)
                refine wp_region_lit ?_
                refine seqS6 (a' := ⟨#[.agg #[iV vw1.Hi, .int .u64 vw1.Lo], iV d2, .pointer (some ⟨b5, 0, none⟩), uV, iV (w64 ((w64 (u64 (0 - vt59))) - 1)), iV 0, .pointer (some ⟨b19, 0, none⟩), .int .u64 vt59, .int .u64 vt60, .int .u64 most94, iV d2, .bool false, .agg #[iV vw1.Hi, .int .u64 vw1.Lo], .pointer (some ⟨b5, 0, none⟩), iV vw1.Hi, (j43 0), (j43 1), (j43 2), .pointer (some ⟨b19, 0, none⟩), iV x44, .int .u64 (u64 (x44)), iV d2, .int .u64 (u64 (d2)), .bool false, .tuple #[.int .u64 vt59, .int .u64 vt60], .pointer (some ⟨b19, 0, none⟩), iV x44, .int .u64 (u64 (x44)), .pointer (some ⟨b19, 1, none⟩), .int .u64 x45, iV d2, .int .u64 (u64 (d2)), .tuple #[.int .u64 vt59, .int .u64 vt60], .int .u64 vt59, .int .u64 vt60, .pointer (some ⟨b5, 0, none⟩), iV vw1.Hi, (j93 0), (j93 1), (j93 2), (j93 3), (j93 4), .int .u64 vt59, .int .u64 most94, .bool false, .bool false, .pointer (some ⟨b5, 0, none⟩), iV vw1.Hi, .bool false, uV, uV, .bool true, .int .u64 vt60, .bool true, .int .u64 vt59, .int .u64 (u64 (0 - vt59)), iV (w64 (u64 (0 - vt59))), iV (w64 ((w64 (u64 (0 - vt59))) - 1)), uV, uV, uV], []⟩) (by kernel_rfl) ?_
                refine wpList_nil ?_
                refine hK126 _ _ ?_
                refine wp_ret ?_
                refine hr111 _ _ ?_
                refine hret _ _ ?_
                refine ends_still (v := Value.tuple #[.int .i64 (w64 ((w64 (u64 (0 - vt59))) - 1)), .int .i64 0]) (by kernel_rfl) (by kernel_rfl) ?_
                have HS136 := HS92.drop
                have HS137 := HS136.drop
                injection h with h
                injection h with h0_ h
                subst h0_ h
                exact ⟨f89, rfl, (L40.trans (L63.trans L90)), HS137⟩
              · have c124 : ¬ (vt60 > 0) := c124
                refine wpRwI 51 (x := (decide (vt60 > 0))) (v := false) (by kernel_rfl) (decide_eq_false c124) ?_
                refine wpRwI 53 (x := (decide (vt60 > 0))) (v := false) (by kernel_rfl) (decide_eq_false c124) ?_
                refine condF (by kernel_rfl) ?_
                refine wp_skip ?_
                refine hn110 _ _ ?_
                refine hK107 _ _ ?_
                refine wp_seq_k (fun K127 hK128 => ?_)
                refine wp_region_lit ?_
                refine seqS5 (a' := ⟨#[.agg #[iV vw1.Hi, .int .u64 vw1.Lo], iV d2, .pointer (some ⟨b5, 0, none⟩), uV, iV (w64 (u64 (0 - vt59))), iV 0, .pointer (some ⟨b19, 0, none⟩), .int .u64 vt59, .int .u64 vt60, .int .u64 most94, iV d2, .bool false, .agg #[iV vw1.Hi, .int .u64 vw1.Lo], .pointer (some ⟨b5, 0, none⟩), iV vw1.Hi, (j43 0), (j43 1), (j43 2), .pointer (some ⟨b19, 0, none⟩), iV x44, .int .u64 (u64 (x44)), iV d2, .int .u64 (u64 (d2)), .bool false, .tuple #[.int .u64 vt59, .int .u64 vt60], .pointer (some ⟨b19, 0, none⟩), iV x44, .int .u64 (u64 (x44)), .pointer (some ⟨b19, 1, none⟩), .int .u64 x45, iV d2, .int .u64 (u64 (d2)), .tuple #[.int .u64 vt59, .int .u64 vt60], .int .u64 vt59, .int .u64 vt60, .pointer (some ⟨b5, 0, none⟩), iV vw1.Hi, (j93 0), (j93 1), (j93 2), (j93 3), (j93 4), .int .u64 vt59, .int .u64 most94, .bool false, .bool false, .pointer (some ⟨b5, 0, none⟩), iV vw1.Hi, .bool false, uV, uV, .bool false, .int .u64 vt60, .bool false, uV, uV, uV, uV, .int .u64 vt59, .int .u64 (u64 (0 - vt59)), iV (w64 (u64 (0 - vt59)))], []⟩) (by kernel_rfl) ?_
                refine wpList_nil ?_
                refine hK128 _ _ ?_
                refine wp_ret ?_
                refine hret _ _ ?_
                refine ends_still (v := Value.tuple #[.int .i64 (w64 (u64 (0 - vt59))), .int .i64 0]) (by kernel_rfl) (by kernel_rfl) ?_
                have HS138 := HS92.drop
                have HS139 := HS138.drop
                injection h with h
                injection h with h0_ h
                subst h0_ h
                exact ⟨f89, rfl, (L40.trans (L63.trans L90)), HS139⟩
        clear h; have h := hv95; clear hv95
        have hq_ := ite_some h; clear h; rcases hq_ with ⟨c73, h⟩ | ⟨c73, h⟩
        · have c73 : vw1.Hi < 0 := c73
          refine wpRwI 37 (x := (decide (vw1.Hi < 0))) (v := true) (by kernel_rfl) (decide_eq_true c73) ?_
          refine condT (by kernel_rfl) ?_
          refine wp_seq_k (fun K74 hK75 => ?_)
          refine wp_region_lit ?_
          refine seqS1 (a' := ⟨#[.agg #[iV vw1.Hi, .int .u64 vw1.Lo], iV d2, .pointer (some ⟨b5, 0, none⟩), uV, iV 0, iV 0, .pointer (some ⟨b19, 0, none⟩), .int .u64 vt59, .int .u64 vt60, .int .u64 9223372036854775808, iV d2, .bool false, .agg #[iV vw1.Hi, .int .u64 vw1.Lo], .pointer (some ⟨b5, 0, none⟩), iV vw1.Hi, (j43 0), (j43 1), (j43 2), .pointer (some ⟨b19, 0, none⟩), iV x44, .int .u64 (u64 (x44)), iV d2, .int .u64 (u64 (d2)), .bool false, .tuple #[.int .u64 vt59, .int .u64 vt60], .pointer (some ⟨b19, 0, none⟩), iV x44, .int .u64 (u64 (x44)), .pointer (some ⟨b19, 1, none⟩), .int .u64 x45, iV d2, .int .u64 (u64 (d2)), .tuple #[.int .u64 vt59, .int .u64 vt60], .int .u64 vt59, .int .u64 vt60, .pointer (some ⟨b5, 0, none⟩), iV vw1.Hi, .bool true, uV, uV, uV, uV, uV, uV, uV, uV, uV, uV, uV, uV, uV, uV, uV, uV, uV, uV, uV, uV, uV, uV, uV], []⟩) (by kernel_rfl) ?_
          refine wpList_nil ?_
          refine hK75 _ _ ?_
          refine wp_seq_k (fun K76 hK77 => ?_)
          refine wp_region_lit ?_
          refine seqS2 (a' := ⟨#[.agg #[iV vw1.Hi, .int .u64 vw1.Lo], iV d2, .pointer (some ⟨b5, 0, none⟩), uV, iV 0, iV 0, .pointer (some ⟨b19, 0, none⟩), .int .u64 vt59, .int .u64 vt60, .int .u64 9223372036854775808, iV d2, .bool false, .agg #[iV vw1.Hi, .int .u64 vw1.Lo], .pointer (some ⟨b5, 0, none⟩), iV vw1.Hi, (j43 0), (j43 1), (j43 2), .pointer (some ⟨b19, 0, none⟩), iV x44, .int .u64 (u64 (x44)), iV d2, .int .u64 (u64 (d2)), .bool false, .tuple #[.int .u64 vt59, .int .u64 vt60], .pointer (some ⟨b19, 0, none⟩), iV x44, .int .u64 (u64 (x44)), .pointer (some ⟨b19, 1, none⟩), .int .u64 x45, iV d2, .int .u64 (u64 (d2)), .tuple #[.int .u64 vt59, .int .u64 vt60], .int .u64 vt59, .int .u64 vt60, .pointer (some ⟨b5, 0, none⟩), iV vw1.Hi, .bool true, .int .u64 vt60, .bool (decide (vt60 > 0)), uV, uV, uV, uV, uV, uV, uV, uV, uV, uV, uV, uV, uV, uV, uV, uV, uV, uV, uV, uV, uV], []⟩) (by kernel_rfl) ?_
          refine wpList_nil ?_
          refine hK77 _ _ ?_
          have hq_ := bind_some h; clear h; obtain ⟨v78, hv86, h⟩ := hq_
          have J87 : ∀ (f80 : FM) (most85 : Int) (j84 : Nat → Value) (W82 : World) (a_ : Act), FM.le f62 f80 → some (most85) = some v78 → St t W82 f80 ([(b19, .cells #[.int .i64 x44, .int .u64 x45] 95 (0, 0))] :: [(b5, .cells #[.int .i64 vw1.Hi, .int .u64 vw1.Lo] 95 (0, 0))] :: H) → a_ = ⟨#[.agg #[iV vw1.Hi, .int .u64 vw1.Lo], iV d2, .pointer (some ⟨b5, 0, none⟩), uV, iV 0, iV 0, .pointer (some ⟨b19, 0, none⟩), .int .u64 vt59, .int .u64 vt60, .int .u64 most85, iV d2, .bool false, .agg #[iV vw1.Hi, .int .u64 vw1.Lo], .pointer (some ⟨b5, 0, none⟩), iV vw1.Hi, (j43 0), (j43 1), (j43 2), .pointer (some ⟨b19, 0, none⟩), iV x44, .int .u64 (u64 (x44)), iV d2, .int .u64 (u64 (d2)), .bool false, .tuple #[.int .u64 vt59, .int .u64 vt60], .pointer (some ⟨b19, 0, none⟩), iV x44, .int .u64 (u64 (x44)), .pointer (some ⟨b19, 1, none⟩), .int .u64 x45, iV d2, .int .u64 (u64 (d2)), .tuple #[.int .u64 vt59, .int .u64 vt60], .int .u64 vt59, .int .u64 vt60, .pointer (some ⟨b5, 0, none⟩), iV vw1.Hi, .bool true, .int .u64 vt60, (j84 0), (j84 1), (j84 2), uV, uV, uV, uV, uV, uV, uV, uV, uV, uV, uV, uV, uV, uV, uV, uV, uV, uV, uV], []⟩ → K68 a_ W82 := by
            intro f80 most85 j84 W82 a_ L81 hj88 HS83  hfr_; subst hfr_
            injection hj88 with hj88; subst hj88; try dsimp only at h
            exact J96 f80 most85 (fun i_ => [Value.bool true, Value.int .u64 vt60, (j84 0), (j84 1), (j84 2)].getD i_ undef) W82 _ L81 h HS83 (by kernel_rfl)
          clear h; have h := hv86; clear hv86
          have hq_ := ite_some h; clear h; rcases hq_ with ⟨c79, h⟩ | ⟨c79, h⟩
          · have c79 : vt60 > 0 := c79
            refine wpRwI 39 (x := (decide (vt60 > 0))) (v := true) (by kernel_rfl) (decide_eq_true c79) ?_
            refine condT (by kernel_rfl) ?_
            refine wp_region_lit ?_
            refine seqS3 (a' := ⟨#[.agg #[iV vw1.Hi, .int .u64 vw1.Lo], iV d2, .pointer (some ⟨b5, 0, none⟩), uV, iV 0, iV 0, .pointer (some ⟨b19, 0, none⟩), .int .u64 vt59, .int .u64 vt60, .int .u64 (u64 (9223372036854775808 - 1)), iV d2, .bool false, .agg #[iV vw1.Hi, .int .u64 vw1.Lo], .pointer (some ⟨b5, 0, none⟩), iV vw1.Hi, (j43 0), (j43 1), (j43 2), .pointer (some ⟨b19, 0, none⟩), iV x44, .int .u64 (u64 (x44)), iV d2, .int .u64 (u64 (d2)), .bool false, .tuple #[.int .u64 vt59, .int .u64 vt60], .pointer (some ⟨b19, 0, none⟩), iV x44, .int .u64 (u64 (x44)), .pointer (some ⟨b19, 1, none⟩), .int .u64 x45, iV d2, .int .u64 (u64 (d2)), .tuple #[.int .u64 vt59, .int .u64 vt60], .int .u64 vt59, .int .u64 vt60, .pointer (some ⟨b5, 0, none⟩), iV vw1.Hi, .bool true, .int .u64 vt60, .bool true, .int .u64 9223372036854775808, .int .u64 (u64 (9223372036854775808 - 1)), uV, uV, uV, uV, uV, uV, uV, uV, uV, uV, uV, uV, uV, uV, uV, uV, uV, uV, uV], []⟩) (by kernel_rfl) ?_
            refine wpList_nil ?_
            exact J87 f62 (u64 (9223372036854775808 - 1)) (fun i_ => [Value.bool true, Value.int .u64 9223372036854775808, Value.int .u64 (u64 (9223372036854775808 - 1))].getD i_ undef) W64 _ (FM.le.refl _) h HS65 (by kernel_rfl)
          · have c79 : ¬ (vt60 > 0) := c79
            refine wpRwI 39 (x := (decide (vt60 > 0))) (v := false) (by kernel_rfl) (decide_eq_false c79) ?_
            refine condF (by kernel_rfl) ?_
            refine wp_skip ?_
            exact J87 f62 9223372036854775808 (fun i_ => [Value.bool false, undef, undef].getD i_ undef) W64 _ (FM.le.refl _) h HS65 (by kernel_rfl)
        · have c73 : ¬ (vw1.Hi < 0) := c73
          refine wpRwI 37 (x := (decide (vw1.Hi < 0))) (v := false) (by kernel_rfl) (decide_eq_false c73) ?_
          refine condF (by kernel_rfl) ?_
          refine wp_skip ?_
          exact J96 f62 9223372036854775807 (fun i_ => [Value.bool false, undef, undef, undef, undef].getD i_ undef) W64 _ (FM.le.refl _) h HS65 (by kernel_rfl)
    clear h; have h := hv46; clear hv46
    have hq_ := ite_some h; clear h; rcases hq_ with ⟨c30, h⟩ | ⟨c30, h⟩
    · have c30 : vw1.Hi < 0 := c30
      refine wpRwI 15 (x := (decide (vw1.Hi < 0))) (v := true) (by kernel_rfl) (decide_eq_true c30) ?_
      refine condT (by kernel_rfl) ?_
      refine wp_region_lit ?_
      refine seqK rfl (does_run (run_loadN (n := 2) rfl Try.underlying95 rfl (by kernel_rfl) (by kernel_rfl : _ = Value.pointer (some ⟨b5, 0, none⟩)) (cs := [.int .i64 vw1.Hi, .int .u64 vw1.Lo]) rfl (HS24.u1.cells 0 2 _ rfl)) ?_)
      have hq_ := bind_some h; clear h; obtain ⟨vt31, hc32, h⟩ := hq_
      refine seqK rfl (does_call (f := 56) (args := #[.agg #[.int .i64 vw1.Hi, .int .u64 vw1.Lo]]) (by kernel_rfl) (num_Wide_Neg.calls k vw1 HS24 vt31 hc32) ?_)
      rintro _ W35 ⟨f33, rfl, L34, HS36⟩
      refine ⟨_, rfl, ?_⟩
      refine seqK rfl (does_store (n := 2) (vs := [.int .i64 vt31.Hi, .int .u64 vt31.Lo]) (cs' := #[.int .i64 vt31.Hi, .int .u64 vt31.Lo]) rfl (by kernel_rfl) (by kernel_rfl : _ = Value.pointer (some ⟨b19, 0, none⟩)) (by kernel_rfl : _ = Value.agg #[.int .i64 vt31.Hi, .int .u64 vt31.Lo]) rfl rfl (by intro u_ hu_; simp only [List.mem_cons, List.not_mem_nil, or_false] at hu_; rcases hu_ with rfl | rfl <;> rfl) HS36 (Nat.le_of_ble_eq_true rfl) (by kernel_rfl) ?_)
      intro W37 HS38
      refine wpList_nil ?_
      exact J47 f33 vt31.Hi vt31.Lo (fun i_ => [Value.bool true, Value.agg #[.int .i64 vw1.Hi, .int .u64 vw1.Lo], Value.agg #[.int .i64 vt31.Hi, .int .u64 vt31.Lo]].getD i_ undef) W37 _ L34 h HS38 (by kernel_rfl)
    · have c30 : ¬ (vw1.Hi < 0) := c30
      refine wpRwI 15 (x := (decide (vw1.Hi < 0))) (v := false) (by kernel_rfl) (decide_eq_false c30) ?_
      refine condF (by kernel_rfl) ?_
      refine wp_skip ?_
      exact J47 f vw1.Hi vw1.Lo (fun i_ => [Value.bool false, undef, undef].getD i_ undef) W23 _ (FM.le.refl _) h HS24 (by kernel_rfl)

set_option maxRecDepth 100000 in
set_option maxHeartbeats 4000000 in
theorem num_MulDiv.calls (k : Nat)  (a1 : Int) (b2 : Int) (c3 : Int) {t w : World} {f : FM} {H : List Seg} (HS : St t w f (H)) (r1 : Int) (r2 : Int) (h : num_MulDiv k a1 b2 c3 = some (r1, r2)) :
    Calls Try.prog 29 #[.int .i64 a1, .int .i64 b2, .int .i64 c3] w (fun e w' => ∃ (g : FM), e = .returned (Value.tuple #[.int .i64 r1, .int .i64 r2]) ∧ FM.le f g ∧ St t w' g (H)) := by
  unfold num_MulDiv at h
  refine enter Try.func29 rfl (tm := #[iV a1, iV b2, iV c3, uV, uV, uV, uV, uV, uV, uV, uV, uV, uV, uV, uV]) (by kernel_rfl) ?_
  intro B hret hnor hnp
  refine wp_seq_k (fun K4 hK5 => ?_)
  refine wp_region_lit ?_
  refine seqS2 (a' := ⟨#[iV a1, iV b2, iV c3, uV, uV, uV, iV 0, iV 0, uV, uV, uV, uV, uV, uV, uV], []⟩) (by kernel_rfl) ?_
  refine wpList_nil ?_
  refine hK5 _ _ ?_
  refine wp_seq_k (fun K6 hK7 => ?_)
  refine wp_region_lit ?_
  have hq_ := bind_some h; clear h; obtain ⟨vt8, hc9, h⟩ := hq_
  refine seqL2 (by kernel_rfl) ?_
  refine seqK rfl (does_call (f := 45) (args := #[.int .i64 a1, .int .i64 b2]) (by kernel_rfl) (num_Product.calls k a1 b2 HS vt8 hc9) ?_)
  rintro _ W12 ⟨f10, rfl, L11, HS13⟩
  refine ⟨_, rfl, ?_⟩
  have hq_ := bind_some h; clear h; obtain ⟨⟨vt14, vt15⟩, hc16, h⟩ := hq_
  refine seqL1 (by kernel_rfl) ?_
  refine seqK rfl (does_call (f := 46) (args := #[.agg #[.int .i64 vt8.Hi, .int .u64 vt8.Lo], .int .i64 c3]) (by kernel_rfl) (num_Wide_Div.calls k vt8 c3 HS13 vt14 vt15 hc16) ?_)
  rintro _ W19 ⟨f17, rfl, L18, HS20⟩
  refine ⟨_, rfl, ?_⟩
  refine seqS4 (a' := ⟨#[iV a1, iV b2, iV c3, uV, uV, uV, iV vt14, iV vt15, iV a1, iV b2, .agg #[iV vt8.Hi, .int .u64 vt8.Lo], iV c3, .tuple #[iV vt14, iV vt15], iV vt14, iV vt15], []⟩) (by kernel_rfl) ?_
  refine wpList_nil ?_
  refine hK7 _ _ ?_
  refine wp_ret ?_
  refine hret _ _ ?_
  refine ends_still (v := Value.tuple #[.int .i64 vt14, .int .i64 vt15]) (by kernel_rfl) (by kernel_rfl) ?_
  injection h with h
  injection h with h0_ h
  subst h0_ h
  exact ⟨f17, rfl, (L11.trans L18), HS20⟩

set_option maxRecDepth 100000 in
set_option maxHeartbeats 4000000 in
theorem sky_Pull_1.calls (k : Nat) (b1 : Nat) (v3 : Int) (x4 : Int) {t w : World} {f : FM} {H : List Seg} (HS : St t w f ([(b1, .cells #[.int .i64 v3] 2 (0, 0))] :: H)) (r1 : Int) (h : sky_Pull_1 k v3 x4 = some r1) :
    Calls Try.prog 28 #[.int .i64 x4, .pointer (some ⟨b1, 0, none⟩)] w (fun e w' => ∃ (g : FM), e = .returned (Value.int .i64 r1) ∧ FM.le f g ∧ St t w' g ([(b1, .cells #[.int .i64 v3] 2 (0, 0))] :: H)) := by
  unfold sky_Pull_1 at h
  refine enter Try.func28 rfl (tm := #[iV x4, .pointer (some ⟨b1, 0, none⟩), uV, uV, uV, uV, uV, uV, uV, uV, uV, uV, uV, uV, uV, uV, uV, uV, uV, uV, uV, uV, uV, uV, uV]) (by kernel_rfl) ?_
  intro B hret hnor hnp
  refine wp_seq_k (fun K5 hK6 => ?_)
  refine wp_region_lit ?_
  refine seqS1 (a' := ⟨#[iV x4, .pointer (some ⟨b1, 0, none⟩), uV, iV 0, uV, uV, uV, uV, uV, uV, uV, uV, uV, uV, uV, uV, uV, uV, uV, uV, uV, uV, uV, uV, uV], []⟩) (by kernel_rfl) ?_
  refine wpList_nil ?_
  refine hK6 _ _ ?_
  refine wp_seq_k (fun K7 hK8 => ?_)
  refine wp_region_lit ?_
  refine seqL4 (by kernel_rfl) ?_
  refine seqK rfl (does_run (run_load rfl Try.underlying2 rfl (by kernel_rfl : _ = Value.pointer (some ⟨b1, 0, none⟩)) (HS.cell 0)) ?_)
  have hq_ := bind_some h; clear h; obtain ⟨⟨vt9, vt10⟩, hc11, h⟩ := hq_
  refine seqK rfl (does_call (f := 29) (args := #[.int .i64 9007199254740992, .int .i64 (mx x4 (w64 (0 - x4))), .int .i64 v3]) (by kernel_rfl) (num_MulDiv.calls k 9007199254740992 (mx x4 (w64 (0 - x4))) v3 HS vt9 vt10 hc11) ?_)
  rintro _ W14 ⟨f12, rfl, L13, HS15⟩
  refine ⟨_, rfl, ?_⟩
  refine seqS5 (a' := ⟨#[iV x4, .pointer (some ⟨b1, 0, none⟩), uV, iV 0, iV vt9, iV vt10, .tuple #[iV vt9, iV vt10], iV x4, iV x4, iV (w64 (0 - x4)), iV (mx x4 (w64 (0 - x4))), iV v3, .tuple #[iV vt9, iV vt10], iV vt9, iV vt10, uV, uV, uV, uV, uV, uV, uV, uV, uV, uV], []⟩) (by kernel_rfl) ?_
  refine wpList_nil ?_
  refine hK8 _ _ ?_
  refine wp_seq_k (fun K16 hK17 => ?_)
  refine wp_region_lit ?_
  refine seqL1 (by kernel_rfl) ?_
  refine seqK rfl (does_run (run_load rfl Try.underlying2 rfl (by kernel_rfl : _ = Value.pointer (some ⟨b1, 0, none⟩)) (HS15.cell 0)) ?_)
  refine seqK rfl (does_run (run_load rfl Try.underlying2 rfl (by kernel_rfl : _ = Value.pointer (some ⟨b1, 0, none⟩)) (HS15.cell 0)) ?_)
  have hq_ := guard_some h; clear h; obtain ⟨c18, h⟩ := hq_
  have c18 : ¬ ((w64 (v3 * v3)) = 0) := c18
  refine seqL1 (by kernel_rfl) ?_
  refine seqK rfl (does_run (run_div rfl (by kernel_rfl : _ = Value.int .i64 vt9) (by kernel_rfl : _ = Value.int .i64 (w64 (v3 * v3))) c18 W14) ?_)
  refine seqS1 (a' := ⟨#[iV x4, .pointer (some ⟨b1, 0, none⟩), uV, iV 0, iV (w64 (Int.tdiv vt9 (w64 (v3 * v3)))), iV vt10, .tuple #[iV vt9, iV vt10], iV x4, iV x4, iV (w64 (0 - x4)), iV (mx x4 (w64 (0 - x4))), iV v3, .tuple #[iV vt9, iV vt10], iV vt9, iV vt10, iV vt9, iV v3, iV v3, iV (w64 (v3 * v3)), iV (w64 (Int.tdiv vt9 (w64 (v3 * v3)))), uV, uV, uV, uV, uV], []⟩) (by kernel_rfl) ?_
  refine wpList_nil ?_
  refine hK17 _ _ ?_
  refine wp_seq_k (fun K19 hK20 => ?_)
  refine wp_seq_k (fun K21 hK22 => ?_)
  refine wp_region_lit ?_
  refine seqS2 (a' := ⟨#[iV x4, .pointer (some ⟨b1, 0, none⟩), uV, iV 0, iV (w64 (Int.tdiv vt9 (w64 (v3 * v3)))), iV vt10, .tuple #[iV vt9, iV vt10], iV x4, iV x4, iV (w64 (0 - x4)), iV (mx x4 (w64 (0 - x4))), iV v3, .tuple #[iV vt9, iV vt10], iV vt9, iV vt10, iV vt9, iV v3, iV v3, iV (w64 (v3 * v3)), iV (w64 (Int.tdiv vt9 (w64 (v3 * v3)))), iV x4, .bool (decide (x4 > 0)), uV, uV, uV], []⟩) (by kernel_rfl) ?_
  refine wpList_nil ?_
  refine hK22 _ _ ?_
  have hq_ := ite_some h; clear h; rcases hq_ with ⟨c24, h⟩ | ⟨c24, h⟩
  · have c24 : x4 > 0 := c24
    refine wpRwI 21 (x := (decide (x4 > 0))) (v := true) (by kernel_rfl) (decide_eq_true c24) ?_
    refine condT (by kernel_rfl) ?_
    refine wp_seq_k (fun K25 hK26 => ?_)
    refine wp_region_lit ?_
    refine seqS3 (a' := ⟨#[iV x4, .pointer (some ⟨b1, 0, none⟩), uV, iV (w64 (0 - (w64 (Int.tdiv vt9 (w64 (v3 * v3)))))), iV (w64 (Int.tdiv vt9 (w64 (v3 * v3)))), iV vt10, .tuple #[iV vt9, iV vt10], iV x4, iV x4, iV (w64 (0 - x4)), iV (mx x4 (w64 (0 - x4))), iV v3, .tuple #[iV vt9, iV vt10], iV vt9, iV vt10, iV vt9, iV v3, iV v3, iV (w64 (v3 * v3)), iV (w64 (Int.tdiv vt9 (w64 (v3 * v3)))), iV x4, .bool true, iV (w64 (Int.tdiv vt9 (w64 (v3 * v3)))), iV (w64 (0 - (w64 (Int.tdiv vt9 (w64 (v3 * v3)))))), uV], []⟩) (by kernel_rfl) ?_
    refine wpList_nil ?_
    refine hK26 _ _ ?_
    refine wp_ret ?_
    refine hret _ _ ?_
    refine ends_still (v := Value.int .i64 (w64 (0 - (w64 (Int.tdiv vt9 (w64 (v3 * v3))))))) (by kernel_rfl) (by kernel_rfl) ?_
    injection h with h
    subst h
    exact ⟨f12, rfl, L13, HS15⟩
  · have c24 : ¬ (x4 > 0) := c24
    refine wpRwI 21 (x := (decide (x4 > 0))) (v := false) (by kernel_rfl) (decide_eq_false c24) ?_
    refine condF (by kernel_rfl) ?_
    refine wp_skip ?_
    refine hK20 _ _ ?_
    refine wp_seq_k (fun K27 hK28 => ?_)
    refine wp_region_lit ?_
    refine seqS2 (a' := ⟨#[iV x4, .pointer (some ⟨b1, 0, none⟩), uV, iV (w64 (Int.tdiv vt9 (w64 (v3 * v3)))), iV (w64 (Int.tdiv vt9 (w64 (v3 * v3)))), iV vt10, .tuple #[iV vt9, iV vt10], iV x4, iV x4, iV (w64 (0 - x4)), iV (mx x4 (w64 (0 - x4))), iV v3, .tuple #[iV vt9, iV vt10], iV vt9, iV vt10, iV vt9, iV v3, iV v3, iV (w64 (v3 * v3)), iV (w64 (Int.tdiv vt9 (w64 (v3 * v3)))), iV x4, .bool false, uV, uV, iV (w64 (Int.tdiv vt9 (w64 (v3 * v3))))], []⟩) (by kernel_rfl) ?_
    refine wpList_nil ?_
    refine hK28 _ _ ?_
    refine wp_ret ?_
    refine hret _ _ ?_
    refine ends_still (v := Value.int .i64 (w64 (Int.tdiv vt9 (w64 (v3 * v3))))) (by kernel_rfl) (by kernel_rfl) ?_
    injection h with h
    subst h
    exact ⟨f12, rfl, L13, HS15⟩

set_option maxRecDepth 100000 in
set_option maxHeartbeats 4000000 in
theorem sky_Pull.calls (k : Nat)  (vat1 : S_Vec) {t w : World} {f : FM} {H : List Seg} (HS : St t w f (H)) (r1 : S_Vec) (h : sky_Pull k vat1 = some r1) :
    Calls Try.prog 10 #[.agg #[.int .i64 vat1.X, .int .i64 vat1.Y, .int .i64 vat1.Z]] w (fun e w' => ∃ (g : FM), e = .returned (Value.agg #[.int .i64 r1.X, .int .i64 r1.Y, .int .i64 r1.Z]) ∧ FM.le f g ∧ St t w' g (H)) := by
  unfold sky_Pull at h
  refine enter Try.func10 rfl (tm := #[.agg #[iV vat1.X, iV vat1.Y, iV vat1.Z], uV, uV, uV, uV, uV, uV, uV, uV, uV, uV, uV, uV, uV, uV, uV, uV, uV, uV, uV, uV, uV, uV, uV, uV, uV, uV, uV, uV, uV, uV, uV, uV, uV, uV, uV, uV, uV, uV, uV, uV, uV, uV, uV]) (by kernel_rfl) ?_
  intro B hret hnor hnp
  refine wp_seq_k (fun K2 hK3 => ?_)
  refine wp_region_lit ?_
  refine seqK rfl (does_box (cs := #[.int .i64 vat1.X, .int .i64 vat1.Y, .int .i64 vat1.Z]) rfl (by kernel_rfl : _ = Value.agg #[.int .i64 vat1.X, .int .i64 vat1.Y, .int .i64 vat1.Z]) rfl HS ?_)
  intro b4 W5 HS6
  refine seqK rfl (does_alloc (z := Value.agg #[.int .i64 0, .int .i64 0, .int .i64 0]) (cs := #[.int .i64 0, .int .i64 0, .int .i64 0]) rfl (by kernel_rfl) rfl HS6 ?_)
  intro b8 W9 HS10
  refine wpList_nil ?_
  refine hK3 _ _ ?_
  refine wp_seq_k (fun K12 hK13 => ?_)
  refine wp_seq_k (fun K14 hK15 => ?_)
  refine wp_region_lit ?_
  refine seqK rfl (does_run (run_loadN (n := 3) rfl Try.underlying23 rfl (by kernel_rfl) (by kernel_rfl : _ = Value.pointer (some ⟨b4, 0, none⟩)) (cs := [.int .i64 vat1.X, .int .i64 vat1.Y, .int .i64 vat1.Z]) rfl (HS10.u1.cells 0 3 _ rfl)) ?_)
  have hq_ := bind_some h; clear h; obtain ⟨vt16, hc17, h⟩ := hq_
  refine seqK rfl (does_call (f := 26) (args := #[.agg #[.int .i64 vat1.X, .int .i64 vat1.Y, .int .i64 vat1.Z], .int .i64 4194304]) (by kernel_rfl) (sky_within.calls k vat1 4194304 HS10 vt16 hc17) ?_)
  rintro _ W20 ⟨f18, rfl, L19, HS21⟩
  refine ⟨_, rfl, ?_⟩
  refine seqS1 (a' := ⟨#[.agg #[iV vat1.X, iV vat1.Y, iV vat1.Z], .pointer (some ⟨b4, 0, none⟩), .pointer (some ⟨b8, 0, none⟩), uV, uV, .agg #[iV vat1.X, iV vat1.Y, iV vat1.Z], .bool vt16, .bool (!vt16), uV, uV, uV, uV, uV, uV, uV, uV, uV, uV, uV, uV, uV, uV, uV, uV, uV, uV, uV, uV, uV, uV, uV, uV, uV, uV, uV, uV, uV, uV, uV, uV, uV, uV, uV, uV], []⟩) (by kernel_rfl) ?_
  refine wpList_nil ?_
  refine hK15 _ _ ?_
  have hq_ := ite_some h; clear h; rcases hq_ with ⟨c23, h⟩ | ⟨c23, h⟩
  · have c23 : ¬ (vt16 = true) := c23
    refine wpRwI 7 (x := (!vt16)) (v := true) (by kernel_rfl) (congrArg (fun b_ => !b_) (show vt16 = false from (Bool.eq_false_iff.mpr c23)) : (!vt16) = true) ?_
    refine condT (by kernel_rfl) ?_
    refine wp_seq_k (fun K24 hK25 => ?_)
    refine wp_region_lit ?_
    refine seqL1 (by kernel_rfl) ?_
    refine seqK rfl (does_store (n := 3) (vs := [.int .i64 0, .int .i64 0, .int .i64 0]) (cs' := #[.int .i64 0, .int .i64 0, .int .i64 0]) rfl (by kernel_rfl) (by kernel_rfl : _ = Value.pointer (some ⟨b8, 0, none⟩)) (by kernel_rfl : _ = Value.agg #[.int .i64 0, .int .i64 0, .int .i64 0]) rfl rfl (by intro u_ hu_; simp only [List.mem_cons, List.not_mem_nil, or_false] at hu_; rcases hu_ with rfl | rfl | rfl <;> rfl) HS21 (Nat.le_of_ble_eq_true rfl) (by kernel_rfl) ?_)
    intro W26 HS27
    refine wpList_nil ?_
    refine hK25 _ _ ?_
    refine wp_ret ?_
    refine hret _ _ ?_
    refine ends (v := Value.agg #[.int .i64 0, .int .i64 0, .int .i64 0]) (results1 (q1 := .cell 2 23) (by kernel_rfl) (resN (n := 3) (cs := [.int .i64 0, .int .i64 0, .int .i64 0]) (by kernel_rfl : _ = Value.pointer (some ⟨b8, 0, none⟩)) Try.underlying23 rfl (by kernel_rfl) rfl (HS27.cells 0 3 _ rfl))) (by kernel_rfl) ?_
    have HS94 := HS27.drop
    have HS95 := HS94.drop
    injection h with h
    subst h
    exact ⟨f18, rfl, L19, HS95⟩
  · have c23 : ¬ (¬ (vt16 = true)) := c23
    refine wpRwI 7 (x := (!vt16)) (v := false) (by kernel_rfl) (congrArg (fun b_ => !b_) (show vt16 = true from (Decidable.of_not_not c23)) : (!vt16) = false) ?_
    refine condF (by kernel_rfl) ?_
    refine wp_skip ?_
    refine hK13 _ _ ?_
    refine wp_seq_k (fun K28 hK29 => ?_)
    refine wp_region_lit ?_
    refine seqL1 (by kernel_rfl) ?_
    refine seqK rfl (does_run (run_load rfl Try.underlying2 rfl (by kernel_rfl : _ = Value.pointer (some ⟨b4, 0, none⟩)) (HS21.u1.cell 0)) ?_)
    refine seqL1 (by kernel_rfl) ?_
    refine seqK rfl (does_run (run_load rfl Try.underlying2 rfl (by kernel_rfl : _ = Value.pointer (some ⟨b4, 0, none⟩)) (HS21.u1.cell 0)) ?_)
    refine seqL2 (by kernel_rfl) ?_
    refine seqK rfl (does_run (run_load rfl Try.underlying2 rfl (by kernel_rfl : _ = Value.pointer (some ⟨b4, 1, none⟩)) (HS21.u1.cell 1)) ?_)
    refine seqL1 (by kernel_rfl) ?_
    refine seqK rfl (does_run (run_load rfl Try.underlying2 rfl (by kernel_rfl : _ = Value.pointer (some ⟨b4, 1, none⟩)) (HS21.u1.cell 1)) ?_)
    refine seqL3 (by kernel_rfl) ?_
    refine seqK rfl (does_run (run_load rfl Try.underlying2 rfl (by kernel_rfl : _ = Value.pointer (some ⟨b4, 2, none⟩)) (HS21.u1.cell 2)) ?_)
    refine seqL1 (by kernel_rfl) ?_
    refine seqK rfl (does_run (run_load rfl Try.underlying2 rfl (by kernel_rfl : _ = Value.pointer (some ⟨b4, 2, none⟩)) (HS21.u1.cell 2)) ?_)
    have hq_ := bind_some h; clear h; obtain ⟨vt30, hc31, h⟩ := hq_
    refine seqL2 (by kernel_rfl) ?_
    refine seqK rfl (does_call (f := 27) (args := #[.int .i64 (w64 ((w64 ((w64 (vat1.X * vat1.X)) + (w64 (vat1.Y * vat1.Y)))) + (w64 (vat1.Z * vat1.Z))))]) (by kernel_rfl) (num_Sqrt.calls k (w64 ((w64 ((w64 (vat1.X * vat1.X)) + (w64 (vat1.Y * vat1.Y)))) + (w64 (vat1.Z * vat1.Z)))) HS21 vt30 hc31) ?_)
    rintro _ W34 ⟨f32, rfl, L33, HS35⟩
    refine ⟨_, rfl, ?_⟩
    refine seqK rfl (does_alloc (z := Value.int .i64 0) (cs := #[.int .i64 0]) rfl (by kernel_rfl) rfl HS35 ?_)
    intro b36 W37 HS38
    refine seqK rfl (does_store (n := 1) (vs := [.int .i64 vt30]) (cs' := #[.int .i64 vt30]) rfl (by kernel_rfl) (by kernel_rfl : _ = Value.pointer (some ⟨b36, 0, none⟩)) (by kernel_rfl : _ = Value.int .i64 vt30) rfl rfl (by intro u_ hu_; simp only [List.mem_cons, List.not_mem_nil, or_false] at hu_; subst hu_; rfl) HS38 (Nat.le_of_ble_eq_true rfl) (by kernel_rfl) ?_)
    intro W40 HS41
    refine wpList_nil ?_
    refine hK29 _ _ ?_
    refine wp_seq_k (fun K42 hK43 => ?_)
    refine wp_seq_k (fun K44 hK45 => ?_)
    refine wp_region_lit ?_
    refine seqK rfl (does_run (run_load rfl Try.underlying2 rfl (by kernel_rfl : _ = Value.pointer (some ⟨b36, 0, none⟩)) (HS41.cell 0)) ?_)
    refine seqS1 (a' := ⟨#[.agg #[iV vat1.X, iV vat1.Y, iV vat1.Z], .pointer (some ⟨b4, 0, none⟩), .pointer (some ⟨b8, 0, none⟩), .pointer (some ⟨b36, 0, none⟩), uV, .agg #[iV vat1.X, iV vat1.Y, iV vat1.Z], .bool vt16, .bool false, uV, .pointer (some ⟨b4, 0, none⟩), iV vat1.X, .pointer (some ⟨b4, 0, none⟩), iV vat1.X, iV (w64 (vat1.X * vat1.X)), .pointer (some ⟨b4, 1, none⟩), iV vat1.Y, .pointer (some ⟨b4, 1, none⟩), iV vat1.Y, iV (w64 (vat1.Y * vat1.Y)), iV (w64 ((w64 (vat1.X * vat1.X)) + (w64 (vat1.Y * vat1.Y)))), .pointer (some ⟨b4, 2, none⟩), iV vat1.Z, .pointer (some ⟨b4, 2, none⟩), iV vat1.Z, iV (w64 (vat1.Z * vat1.Z)), iV (w64 ((w64 ((w64 (vat1.X * vat1.X)) + (w64 (vat1.Y * vat1.Y)))) + (w64 (vat1.Z * vat1.Z)))), iV vt30, iV vt30, .bool (decide (vt30 < 65536)), uV, uV, uV, uV, uV, uV, uV, uV, uV, uV, uV, uV, uV, uV, uV], []⟩) (by kernel_rfl) ?_
    refine wpList_nil ?_
    refine hK45 _ _ ?_
    have hq_ := ite_some h; clear h; rcases hq_ with ⟨c47, h⟩ | ⟨c47, h⟩
    · have c47 : vt30 < 65536 := c47
      refine wpRwI 28 (x := (decide (vt30 < 65536))) (v := true) (by kernel_rfl) (decide_eq_true c47) ?_
      refine condT (by kernel_rfl) ?_
      refine wp_seq_k (fun K48 hK49 => ?_)
      refine wp_region_lit ?_
      have HS50 := HS41.u1
      refine seqL1 (by kernel_rfl) ?_
      refine seqK rfl (does_store (n := 3) (vs := [.int .i64 0, .int .i64 0, .int .i64 0]) (cs' := #[.int .i64 0, .int .i64 0, .int .i64 0]) rfl (by kernel_rfl) (by kernel_rfl : _ = Value.pointer (some ⟨b8, 0, none⟩)) (by kernel_rfl : _ = Value.agg #[.int .i64 0, .int .i64 0, .int .i64 0]) rfl rfl (by intro u_ hu_; simp only [List.mem_cons, List.not_mem_nil, or_false] at hu_; rcases hu_ with rfl | rfl | rfl <;> rfl) HS50 (Nat.le_of_ble_eq_true rfl) (by kernel_rfl) ?_)
      intro W51 HS52
      refine wpList_nil ?_
      refine hK49 _ _ ?_
      refine wp_ret ?_
      refine hret _ _ ?_
      refine ends (v := Value.agg #[.int .i64 0, .int .i64 0, .int .i64 0]) (results1 (q1 := .cell 2 23) (by kernel_rfl) (resN (n := 3) (cs := [.int .i64 0, .int .i64 0, .int .i64 0]) (by kernel_rfl : _ = Value.pointer (some ⟨b8, 0, none⟩)) Try.underlying23 rfl (by kernel_rfl) rfl (HS52.cells 0 3 _ rfl))) (by kernel_rfl) ?_
      have HS96 := HS52.drop
      have HS97 := HS96.drop
      have HS98 := HS97.drop
      injection h with h
      subst h
      exact ⟨f32, rfl, (L19.trans L33), HS98⟩
    · have c47 : ¬ (vt30 < 65536) := c47
      refine wpRwI 28 (x := (decide (vt30 < 65536))) (v := false) (by kernel_rfl) (decide_eq_false c47) ?_
      refine condF (by kernel_rfl) ?_
      refine wp_skip ?_
      refine hK43 _ _ ?_
      refine wp_seq_k (fun K53 hK54 => ?_)
      refine wp_region_lit ?_
      refine seqS2 (a' := ⟨#[.agg #[iV vat1.X, iV vat1.Y, iV vat1.Z], .pointer (some ⟨b4, 0, none⟩), .pointer (some ⟨b8, 0, none⟩), .pointer (some ⟨b36, 0, none⟩), .func (.func 28) #[] #[.pointer (some ⟨b36, 0, none⟩)], .agg #[iV vat1.X, iV vat1.Y, iV vat1.Z], .bool vt16, .bool false, uV, .pointer (some ⟨b4, 0, none⟩), iV vat1.X, .pointer (some ⟨b4, 0, none⟩), iV vat1.X, iV (w64 (vat1.X * vat1.X)), .pointer (some ⟨b4, 1, none⟩), iV vat1.Y, .pointer (some ⟨b4, 1, none⟩), iV vat1.Y, iV (w64 (vat1.Y * vat1.Y)), iV (w64 ((w64 (vat1.X * vat1.X)) + (w64 (vat1.Y * vat1.Y)))), .pointer (some ⟨b4, 2, none⟩), iV vat1.Z, .pointer (some ⟨b4, 2, none⟩), iV vat1.Z, iV (w64 (vat1.Z * vat1.Z)), iV (w64 ((w64 ((w64 (vat1.X * vat1.X)) + (w64 (vat1.Y * vat1.Y)))) + (w64 (vat1.Z * vat1.Z)))), iV vt30, iV vt30, .bool false, uV, .func (.func 28) #[] #[.pointer (some ⟨b36, 0, none⟩)], uV, uV, uV, uV, uV, uV, uV, uV, uV, uV, uV, uV, uV], []⟩) (by kernel_rfl) ?_
      refine wpList_nil ?_
      refine hK54 _ _ ?_
      refine wp_seq_k (fun K55 hK56 => ?_)
      have HS57 := HS41.u2
      have HS58 := HS57.u1
      have HS59 := HS58.u2
      refine heldG (S := Sg t f32 ([(b36, .cells #[.int .i64 vt30] 2 (0, 0))] :: [(b4, .cells #[.int .i64 vat1.X, .int .i64 vat1.Y, .int .i64 vat1.Z] 23 (0, 0))] :: H) [(13, [(b8, .cells #[.int .i64 0, .int .i64 0, .int .i64 0] 23 (0, 0))])]) (n := 14) (by kernel_rfl) rfl HS59 ?_
      intro W60 HS61
      refine takeG [0, 1] (n := 14) (fuel := 12) (l' := #[true, true, false, false, false, false, false, false, false, false, false, false, false, false]) (a' := ⟨#[.agg #[iV vat1.X, iV vat1.Y, iV vat1.Z], .pointer (some ⟨b4, 0, none⟩), .pointer (some ⟨b8, 0, none⟩), .pointer (some ⟨b36, 0, none⟩), .func (.func 28) #[] #[.pointer (some ⟨b36, 0, none⟩)], .agg #[iV vat1.X, iV vat1.Y, iV vat1.Z], .bool vt16, .bool false, uV, .pointer (some ⟨b4, 0, none⟩), iV vat1.X, .pointer (some ⟨b4, 0, none⟩), iV vat1.X, iV (w64 (vat1.X * vat1.X)), .pointer (some ⟨b4, 1, none⟩), iV vat1.Y, .pointer (some ⟨b4, 1, none⟩), iV vat1.Y, iV (w64 (vat1.Y * vat1.Y)), iV (w64 ((w64 (vat1.X * vat1.X)) + (w64 (vat1.Y * vat1.Y)))), .pointer (some ⟨b4, 2, none⟩), iV vat1.Z, .pointer (some ⟨b4, 2, none⟩), iV vat1.Z, iV (w64 (vat1.Z * vat1.Z)), iV (w64 ((w64 ((w64 (vat1.X * vat1.X)) + (w64 (vat1.Y * vat1.Y)))) + (w64 (vat1.Z * vat1.Z)))), iV vt30, iV vt30, .bool false, uV, .func (.func 28) #[] #[.pointer (some ⟨b36, 0, none⟩)], .func (.func 28) #[] #[.pointer (some ⟨b36, 0, none⟩)], .pointer (some ⟨b4, 0, none⟩), uV, uV, uV, uV, uV, uV, uV, uV, uV, uV, uV], []⟩) rfl (by kernel_rfl) (by kernel_rfl) (by kernel_rfl) hnp (Sg.g1 (Sx.of [[(b8, .cells #[.int .i64 0, .int .i64 0, .int .i64 0] 23 (0, 0))]] (FM.le.refl _) HS61) (fun _ => St.only [] HS61 (FM.le.refl _))) ?_
      refine takeGQ 2 [] rfl (by kernel_rfl) (by kernel_rfl) (by kernel_rfl) (by kernel_rfl) (by kernel_rfl) (by kernel_rfl) hnp (Sg.g1 (Sx.of [[(b8, .cells #[.int .i64 0, .int .i64 0, .int .i64 0] 23 (0, 0))]] (FM.le.refl _) HS61) (fun _ => St.only [] HS61 (FM.le.refl _))) (fun w_ hw_ => by obtain ⟨g_, hl_, hS_⟩ := hw_.st; exact run_load rfl Try.underlying2 rfl (by kernel_rfl : _ = Value.pointer (some ⟨b4, 0, none⟩)) (hS_.u1.cell 0)) ?_
      refine takeG [4, 5] (n := 11) (fuel := 9) (l' := #[true, true, true, false, true, true, false, false, false, false, false, false, false, false]) (a' := ⟨#[.agg #[iV vat1.X, iV vat1.Y, iV vat1.Z], .pointer (some ⟨b4, 0, none⟩), .pointer (some ⟨b8, 0, none⟩), .pointer (some ⟨b36, 0, none⟩), .func (.func 28) #[] #[.pointer (some ⟨b36, 0, none⟩)], .agg #[iV vat1.X, iV vat1.Y, iV vat1.Z], .bool vt16, .bool false, uV, .pointer (some ⟨b4, 0, none⟩), iV vat1.X, .pointer (some ⟨b4, 0, none⟩), iV vat1.X, iV (w64 (vat1.X * vat1.X)), .pointer (some ⟨b4, 1, none⟩), iV vat1.Y, .pointer (some ⟨b4, 1, none⟩), iV vat1.Y, iV (w64 (vat1.Y * vat1.Y)), iV (w64 ((w64 (vat1.X * vat1.X)) + (w64 (vat1.Y * vat1.Y)))), .pointer (some ⟨b4, 2, none⟩), iV vat1.Z, .pointer (some ⟨b4, 2, none⟩), iV vat1.Z, iV (w64 (vat1.Z * vat1.Z)), iV (w64 ((w64 ((w64 (vat1.X * vat1.X)) + (w64 (vat1.Y * vat1.Y)))) + (w64 (vat1.Z * vat1.Z)))), iV vt30, iV vt30, .bool false, uV, .func (.func 28) #[] #[.pointer (some ⟨b36, 0, none⟩)], .func (.func 28) #[] #[.pointer (some ⟨b36, 0, none⟩)], .pointer (some ⟨b4, 0, none⟩), iV vat1.X, uV, .func (.func 28) #[] #[.pointer (some ⟨b36, 0, none⟩)], .pointer (some ⟨b4, 1, none⟩), uV, uV, uV, uV, uV, uV, uV], []⟩) rfl (by kernel_rfl) (by kernel_rfl) (by kernel_rfl) hnp (Sg.g1 (Sx.of [[(b8, .cells #[.int .i64 0, .int .i64 0, .int .i64 0] 23 (0, 0))]] (FM.le.refl _) HS61) (fun _ => St.only [] HS61 (FM.le.refl _))) ?_
      refine takeGQ 6 [] rfl (by kernel_rfl) (by kernel_rfl) (by kernel_rfl) (by kernel_rfl) (by kernel_rfl) (by kernel_rfl) hnp (Sg.g1 (Sx.of [[(b8, .cells #[.int .i64 0, .int .i64 0, .int .i64 0] 23 (0, 0))]] (FM.le.refl _) HS61) (fun _ => St.only [] HS61 (FM.le.refl _))) (fun w_ hw_ => by obtain ⟨g_, hl_, hS_⟩ := hw_.st; exact run_load rfl Try.underlying2 rfl (by kernel_rfl : _ = Value.pointer (some ⟨b4, 1, none⟩)) (hS_.u1.cell 1)) ?_
      refine takeG [8, 9] (n := 8) (fuel := 6) (l' := #[true, true, true, false, true, true, true, false, true, true, false, false, false, false]) (a' := ⟨#[.agg #[iV vat1.X, iV vat1.Y, iV vat1.Z], .pointer (some ⟨b4, 0, none⟩), .pointer (some ⟨b8, 0, none⟩), .pointer (some ⟨b36, 0, none⟩), .func (.func 28) #[] #[.pointer (some ⟨b36, 0, none⟩)], .agg #[iV vat1.X, iV vat1.Y, iV vat1.Z], .bool vt16, .bool false, uV, .pointer (some ⟨b4, 0, none⟩), iV vat1.X, .pointer (some ⟨b4, 0, none⟩), iV vat1.X, iV (w64 (vat1.X * vat1.X)), .pointer (some ⟨b4, 1, none⟩), iV vat1.Y, .pointer (some ⟨b4, 1, none⟩), iV vat1.Y, iV (w64 (vat1.Y * vat1.Y)), iV (w64 ((w64 (vat1.X * vat1.X)) + (w64 (vat1.Y * vat1.Y)))), .pointer (some ⟨b4, 2, none⟩), iV vat1.Z, .pointer (some ⟨b4, 2, none⟩), iV vat1.Z, iV (w64 (vat1.Z * vat1.Z)), iV (w64 ((w64 ((w64 (vat1.X * vat1.X)) + (w64 (vat1.Y * vat1.Y)))) + (w64 (vat1.Z * vat1.Z)))), iV vt30, iV vt30, .bool false, uV, .func (.func 28) #[] #[.pointer (some ⟨b36, 0, none⟩)], .func (.func 28) #[] #[.pointer (some ⟨b36, 0, none⟩)], .pointer (some ⟨b4, 0, none⟩), iV vat1.X, uV, .func (.func 28) #[] #[.pointer (some ⟨b36, 0, none⟩)], .pointer (some ⟨b4, 1, none⟩), iV vat1.Y, uV, .func (.func 28) #[] #[.pointer (some ⟨b36, 0, none⟩)], .pointer (some ⟨b4, 2, none⟩), uV, uV, uV], []⟩) rfl (by kernel_rfl) (by kernel_rfl) (by kernel_rfl) hnp (Sg.g1 (Sx.of [[(b8, .cells #[.int .i64 0, .int .i64 0, .int .i64 0] 23 (0, 0))]] (FM.le.refl _) HS61) (fun _ => St.only [] HS61 (FM.le.refl _))) ?_
      refine takeGQ 10 [] rfl (by kernel_rfl) (by kernel_rfl) (by kernel_rfl) (by kernel_rfl) (by kernel_rfl) (by kernel_rfl) hnp (Sg.g1 (Sx.of [[(b8, .cells #[.int .i64 0, .int .i64 0, .int .i64 0] 23 (0, 0))]] (FM.le.refl _) HS61) (fun _ => St.only [] HS61 (FM.le.refl _))) (fun w_ hw_ => by obtain ⟨g_, hl_, hS_⟩ := hw_.st; exact run_load rfl Try.underlying2 rfl (by kernel_rfl : _ = Value.pointer (some ⟨b4, 2, none⟩)) (hS_.u1.cell 2)) ?_
      have HS62 := HS61.u1
      have hq_ := bind_some h; clear h; obtain ⟨vt63, hc64, h⟩ := hq_
      refine takeGE 3 (by kernel_rfl) rfl (by kernel_rfl) (does_call (f := 28) (args := #[.int .i64 vat1.X, .pointer (some ⟨b36, 0, none⟩)]) (by kernel_rfl) (sky_Pull_1.calls k b36 vt30 vat1.X HS62 vt63 hc64) ?_)
      rintro _ W67 ⟨f65, rfl, L66, HS68⟩
      refine ⟨_, rfl, ?_⟩
      have HS69 := HS68.u2
      have HS70 := HS69.u1
      have HS71 := HS70.u2
      refine ⟨(Sg.g1 (Sx.of [[(b8, .cells #[.int .i64 0, .int .i64 0, .int .i64 0] 23 (0, 0))]] L66 HS71) (fun _ => St.only [] HS71 L66)), ?_⟩
      have HS72 := HS71.u1
      have hq_ := bind_some h; clear h; obtain ⟨vt73, hc74, h⟩ := hq_
      refine takeGE 7 (by kernel_rfl) rfl (by kernel_rfl) (does_call (f := 28) (args := #[.int .i64 vat1.Y, .pointer (some ⟨b36, 0, none⟩)]) (by kernel_rfl) (sky_Pull_1.calls k b36 vt30 vat1.Y HS72 vt73 hc74) ?_)
      rintro _ W77 ⟨f75, rfl, L76, HS78⟩
      refine ⟨_, rfl, ?_⟩
      have HS79 := HS78.u2
      have HS80 := HS79.u1
      have HS81 := HS80.u2
      refine ⟨(Sg.g1 (Sx.of [[(b8, .cells #[.int .i64 0, .int .i64 0, .int .i64 0] 23 (0, 0))]] (L66.trans L76) HS81) (fun _ => St.only [] HS81 (L66.trans L76))), ?_⟩
      have HS82 := HS81.u1
      have hq_ := bind_some h; clear h; obtain ⟨vt83, hc84, h⟩ := hq_
      refine takeGE 11 (by kernel_rfl) rfl (by kernel_rfl) (does_call (f := 28) (args := #[.int .i64 vat1.Z, .pointer (some ⟨b36, 0, none⟩)]) (by kernel_rfl) (sky_Pull_1.calls k b36 vt30 vat1.Z HS82 vt83 hc84) ?_)
      rintro _ W87 ⟨f85, rfl, L86, HS88⟩
      refine ⟨_, rfl, ?_⟩
      have HS89 := HS88.u2
      have HS90 := HS89.u1
      have HS91 := HS90.u2
      refine ⟨(Sg.g1 (Sx.of [[(b8, .cells #[.int .i64 0, .int .i64 0, .int .i64 0] 23 (0, 0))]] (L66.trans (L76.trans L86)) HS91) (fun _ => St.only [] HS91 (L66.trans (L76.trans L86)))), ?_⟩
      refine takeG [12] (n := 2) (fuel := 1) (l' := #[true, true, true, true, true, true, true, true, true, true, true, true, true, false]) (a' := ⟨#[.agg #[iV vat1.X, iV vat1.Y, iV vat1.Z], .pointer (some ⟨b4, 0, none⟩), .pointer (some ⟨b8, 0, none⟩), .pointer (some ⟨b36, 0, none⟩), .func (.func 28) #[] #[.pointer (some ⟨b36, 0, none⟩)], .agg #[iV vat1.X, iV vat1.Y, iV vat1.Z], .bool vt16, .bool false, uV, .pointer (some ⟨b4, 0, none⟩), iV vat1.X, .pointer (some ⟨b4, 0, none⟩), iV vat1.X, iV (w64 (vat1.X * vat1.X)), .pointer (some ⟨b4, 1, none⟩), iV vat1.Y, .pointer (some ⟨b4, 1, none⟩), iV vat1.Y, iV (w64 (vat1.Y * vat1.Y)), iV (w64 ((w64 (vat1.X * vat1.X)) + (w64 (vat1.Y * vat1.Y)))), .pointer (some ⟨b4, 2, none⟩), iV vat1.Z, .pointer (some ⟨b4, 2, none⟩), iV vat1.Z, iV (w64 (vat1.Z * vat1.Z)), iV (w64 ((w64 ((w64 (vat1.X * vat1.X)) + (w64 (vat1.Y * vat1.Y)))) + (w64 (vat1.Z * vat1.Z)))), iV vt30, iV vt30, .bool false, uV, .func (.func 28) #[] #[.pointer (some ⟨b36, 0, none⟩)], .func (.func 28) #[] #[.pointer (some ⟨b36, 0, none⟩)], .pointer (some ⟨b4, 0, none⟩), iV vat1.X, iV vt63, .func (.func 28) #[] #[.pointer (some ⟨b36, 0, none⟩)], .pointer (some ⟨b4, 1, none⟩), iV vat1.Y, iV vt73, .func (.func 28) #[] #[.pointer (some ⟨b36, 0, none⟩)], .pointer (some ⟨b4, 2, none⟩), iV vat1.Z, iV vt83, .agg #[iV vt63, iV vt73, iV vt83]], []⟩) rfl (by kernel_rfl) (by kernel_rfl) (by kernel_rfl) hnp (Sg.g1 (Sx.of [[(b8, .cells #[.int .i64 0, .int .i64 0, .int .i64 0] 23 (0, 0))]] (L66.trans (L76.trans L86)) HS91) (fun _ => St.only [] HS91 (L66.trans (L76.trans L86)))) ?_
      refine takeGE 13 (by kernel_rfl) rfl (by kernel_rfl) (does_store (n := 3) (vs := [.int .i64 vt63, .int .i64 vt73, .int .i64 vt83]) (cs' := #[.int .i64 vt63, .int .i64 vt73, .int .i64 vt83]) rfl (by kernel_rfl) (by kernel_rfl : _ = Value.pointer (some ⟨b8, 0, none⟩)) (by kernel_rfl : _ = Value.agg #[.int .i64 vt63, .int .i64 vt73, .int .i64 vt83]) rfl rfl (by intro u_ hu_; simp only [List.mem_cons, List.not_mem_nil, or_false] at hu_; rcases hu_ with rfl | rfl | rfl <;> rfl) HS91 (Nat.le_of_ble_eq_true rfl) (by kernel_rfl) ?_)
      intro W92 HS93
      refine ⟨(Sg.g1 (Sx.of [[(b8, .cells #[.int .i64 vt63, .int .i64 vt73, .int .i64 vt83] 23 (0, 0))]] (L66.trans (L76.trans L86)) HS93) (fun hl_ => Bool.noConfusion (show true = false from hl_))), ?_⟩
      refine doneG (by kernel_rfl) ?_ _
      refine hK56 _ _ ?_
      refine wp_ret ?_
      refine hret _ _ ?_
      refine ends (v := Value.agg #[.int .i64 vt63, .int .i64 vt73, .int .i64 vt83]) (results1 (q1 := .cell 2 23) (by kernel_rfl) (resN (n := 3) (cs := [.int .i64 vt63, .int .i64 vt73, .int .i64 vt83]) (by kernel_rfl : _ = Value.pointer (some ⟨b8, 0, none⟩)) Try.underlying23 rfl (by kernel_rfl) rfl (HS93.cells 0 3 _ rfl))) (by kernel_rfl) ?_
      have HS99 := HS93.drop
      have HS100 := HS99.drop
      have HS101 := HS100.drop
      injection h with h
      subst h
      exact ⟨f85, rfl, (L19.trans (L33.trans (L66.trans (L76.trans L86)))), HS101⟩

set_option maxRecDepth 100000 in
set_option maxHeartbeats 4000000 in
theorem sky_Step.calls (k : Nat)  (was1 : S_Vec) (here2 : S_Vec) {t w : World} {f : FM} {H : List Seg} (HS : St t w f (H)) (r1 : S_Vec) (r2 : Int) (h : sky_Step k was1 here2 = some (r1, r2)) :
    Calls Try.prog 8 #[.agg #[.int .i64 was1.X, .int .i64 was1.Y, .int .i64 was1.Z], .agg #[.int .i64 here2.X, .int .i64 here2.Y, .int .i64 here2.Z]] w (fun e w' => ∃ (g : FM), e = .returned (Value.tuple #[.agg #[.int .i64 r1.X, .int .i64 r1.Y, .int .i64 r1.Z], .int .i64 r2]) ∧ FM.le f g ∧ St t w' g (H)) := by
  unfold sky_Step at h
  refine enter Try.func8 rfl (tm := #[.agg #[iV was1.X, iV was1.Y, iV was1.Z], .agg #[iV here2.X, iV here2.Y, iV here2.Z], uV, uV, uV, uV, uV, uV, uV, uV, uV, uV, uV, uV, uV, uV, uV, uV, uV, uV, uV, uV, uV, uV, uV, uV, uV, uV, uV, uV, uV, uV, uV, uV, uV, uV, uV, uV, uV, uV, uV, uV, uV, uV, uV, uV, uV, uV, uV, uV, uV, uV]) (by kernel_rfl) ?_
  intro B hret hnor hnp
  refine wp_seq_k (fun K3 hK4 => ?_)
  refine wp_region_lit ?_
  refine seqK rfl (does_box (cs := #[.int .i64 was1.X, .int .i64 was1.Y, .int .i64 was1.Z]) rfl (by kernel_rfl : _ = Value.agg #[.int .i64 was1.X, .int .i64 was1.Y, .int .i64 was1.Z]) rfl HS ?_)
  intro b5 W6 HS7
  refine seqK rfl (does_box (cs := #[.int .i64 here2.X, .int .i64 here2.Y, .int .i64 here2.Z]) rfl (by kernel_rfl : _ = Value.agg #[.int .i64 here2.X, .int .i64 here2.Y, .int .i64 here2.Z]) rfl HS7 ?_)
  intro b9 W10 HS11
  refine seqK rfl (does_alloc (z := Value.agg #[.int .i64 0, .int .i64 0, .int .i64 0]) (cs := #[.int .i64 0, .int .i64 0, .int .i64 0]) rfl (by kernel_rfl) rfl HS11 ?_)
  intro b13 W14 HS15
  refine seqS1 (a' := ⟨#[.agg #[iV was1.X, iV was1.Y, iV was1.Z], .agg #[iV here2.X, iV here2.Y, iV here2.Z], .pointer (some ⟨b5, 0, none⟩), .pointer (some ⟨b9, 0, none⟩), .pointer (some ⟨b13, 0, none⟩), iV 0, uV, uV, uV, uV, uV, uV, uV, uV, uV, uV, uV, uV, uV, uV, uV, uV, uV, uV, uV, uV, uV, uV, uV, uV, uV, uV, uV, uV, uV, uV, uV, uV, uV, uV, uV, uV, uV, uV, uV, uV, uV, uV, uV, uV, uV, uV], []⟩) (by kernel_rfl) ?_
  refine wpList_nil ?_
  refine hK4 _ _ ?_
  refine wp_seq_k (fun K17 hK18 => ?_)
  refine wp_seq_k (fun K19 hK20 => ?_)
  refine wp_region_lit ?_
  refine seqK rfl (does_run (run_loadN (n := 3) rfl Try.underlying23 rfl (by kernel_rfl) (by kernel_rfl : _ = Value.pointer (some ⟨b5, 0, none⟩)) (cs := [.int .i64 was1.X, .int .i64 was1.Y, .int .i64 was1.Z]) rfl (HS15.u2.cells 0 3 _ rfl)) ?_)
  have hq_ := bind_some h; clear h; obtain ⟨vt21, hc22, h⟩ := hq_
  refine seqK rfl (does_call (f := 26) (args := #[.agg #[.int .i64 was1.X, .int .i64 was1.Y, .int .i64 was1.Z], .int .i64 4194304]) (by kernel_rfl) (sky_within.calls k was1 4194304 HS15 vt21 hc22) ?_)
  rintro _ W25 ⟨f23, rfl, L24, HS26⟩
  refine ⟨_, rfl, ?_⟩
  refine seqS2 (a' := ⟨#[.agg #[iV was1.X, iV was1.Y, iV was1.Z], .agg #[iV here2.X, iV here2.Y, iV here2.Z], .pointer (some ⟨b5, 0, none⟩), .pointer (some ⟨b9, 0, none⟩), .pointer (some ⟨b13, 0, none⟩), iV 0, uV, uV, .agg #[iV was1.X, iV was1.Y, iV was1.Z], .bool vt21, .bool (!vt21), .bool (!vt21), uV, uV, uV, uV, uV, uV, uV, uV, uV, uV, uV, uV, uV, uV, uV, uV, uV, uV, uV, uV, uV, uV, uV, uV, uV, uV, uV, uV, uV, uV, uV, uV, uV, uV, uV, uV, uV, uV, uV, uV], []⟩) (by kernel_rfl) ?_
  have hq_ := ite_some h; clear h; rcases hq_ with ⟨c27, h⟩ | ⟨c27, h⟩
  · have c27 : ¬ (vt21 = true) := c27
    refine seqRwI 10 (x := (!vt21)) (v := true) (by kernel_rfl) (congrArg (fun b_ => !b_) (show vt21 = false from (Bool.eq_false_iff.mpr c27)) : (!vt21) = true) ?_
    refine seqRwI 11 (x := (!vt21)) (v := true) (by kernel_rfl) (congrArg (fun b_ => !b_) (show vt21 = false from (Bool.eq_false_iff.mpr c27)) : (!vt21) = true) ?_
    refine seqS4 (a' := ⟨#[.agg #[iV was1.X, iV was1.Y, iV was1.Z], .agg #[iV here2.X, iV here2.Y, iV here2.Z], .pointer (some ⟨b5, 0, none⟩), .pointer (some ⟨b9, 0, none⟩), .pointer (some ⟨b13, 0, none⟩), iV 0, uV, uV, .agg #[iV was1.X, iV was1.Y, iV was1.Z], .bool vt21, .bool true, .bool true, uV, uV, uV, .bool true, uV, uV, uV, uV, uV, uV, uV, uV, uV, uV, uV, uV, uV, uV, uV, uV, uV, uV, uV, uV, uV, uV, uV, uV, uV, uV, uV, uV, uV, uV, uV, uV, uV, uV, uV, uV], []⟩) (by kernel_rfl) ?_
    refine wpList_nil ?_
    refine hK20 _ _ ?_
    refine condT (by kernel_rfl) ?_
    refine wp_seq_k (fun K28 hK29 => ?_)
    refine wp_region_lit ?_
    refine seqL1 (by kernel_rfl) ?_
    refine seqK rfl (does_store (n := 3) (vs := [.int .i64 0, .int .i64 0, .int .i64 0]) (cs' := #[.int .i64 0, .int .i64 0, .int .i64 0]) rfl (by kernel_rfl) (by kernel_rfl : _ = Value.pointer (some ⟨b13, 0, none⟩)) (by kernel_rfl : _ = Value.agg #[.int .i64 0, .int .i64 0, .int .i64 0]) rfl rfl (by intro u_ hu_; simp only [List.mem_cons, List.not_mem_nil, or_false] at hu_; rcases hu_ with rfl | rfl | rfl <;> rfl) HS26 (Nat.le_of_ble_eq_true rfl) (by kernel_rfl) ?_)
    intro W30 HS31
    refine seqS1 (a' := ⟨#[.agg #[iV was1.X, iV was1.Y, iV was1.Z], .agg #[iV here2.X, iV here2.Y, iV here2.Z], .pointer (some ⟨b5, 0, none⟩), .pointer (some ⟨b9, 0, none⟩), .pointer (some ⟨b13, 0, none⟩), iV 4, uV, uV, .agg #[iV was1.X, iV was1.Y, iV was1.Z], .bool vt21, .bool true, .bool true, uV, uV, uV, .bool true, .agg #[iV 0, iV 0, iV 0], uV, uV, uV, uV, uV, uV, uV, uV, uV, uV, uV, uV, uV, uV, uV, uV, uV, uV, uV, uV, uV, uV, uV, uV, uV, uV, uV, uV, uV, uV, uV, uV, uV, uV, uV], []⟩) (by kernel_rfl) ?_
    refine wpList_nil ?_
    refine hK29 _ _ ?_
    refine wp_ret ?_
    refine hret _ _ ?_
    refine ends (v := Value.tuple #[.agg #[.int .i64 0, .int .i64 0, .int .i64 0], .int .i64 4]) (results2 (q1 := .cell 4 23) (q2 := .tmp 5) (by kernel_rfl) (resN (n := 3) (cs := [.int .i64 0, .int .i64 0, .int .i64 0]) (by kernel_rfl : _ = Value.pointer (some ⟨b13, 0, none⟩)) Try.underlying23 rfl (by kernel_rfl) rfl (HS31.cells 0 3 _ rfl)) (resT (by kernel_rfl : _ = Value.int .i64 4))) (by kernel_rfl) ?_
    have HS88 := HS31.drop
    have HS89 := HS88.drop
    have HS90 := HS89.drop
    injection h with h
    injection h with h0_ h
    subst h0_ h
    exact ⟨f23, rfl, L24, HS90⟩
  · have c27 : ¬ (¬ (vt21 = true)) := c27
    refine seqRwI 10 (x := (!vt21)) (v := false) (by kernel_rfl) (congrArg (fun b_ => !b_) (show vt21 = true from (Decidable.of_not_not c27)) : (!vt21) = false) ?_
    refine seqRwI 11 (x := (!vt21)) (v := false) (by kernel_rfl) (congrArg (fun b_ => !b_) (show vt21 = true from (Decidable.of_not_not c27)) : (!vt21) = false) ?_
    refine seqG (by kernel_rfl) (does_run (run_loadN (n := 3) rfl Try.underlying23 rfl (by kernel_rfl) (by kernel_rfl : _ = Value.pointer (some ⟨b9, 0, none⟩)) (cs := [.int .i64 here2.X, .int .i64 here2.Y, .int .i64 here2.Z]) rfl (HS26.u1.cells 0 3 _ rfl)) ?_)
    have hq_ := bind_some h; clear h; obtain ⟨vt32, hc33, h⟩ := hq_
    refine seqG (by kernel_rfl) (does_call (f := 26) (args := #[.agg #[.int .i64 here2.X, .int .i64 here2.Y, .int .i64 here2.Z], .int .i64 4194304]) (by kernel_rfl) (sky_within.calls k here2 4194304 HS26 vt32 hc33) ?_)
    rintro _ W36 ⟨f34, rfl, L35, HS37⟩
    refine ⟨_, rfl, ?_⟩
    refine seqS2 (a' := ⟨#[.agg #[iV was1.X, iV was1.Y, iV was1.Z], .agg #[iV here2.X, iV here2.Y, iV here2.Z], .pointer (some ⟨b5, 0, none⟩), .pointer (some ⟨b9, 0, none⟩), .pointer (some ⟨b13, 0, none⟩), iV 0, uV, uV, .agg #[iV was1.X, iV was1.Y, iV was1.Z], .bool vt21, .bool false, .bool false, .agg #[iV here2.X, iV here2.Y, iV here2.Z], .bool vt32, .bool (!vt32), .bool (!vt32), uV, uV, uV, uV, uV, uV, uV, uV, uV, uV, uV, uV, uV, uV, uV, uV, uV, uV, uV, uV, uV, uV, uV, uV, uV, uV, uV, uV, uV, uV, uV, uV, uV, uV, uV, uV], []⟩) (by kernel_rfl) ?_
    refine wpList_nil ?_
    refine hK20 _ _ ?_
    have hq_ := ite_some h; clear h; rcases hq_ with ⟨c39, h⟩ | ⟨c39, h⟩
    · have c39 : ¬ (vt32 = true) := c39
      refine wpRwI 14 (x := (!vt32)) (v := true) (by kernel_rfl) (congrArg (fun b_ => !b_) (show vt32 = false from (Bool.eq_false_iff.mpr c39)) : (!vt32) = true) ?_
      refine wpRwI 15 (x := (!vt32)) (v := true) (by kernel_rfl) (congrArg (fun b_ => !b_) (show vt32 = false from (Bool.eq_false_iff.mpr c39)) : (!vt32) = true) ?_
      refine condT (by kernel_rfl) ?_
      refine wp_seq_k (fun K40 hK41 => ?_)
      refine wp_region_lit ?_
      refine seqL1 (by kernel_rfl) ?_
      refine seqK rfl (does_store (n := 3) (vs := [.int .i64 0, .int .i64 0, .int .i64 0]) (cs' := #[.int .i64 0, .int .i64 0, .int .i64 0]) rfl (by kernel_rfl) (by kernel_rfl : _ = Value.pointer (some ⟨b13, 0, none⟩)) (by kernel_rfl : _ = Value.agg #[.int .i64 0, .int .i64 0, .int .i64 0]) rfl rfl (by intro u_ hu_; simp only [List.mem_cons, List.not_mem_nil, or_false] at hu_; rcases hu_ with rfl | rfl | rfl <;> rfl) HS37 (Nat.le_of_ble_eq_true rfl) (by kernel_rfl) ?_)
      intro W42 HS43
      refine seqS1 (a' := ⟨#[.agg #[iV was1.X, iV was1.Y, iV was1.Z], .agg #[iV here2.X, iV here2.Y, iV here2.Z], .pointer (some ⟨b5, 0, none⟩), .pointer (some ⟨b9, 0, none⟩), .pointer (some ⟨b13, 0, none⟩), iV 4, uV, uV, .agg #[iV was1.X, iV was1.Y, iV was1.Z], .bool vt21, .bool false, .bool false, .agg #[iV here2.X, iV here2.Y, iV here2.Z], .bool vt32, .bool true, .bool true, .agg #[iV 0, iV 0, iV 0], uV, uV, uV, uV, uV, uV, uV, uV, uV, uV, uV, uV, uV, uV, uV, uV, uV, uV, uV, uV, uV, uV, uV, uV, uV, uV, uV, uV, uV, uV, uV, uV, uV, uV, uV], []⟩) (by kernel_rfl) ?_
      refine wpList_nil ?_
      refine hK41 _ _ ?_
      refine wp_ret ?_
      refine hret _ _ ?_
      refine ends (v := Value.tuple #[.agg #[.int .i64 0, .int .i64 0, .int .i64 0], .int .i64 4]) (results2 (q1 := .cell 4 23) (q2 := .tmp 5) (by kernel_rfl) (resN (n := 3) (cs := [.int .i64 0, .int .i64 0, .int .i64 0]) (by kernel_rfl : _ = Value.pointer (some ⟨b13, 0, none⟩)) Try.underlying23 rfl (by kernel_rfl) rfl (HS43.cells 0 3 _ rfl)) (resT (by kernel_rfl : _ = Value.int .i64 4))) (by kernel_rfl) ?_
      have HS91 := HS43.drop
      have HS92 := HS91.drop
      have HS93 := HS92.drop
      injection h with h
      injection h with h0_ h
      subst h0_ h
      exact ⟨f34, rfl, (L24.trans L35), HS93⟩
    · have c39 : ¬ (¬ (vt32 = true)) := c39
      refine wpRwI 14 (x := (!vt32)) (v := false) (by kernel_rfl) (congrArg (fun b_ => !b_) (show vt32 = true from (Decidable.of_not_not c39)) : (!vt32) = false) ?_
      refine wpRwI 15 (x := (!vt32)) (v := false) (by kernel_rfl) (congrArg (fun b_ => !b_) (show vt32 = true from (Decidable.of_not_not c39)) : (!vt32) = false) ?_
      refine condF (by kernel_rfl) ?_
      refine wp_skip ?_
      refine hK18 _ _ ?_
      refine wp_seq_k (fun K44 hK45 => ?_)
      refine wp_region_lit ?_
      refine seqK rfl (does_run (run_loadN (n := 3) rfl Try.underlying23 rfl (by kernel_rfl) (by kernel_rfl : _ = Value.pointer (some ⟨b9, 0, none⟩)) (cs := [.int .i64 here2.X, .int .i64 here2.Y, .int .i64 here2.Z]) rfl (HS37.u1.cells 0 3 _ rfl)) ?_)
      have hq_ := bind_some h; clear h; obtain ⟨vt46, hc47, h⟩ := hq_
      refine seqK rfl (does_call (f := 10) (args := #[.agg #[.int .i64 here2.X, .int .i64 here2.Y, .int .i64 here2.Z]]) (by kernel_rfl) (sky_Pull.calls k here2 HS37 vt46 hc47) ?_)
      rintro _ W50 ⟨f48, rfl, L49, HS51⟩
      refine ⟨_, rfl, ?_⟩
      refine seqK rfl (does_alloc (z := Value.agg #[.int .i64 0, .int .i64 0, .int .i64 0]) (cs := #[.int .i64 0, .int .i64 0, .int .i64 0]) rfl (by kernel_rfl) rfl HS51 ?_)
      intro b52 W53 HS54
      refine seqK rfl (does_store (n := 3) (vs := [.int .i64 vt46.X, .int .i64 vt46.Y, .int .i64 vt46.Z]) (cs' := #[.int .i64 vt46.X, .int .i64 vt46.Y, .int .i64 vt46.Z]) rfl (by kernel_rfl) (by kernel_rfl : _ = Value.pointer (some ⟨b52, 0, none⟩)) (by kernel_rfl : _ = Value.agg #[.int .i64 vt46.X, .int .i64 vt46.Y, .int .i64 vt46.Z]) rfl rfl (by intro u_ hu_; simp only [List.mem_cons, List.not_mem_nil, or_false] at hu_; rcases hu_ with rfl | rfl | rfl <;> rfl) HS54 (Nat.le_of_ble_eq_true rfl) (by kernel_rfl) ?_)
      intro W56 HS57
      refine wpList_nil ?_
      refine hK45 _ _ ?_
      refine wp_seq_k (fun K58 hK59 => ?_)
      refine wp_region_lit ?_
      refine seqL1 (by kernel_rfl) ?_
      refine seqK rfl (does_run (run_load rfl Try.underlying2 rfl (by kernel_rfl : _ = Value.pointer (some ⟨b9, 0, none⟩)) (HS57.u2.cell 0)) ?_)
      refine seqL2 (by kernel_rfl) ?_
      refine seqK rfl (does_run (run_load rfl Try.underlying2 rfl (by kernel_rfl : _ = Value.pointer (some ⟨b5, 0, none⟩)) (HS57.u3.cell 0)) ?_)
      refine seqL2 (by kernel_rfl) ?_
      refine seqK rfl (does_run (run_load rfl Try.underlying2 rfl (by kernel_rfl : _ = Value.pointer (some ⟨b52, 0, none⟩)) (HS57.cell 0)) ?_)
      refine seqL2 (by kernel_rfl) ?_
      refine seqK rfl (does_run (run_load rfl Try.underlying2 rfl (by kernel_rfl : _ = Value.pointer (some ⟨b9, 1, none⟩)) (HS57.u2.cell 1)) ?_)
      refine seqL2 (by kernel_rfl) ?_
      refine seqK rfl (does_run (run_load rfl Try.underlying2 rfl (by kernel_rfl : _ = Value.pointer (some ⟨b5, 1, none⟩)) (HS57.u3.cell 1)) ?_)
      refine seqL2 (by kernel_rfl) ?_
      refine seqK rfl (does_run (run_load rfl Try.underlying2 rfl (by kernel_rfl : _ = Value.pointer (some ⟨b52, 1, none⟩)) (HS57.cell 1)) ?_)
      refine seqL2 (by kernel_rfl) ?_
      refine seqK rfl (does_run (run_load rfl Try.underlying2 rfl (by kernel_rfl : _ = Value.pointer (some ⟨b9, 2, none⟩)) (HS57.u2.cell 2)) ?_)
      refine seqL2 (by kernel_rfl) ?_
      refine seqK rfl (does_run (run_load rfl Try.underlying2 rfl (by kernel_rfl : _ = Value.pointer (some ⟨b5, 2, none⟩)) (HS57.u3.cell 2)) ?_)
      refine seqL2 (by kernel_rfl) ?_
      refine seqK rfl (does_run (run_load rfl Try.underlying2 rfl (by kernel_rfl : _ = Value.pointer (some ⟨b52, 2, none⟩)) (HS57.cell 2)) ?_)
      refine seqL2 (by kernel_rfl) ?_
      refine seqK rfl (does_alloc (z := Value.agg #[.int .i64 0, .int .i64 0, .int .i64 0]) (cs := #[.int .i64 0, .int .i64 0, .int .i64 0]) rfl (by kernel_rfl) rfl HS57 ?_)
      intro b60 W61 HS62
      refine seqK rfl (does_store (n := 3) (vs := [.int .i64 (w64 ((w64 ((w64 (2 * here2.X)) - was1.X)) + vt46.X)), .int .i64 (w64 ((w64 ((w64 (2 * here2.Y)) - was1.Y)) + vt46.Y)), .int .i64 (w64 ((w64 ((w64 (2 * here2.Z)) - was1.Z)) + vt46.Z))]) (cs' := #[.int .i64 (w64 ((w64 ((w64 (2 * here2.X)) - was1.X)) + vt46.X)), .int .i64 (w64 ((w64 ((w64 (2 * here2.Y)) - was1.Y)) + vt46.Y)), .int .i64 (w64 ((w64 ((w64 (2 * here2.Z)) - was1.Z)) + vt46.Z))]) rfl (by kernel_rfl) (by kernel_rfl : _ = Value.pointer (some ⟨b60, 0, none⟩)) (by kernel_rfl : _ = Value.agg #[.int .i64 (w64 ((w64 ((w64 (2 * here2.X)) - was1.X)) + vt46.X)), .int .i64 (w64 ((w64 ((w64 (2 * here2.Y)) - was1.Y)) + vt46.Y)), .int .i64 (w64 ((w64 ((w64 (2 * here2.Z)) - was1.Z)) + vt46.Z))]) rfl rfl (by intro u_ hu_; simp only [List.mem_cons, List.not_mem_nil, or_false] at hu_; rcases hu_ with rfl | rfl | rfl <;> rfl) HS62 (Nat.le_of_ble_eq_true rfl) (by kernel_rfl) ?_)
      intro W64 HS65
      refine wpList_nil ?_
      refine hK59 _ _ ?_
      refine wp_seq_k (fun K66 hK67 => ?_)
      refine wp_seq_k (fun K68 hK69 => ?_)
      refine wp_region_lit ?_
      refine seqK rfl (does_run (run_loadN (n := 3) rfl Try.underlying23 rfl (by kernel_rfl) (by kernel_rfl : _ = Value.pointer (some ⟨b60, 0, none⟩)) (cs := [.int .i64 (w64 ((w64 ((w64 (2 * here2.X)) - was1.X)) + vt46.X)), .int .i64 (w64 ((w64 ((w64 (2 * here2.Y)) - was1.Y)) + vt46.Y)), .int .i64 (w64 ((w64 ((w64 (2 * here2.Z)) - was1.Z)) + vt46.Z))]) rfl (HS65.cells 0 3 _ rfl)) ?_)
      have hq_ := bind_some h; clear h; obtain ⟨vt70, hc71, h⟩ := hq_
      refine seqK rfl (does_call (f := 26) (args := #[.agg #[.int .i64 (w64 ((w64 ((w64 (2 * here2.X)) - was1.X)) + vt46.X)), .int .i64 (w64 ((w64 ((w64 (2 * here2.Y)) - was1.Y)) + vt46.Y)), .int .i64 (w64 ((w64 ((w64 (2 * here2.Z)) - was1.Z)) + vt46.Z))], .int .i64 4194304]) (by kernel_rfl) (sky_within.calls k (⟨w64 ((w64 ((w64 (2 * here2.X)) - was1.X)) + vt46.X), w64 ((w64 ((w64 (2 * here2.Y)) - was1.Y)) + vt46.Y), w64 ((w64 ((w64 (2 * here2.Z)) - was1.Z)) + vt46.Z)⟩ : S_Vec) 4194304 HS65 vt70 hc71) ?_)
      rintro _ W74 ⟨f72, rfl, L73, HS75⟩
      refine ⟨_, rfl, ?_⟩
      refine seqS1 (a' := ⟨#[.agg #[iV was1.X, iV was1.Y, iV was1.Z], .agg #[iV here2.X, iV here2.Y, iV here2.Z], .pointer (some ⟨b5, 0, none⟩), .pointer (some ⟨b9, 0, none⟩), .pointer (some ⟨b13, 0, none⟩), iV 0, .pointer (some ⟨b52, 0, none⟩), .pointer (some ⟨b60, 0, none⟩), .agg #[iV was1.X, iV was1.Y, iV was1.Z], .bool vt21, .bool false, .bool false, .agg #[iV here2.X, iV here2.Y, iV here2.Z], .bool vt32, .bool false, .bool false, uV, .agg #[iV here2.X, iV here2.Y, iV here2.Z], .agg #[iV vt46.X, iV vt46.Y, iV vt46.Z], .pointer (some ⟨b9, 0, none⟩), iV here2.X, iV (w64 (2 * here2.X)), .pointer (some ⟨b5, 0, none⟩), iV was1.X, iV (w64 ((w64 (2 * here2.X)) - was1.X)), .pointer (some ⟨b52, 0, none⟩), iV vt46.X, iV (w64 ((w64 ((w64 (2 * here2.X)) - was1.X)) + vt46.X)), .pointer (some ⟨b9, 1, none⟩), iV here2.Y, iV (w64 (2 * here2.Y)), .pointer (some ⟨b5, 1, none⟩), iV was1.Y, iV (w64 ((w64 (2 * here2.Y)) - was1.Y)), .pointer (some ⟨b52, 1, none⟩), iV vt46.Y, iV (w64 ((w64 ((w64 (2 * here2.Y)) - was1.Y)) + vt46.Y)), .pointer (some ⟨b9, 2, none⟩), iV here2.Z, iV (w64 (2 * here2.Z)), .pointer (some ⟨b5, 2, none⟩), iV was1.Z, iV (w64 ((w64 (2 * here2.Z)) - was1.Z)), .pointer (some ⟨b52, 2, none⟩), iV vt46.Z, iV (w64 ((w64 ((w64 (2 * here2.Z)) - was1.Z)) + vt46.Z)), .agg #[iV (w64 ((w64 ((w64 (2 * here2.X)) - was1.X)) + vt46.X)), iV (w64 ((w64 ((w64 (2 * here2.Y)) - was1.Y)) + vt46.Y)), iV (w64 ((w64 ((w64 (2 * here2.Z)) - was1.Z)) + vt46.Z))], .agg #[iV (w64 ((w64 ((w64 (2 * here2.X)) - was1.X)) + vt46.X)), iV (w64 ((w64 ((w64 (2 * here2.Y)) - was1.Y)) + vt46.Y)), iV (w64 ((w64 ((w64 (2 * here2.Z)) - was1.Z)) + vt46.Z))], .bool vt70, .bool (!vt70), uV, uV], []⟩) (by kernel_rfl) ?_
      refine wpList_nil ?_
      refine hK69 _ _ ?_
      have hq_ := ite_some h; clear h; rcases hq_ with ⟨c77, h⟩ | ⟨c77, h⟩
      · have c77 : ¬ (vt70 = true) := c77
        refine wpRwI 49 (x := (!vt70)) (v := true) (by kernel_rfl) (congrArg (fun b_ => !b_) (show vt70 = false from (Bool.eq_false_iff.mpr c77)) : (!vt70) = true) ?_
        refine condT (by kernel_rfl) ?_
        refine wp_seq_k (fun K78 hK79 => ?_)
        refine wp_region_lit ?_
        have HS80 := HS75.u2
        refine seqL1 (by kernel_rfl) ?_
        refine seqK rfl (does_store (n := 3) (vs := [.int .i64 0, .int .i64 0, .int .i64 0]) (cs' := #[.int .i64 0, .int .i64 0, .int .i64 0]) rfl (by kernel_rfl) (by kernel_rfl : _ = Value.pointer (some ⟨b13, 0, none⟩)) (by kernel_rfl : _ = Value.agg #[.int .i64 0, .int .i64 0, .int .i64 0]) rfl rfl (by intro u_ hu_; simp only [List.mem_cons, List.not_mem_nil, or_false] at hu_; rcases hu_ with rfl | rfl | rfl <;> rfl) HS80 (Nat.le_of_ble_eq_true rfl) (by kernel_rfl) ?_)
        intro W81 HS82
        refine seqS1 (a' := ⟨#[.agg #[iV was1.X, iV was1.Y, iV was1.Z], .agg #[iV here2.X, iV here2.Y, iV here2.Z], .pointer (some ⟨b5, 0, none⟩), .pointer (some ⟨b9, 0, none⟩), .pointer (some ⟨b13, 0, none⟩), iV 18, .pointer (some ⟨b52, 0, none⟩), .pointer (some ⟨b60, 0, none⟩), .agg #[iV was1.X, iV was1.Y, iV was1.Z], .bool vt21, .bool false, .bool false, .agg #[iV here2.X, iV here2.Y, iV here2.Z], .bool vt32, .bool false, .bool false, uV, .agg #[iV here2.X, iV here2.Y, iV here2.Z], .agg #[iV vt46.X, iV vt46.Y, iV vt46.Z], .pointer (some ⟨b9, 0, none⟩), iV here2.X, iV (w64 (2 * here2.X)), .pointer (some ⟨b5, 0, none⟩), iV was1.X, iV (w64 ((w64 (2 * here2.X)) - was1.X)), .pointer (some ⟨b52, 0, none⟩), iV vt46.X, iV (w64 ((w64 ((w64 (2 * here2.X)) - was1.X)) + vt46.X)), .pointer (some ⟨b9, 1, none⟩), iV here2.Y, iV (w64 (2 * here2.Y)), .pointer (some ⟨b5, 1, none⟩), iV was1.Y, iV (w64 ((w64 (2 * here2.Y)) - was1.Y)), .pointer (some ⟨b52, 1, none⟩), iV vt46.Y, iV (w64 ((w64 ((w64 (2 * here2.Y)) - was1.Y)) + vt46.Y)), .pointer (some ⟨b9, 2, none⟩), iV here2.Z, iV (w64 (2 * here2.Z)), .pointer (some ⟨b5, 2, none⟩), iV was1.Z, iV (w64 ((w64 (2 * here2.Z)) - was1.Z)), .pointer (some ⟨b52, 2, none⟩), iV vt46.Z, iV (w64 ((w64 ((w64 (2 * here2.Z)) - was1.Z)) + vt46.Z)), .agg #[iV (w64 ((w64 ((w64 (2 * here2.X)) - was1.X)) + vt46.X)), iV (w64 ((w64 ((w64 (2 * here2.Y)) - was1.Y)) + vt46.Y)), iV (w64 ((w64 ((w64 (2 * here2.Z)) - was1.Z)) + vt46.Z))], .agg #[iV (w64 ((w64 ((w64 (2 * here2.X)) - was1.X)) + vt46.X)), iV (w64 ((w64 ((w64 (2 * here2.Y)) - was1.Y)) + vt46.Y)), iV (w64 ((w64 ((w64 (2 * here2.Z)) - was1.Z)) + vt46.Z))], .bool vt70, .bool true, .agg #[iV 0, iV 0, iV 0], uV], []⟩) (by kernel_rfl) ?_
        refine wpList_nil ?_
        refine hK79 _ _ ?_
        refine wp_ret ?_
        refine hret _ _ ?_
        refine ends (v := Value.tuple #[.agg #[.int .i64 0, .int .i64 0, .int .i64 0], .int .i64 18]) (results2 (q1 := .cell 4 23) (q2 := .tmp 5) (by kernel_rfl) (resN (n := 3) (cs := [.int .i64 0, .int .i64 0, .int .i64 0]) (by kernel_rfl : _ = Value.pointer (some ⟨b13, 0, none⟩)) Try.underlying23 rfl (by kernel_rfl) rfl (HS82.cells 0 3 _ rfl)) (resT (by kernel_rfl : _ = Value.int .i64 18))) (by kernel_rfl) ?_
        have HS94 := HS82.drop
        have HS95 := HS94.drop
        have HS96 := HS95.drop
        have HS97 := HS96.drop
        have HS98 := HS97.drop
        injection h with h
        injection h with h0_ h
        subst h0_ h
        exact ⟨f72, rfl, (L24.trans (L35.trans (L49.trans L73))), HS98⟩
      · have c77 : ¬ (¬ (vt70 = true)) := c77
        refine wpRwI 49 (x := (!vt70)) (v := false) (by kernel_rfl) (congrArg (fun b_ => !b_) (show vt70 = true from (Decidable.of_not_not c77)) : (!vt70) = false) ?_
        refine condF (by kernel_rfl) ?_
        refine wp_skip ?_
        refine hK67 _ _ ?_
        refine wp_seq_k (fun K83 hK84 => ?_)
        refine wp_region_lit ?_
        refine seqK rfl (does_run (run_loadN (n := 3) rfl Try.underlying23 rfl (by kernel_rfl) (by kernel_rfl : _ = Value.pointer (some ⟨b60, 0, none⟩)) (cs := [.int .i64 (w64 ((w64 ((w64 (2 * here2.X)) - was1.X)) + vt46.X)), .int .i64 (w64 ((w64 ((w64 (2 * here2.Y)) - was1.Y)) + vt46.Y)), .int .i64 (w64 ((w64 ((w64 (2 * here2.Z)) - was1.Z)) + vt46.Z))]) rfl (HS75.cells 0 3 _ rfl)) ?_)
        have HS85 := HS75.u2
        refine seqK rfl (does_store (n := 3) (vs := [.int .i64 (w64 ((w64 ((w64 (2 * here2.X)) - was1.X)) + vt46.X)), .int .i64 (w64 ((w64 ((w64 (2 * here2.Y)) - was1.Y)) + vt46.Y)), .int .i64 (w64 ((w64 ((w64 (2 * here2.Z)) - was1.Z)) + vt46.Z))]) (cs' := #[.int .i64 (w64 ((w64 ((w64 (2 * here2.X)) - was1.X)) + vt46.X)), .int .i64 (w64 ((w64 ((w64 (2 * here2.Y)) - was1.Y)) + vt46.Y)), .int .i64 (w64 ((w64 ((w64 (2 * here2.Z)) - was1.Z)) + vt46.Z))]) rfl (by kernel_rfl) (by kernel_rfl : _ = Value.pointer (some ⟨b13, 0, none⟩)) (by kernel_rfl : _ = Value.agg #[.int .i64 (w64 ((w64 ((w64 (2 * here2.X)) - was1.X)) + vt46.X)), .int .i64 (w64 ((w64 ((w64 (2 * here2.Y)) - was1.Y)) + vt46.Y)), .int .i64 (w64 ((w64 ((w64 (2 * here2.Z)) - was1.Z)) + vt46.Z))]) rfl rfl (by intro u_ hu_; simp only [List.mem_cons, List.not_mem_nil, or_false] at hu_; rcases hu_ with rfl | rfl | rfl <;> rfl) HS85 (Nat.le_of_ble_eq_true rfl) (by kernel_rfl) ?_)
        intro W86 HS87
        refine seqS1 (a' := ⟨#[.agg #[iV was1.X, iV was1.Y, iV was1.Z], .agg #[iV here2.X, iV here2.Y, iV here2.Z], .pointer (some ⟨b5, 0, none⟩), .pointer (some ⟨b9, 0, none⟩), .pointer (some ⟨b13, 0, none⟩), iV 0, .pointer (some ⟨b52, 0, none⟩), .pointer (some ⟨b60, 0, none⟩), .agg #[iV was1.X, iV was1.Y, iV was1.Z], .bool vt21, .bool false, .bool false, .agg #[iV here2.X, iV here2.Y, iV here2.Z], .bool vt32, .bool false, .bool false, uV, .agg #[iV here2.X, iV here2.Y, iV here2.Z], .agg #[iV vt46.X, iV vt46.Y, iV vt46.Z], .pointer (some ⟨b9, 0, none⟩), iV here2.X, iV (w64 (2 * here2.X)), .pointer (some ⟨b5, 0, none⟩), iV was1.X, iV (w64 ((w64 (2 * here2.X)) - was1.X)), .pointer (some ⟨b52, 0, none⟩), iV vt46.X, iV (w64 ((w64 ((w64 (2 * here2.X)) - was1.X)) + vt46.X)), .pointer (some ⟨b9, 1, none⟩), iV here2.Y, iV (w64 (2 * here2.Y)), .pointer (some ⟨b5, 1, none⟩), iV was1.Y, iV (w64 ((w64 (2 * here2.Y)) - was1.Y)), .pointer (some ⟨b52, 1, none⟩), iV vt46.Y, iV (w64 ((w64 ((w64 (2 * here2.Y)) - was1.Y)) + vt46.Y)), .pointer (some ⟨b9, 2, none⟩), iV here2.Z, iV (w64 (2 * here2.Z)), .pointer (some ⟨b5, 2, none⟩), iV was1.Z, iV (w64 ((w64 (2 * here2.Z)) - was1.Z)), .pointer (some ⟨b52, 2, none⟩), iV vt46.Z, iV (w64 ((w64 ((w64 (2 * here2.Z)) - was1.Z)) + vt46.Z)), .agg #[iV (w64 ((w64 ((w64 (2 * here2.X)) - was1.X)) + vt46.X)), iV (w64 ((w64 ((w64 (2 * here2.Y)) - was1.Y)) + vt46.Y)), iV (w64 ((w64 ((w64 (2 * here2.Z)) - was1.Z)) + vt46.Z))], .agg #[iV (w64 ((w64 ((w64 (2 * here2.X)) - was1.X)) + vt46.X)), iV (w64 ((w64 ((w64 (2 * here2.Y)) - was1.Y)) + vt46.Y)), iV (w64 ((w64 ((w64 (2 * here2.Z)) - was1.Z)) + vt46.Z))], .bool vt70, .bool false, uV, .agg #[iV (w64 ((w64 ((w64 (2 * here2.X)) - was1.X)) + vt46.X)), iV (w64 ((w64 ((w64 (2 * here2.Y)) - was1.Y)) + vt46.Y)), iV (w64 ((w64 ((w64 (2 * here2.Z)) - was1.Z)) + vt46.Z))]], []⟩) (by kernel_rfl) ?_
        refine wpList_nil ?_
        refine hK84 _ _ ?_
        refine wp_ret ?_
        refine hret _ _ ?_
        refine ends (v := Value.tuple #[.agg #[.int .i64 (w64 ((w64 ((w64 (2 * here2.X)) - was1.X)) + vt46.X)), .int .i64 (w64 ((w64 ((w64 (2 * here2.Y)) - was1.Y)) + vt46.Y)), .int .i64 (w64 ((w64 ((w64 (2 * here2.Z)) - was1.Z)) + vt46.Z))], .int .i64 0]) (results2 (q1 := .cell 4 23) (q2 := .tmp 5) (by kernel_rfl) (resN (n := 3) (cs := [.int .i64 (w64 ((w64 ((w64 (2 * here2.X)) - was1.X)) + vt46.X)), .int .i64 (w64 ((w64 ((w64 (2 * here2.Y)) - was1.Y)) + vt46.Y)), .int .i64 (w64 ((w64 ((w64 (2 * here2.Z)) - was1.Z)) + vt46.Z))]) (by kernel_rfl : _ = Value.pointer (some ⟨b13, 0, none⟩)) Try.underlying23 rfl (by kernel_rfl) rfl (HS87.cells 0 3 _ rfl)) (resT (by kernel_rfl : _ = Value.int .i64 0))) (by kernel_rfl) ?_
        have HS99 := HS87.drop
        have HS100 := HS99.drop
        have HS101 := HS100.drop
        have HS102 := HS101.drop
        have HS103 := HS102.drop
        injection h with h
        injection h with h0_ h
        subst h0_ h
        exact ⟨f72, rfl, (L24.trans (L35.trans (L49.trans L73))), HS103⟩

set_option maxRecDepth 100000 in
set_option maxHeartbeats 4000000 in
theorem spykeep3_pulls.calls (k : Nat)   {t w : World} {f : FM} {H : List Seg} (HS : St t w f (H)) (r1 : Bool) (h : spykeep3_pulls k = some r1) :
    Calls Try.prog 9 #[] w (fun e w' => ∃ (g : FM), e = .returned (Value.bool r1) ∧ FM.le f g ∧ St t w' g (H)) := by
  unfold spykeep3_pulls at h
  refine enter Try.func9 rfl (tm := #[uV, uV, uV, uV, uV, uV, uV, uV, uV, uV, uV, uV, uV, uV, uV, uV]) (by kernel_rfl) ?_
  intro B hret hnor hnp
  refine wp_seq_k (fun K1 hK2 => ?_)
  refine wp_region_lit ?_
  refine seqS1 (a' := ⟨#[.bool false, uV, uV, uV, uV, uV, uV, uV, uV, uV, uV, uV, uV, uV, uV, uV], []⟩) (by kernel_rfl) ?_
  refine wpList_nil ?_
  refine hK2 _ _ ?_
  refine wp_seq_k (fun K3 hK4 => ?_)
  refine wp_region_lit ?_
  have hq_ := bind_some h; clear h; obtain ⟨⟨vt5, vt6⟩, hc7, h⟩ := hq_
  refine seqL2 (by kernel_rfl) ?_
  refine seqK rfl (does_call (f := 8) (args := #[.agg #[.int .i64 1048576, .int .i64 0, .int .i64 0], .agg #[.int .i64 1048576, .int .i64 0, .int .i64 0]]) (by kernel_rfl) (sky_Step.calls k (⟨1048576, 0, 0⟩ : S_Vec) (⟨1048576, 0, 0⟩ : S_Vec) HS vt5 vt6 hc7) ?_)
  rintro _ W10 ⟨f8, rfl, L9, HS11⟩
  refine ⟨_, rfl, ?_⟩
  refine seqL3 (by kernel_rfl) ?_
  refine seqK rfl (does_alloc (z := Value.agg #[.int .i64 0, .int .i64 0, .int .i64 0]) (cs := #[.int .i64 0, .int .i64 0, .int .i64 0]) rfl (by kernel_rfl) rfl HS11 ?_)
  intro b12 W13 HS14
  refine seqK rfl (does_store (n := 3) (vs := [.int .i64 vt5.X, .int .i64 vt5.Y, .int .i64 vt5.Z]) (cs' := #[.int .i64 vt5.X, .int .i64 vt5.Y, .int .i64 vt5.Z]) rfl (by kernel_rfl) (by kernel_rfl : _ = Value.pointer (some ⟨b12, 0, none⟩)) (by kernel_rfl : _ = Value.agg #[.int .i64 vt5.X, .int .i64 vt5.Y, .int .i64 vt5.Z]) rfl rfl (by intro u_ hu_; simp only [List.mem_cons, List.not_mem_nil, or_false] at hu_; rcases hu_ with rfl | rfl | rfl <;> rfl) HS14 (Nat.le_of_ble_eq_true rfl) (by kernel_rfl) ?_)
  intro W16 HS17
  refine seqS1 (a' := ⟨#[.bool false, .pointer (some ⟨b12, 0, none⟩), iV vt6, .tuple #[.agg #[iV vt5.X, iV vt5.Y, iV vt5.Z], iV vt6], .agg #[iV 1048576, iV 0, iV 0], .agg #[iV 1048576, iV 0, iV 0], .tuple #[.agg #[iV vt5.X, iV vt5.Y, iV vt5.Z], iV vt6], .agg #[iV vt5.X, iV vt5.Y, iV vt5.Z], iV vt6, uV, uV, uV, uV, uV, uV, uV], []⟩) (by kernel_rfl) ?_
  refine wpList_nil ?_
  refine hK4 _ _ ?_
  refine wp_seq_k (fun K18 hK19 => ?_)
  refine wp_region_lit ?_
  refine seqS3 (a' := ⟨#[.bool false, .pointer (some ⟨b12, 0, none⟩), iV vt6, .tuple #[.agg #[iV vt5.X, iV vt5.Y, iV vt5.Z], iV vt6], .agg #[iV 1048576, iV 0, iV 0], .agg #[iV 1048576, iV 0, iV 0], .tuple #[.agg #[iV vt5.X, iV vt5.Y, iV vt5.Z], iV vt6], .agg #[iV vt5.X, iV vt5.Y, iV vt5.Z], iV vt6, iV vt6, .bool (vt6 == 0), .bool (vt6 == 0), uV, uV, uV, uV], []⟩) (by kernel_rfl) ?_
  have hq_ := ite_some h; clear h; rcases hq_ with ⟨c20, h⟩ | ⟨c20, h⟩
  · have c20 : vt6 = 0 := c20
    refine seqRwI 10 (x := (vt6 == 0)) (v := true) (by kernel_rfl) (beq_iff_eq.mpr c20) ?_
    refine seqRwI 11 (x := (vt6 == 0)) (v := true) (by kernel_rfl) (beq_iff_eq.mpr c20) ?_
    refine seqG (by kernel_rfl) (does_run (run_loadN (n := 3) rfl Try.underlying23 rfl (by kernel_rfl) (by kernel_rfl : _ = Value.pointer (some ⟨b12, 0, none⟩)) (cs := [.int .i64 vt5.X, .int .i64 vt5.Y, .int .i64 vt5.Z]) rfl (HS17.cells 0 3 _ rfl)) ?_)
    refine seqL1 (by kernel_rfl) ?_
    refine seqG (by kernel_rfl) (does_run (run_eqS (b := ((vt5.X == 1040384) && ((vt5.Y == 0) && ((vt5.Z == 0) && true)))) rfl (by kernel_rfl : _ = Value.agg #[.int .i64 vt5.X, .int .i64 vt5.Y, .int .i64 vt5.Z]) (by kernel_rfl : _ = Value.agg #[.int .i64 1040384, .int .i64 0, .int .i64 0]) (by kernel_rfl) (by kernel_rfl) W16) ?_)
    refine seqS2 (a' := ⟨#[.bool ((vt5.X == 1040384) && ((vt5.Y == 0) && ((vt5.Z == 0) && true))), .pointer (some ⟨b12, 0, none⟩), iV vt6, .tuple #[.agg #[iV vt5.X, iV vt5.Y, iV vt5.Z], iV vt6], .agg #[iV 1048576, iV 0, iV 0], .agg #[iV 1048576, iV 0, iV 0], .tuple #[.agg #[iV vt5.X, iV vt5.Y, iV vt5.Z], iV vt6], .agg #[iV vt5.X, iV vt5.Y, iV vt5.Z], iV vt6, iV vt6, .bool true, .bool true, .agg #[iV vt5.X, iV vt5.Y, iV vt5.Z], .agg #[iV 1040384, iV 0, iV 0], .bool ((vt5.X == 1040384) && ((vt5.Y == 0) && ((vt5.Z == 0) && true))), .bool ((vt5.X == 1040384) && ((vt5.Y == 0) && ((vt5.Z == 0) && true)))], []⟩) (by kernel_rfl) ?_
    refine wpList_nil ?_
    refine hK19 _ _ ?_
    refine wp_ret ?_
    refine hret _ _ ?_
    refine ends_still (v := Value.bool ((vt5.X == 1040384) && ((vt5.Y == 0) && ((vt5.Z == 0) && true)))) (by kernel_rfl) (by kernel_rfl) ?_
    have HS21 := HS17.drop
    injection h with h
    subst h
    exact ⟨f8, rfl, L9, HS21⟩
  · have c20 : ¬ (vt6 = 0) := c20
    refine seqRwI 10 (x := (vt6 == 0)) (v := false) (by kernel_rfl) (beq_eq_false_iff_ne.mpr c20) ?_
    refine seqRwI 11 (x := (vt6 == 0)) (v := false) (by kernel_rfl) (beq_eq_false_iff_ne.mpr c20) ?_
    refine seqS5 (a' := ⟨#[.bool false, .pointer (some ⟨b12, 0, none⟩), iV vt6, .tuple #[.agg #[iV vt5.X, iV vt5.Y, iV vt5.Z], iV vt6], .agg #[iV 1048576, iV 0, iV 0], .agg #[iV 1048576, iV 0, iV 0], .tuple #[.agg #[iV vt5.X, iV vt5.Y, iV vt5.Z], iV vt6], .agg #[iV vt5.X, iV vt5.Y, iV vt5.Z], iV vt6, iV vt6, .bool false, .bool false, uV, uV, uV, .bool false], []⟩) (by kernel_rfl) ?_
    refine wpList_nil ?_
    refine hK19 _ _ ?_
    refine wp_ret ?_
    refine hret _ _ ?_
    refine ends_still (v := Value.bool false) (by kernel_rfl) (by kernel_rfl) ?_
    have HS22 := HS17.drop
    injection h with h
    subst h
    exact ⟨f8, rfl, L9, HS22⟩

set_option maxRecDepth 100000 in
set_option maxHeartbeats 4000000 in
theorem spymake_Below.calls (k : Nat)  (x1 : Int) (n2 : Int) {t w : World} {f : FM} {H : List Seg} (HS : St t w f (H)) (r1 : Int) (h : spymake_Below k x1 n2 = some r1) :
    Calls Try.prog 15 #[.int .i64 x1, .int .i64 n2] w (fun e w' => ∃ (g : FM), e = .returned (Value.int .i64 r1) ∧ FM.le f g ∧ St t w' g (H)) := by
  unfold spymake_Below at h
  refine enter Try.func15 rfl (tm := #[iV x1, iV n2, uV, uV, uV, uV, uV, uV, uV, uV, uV, uV, uV, uV, uV, uV]) (by kernel_rfl) ?_
  intro B hret hnor hnp
  refine wp_seq_k (fun K3 hK4 => ?_)
  refine wp_region_lit ?_
  refine seqS1 (a' := ⟨#[iV x1, iV n2, uV, uV, iV 0, uV, uV, uV, uV, uV, uV, uV, uV, uV, uV, uV], []⟩) (by kernel_rfl) ?_
  refine wpList_nil ?_
  refine hK4 _ _ ?_
  refine wp_seq_k (fun K5 hK6 => ?_)
  refine wp_seq_k (fun K7 hK8 => ?_)
  refine wp_region_lit ?_
  refine seqS2 (a' := ⟨#[iV x1, iV n2, uV, uV, iV 0, iV n2, .bool (decide (n2 < 1)), uV, uV, uV, uV, uV, uV, uV, uV, uV], []⟩) (by kernel_rfl) ?_
  refine wpList_nil ?_
  refine hK8 _ _ ?_
  have hq_ := ite_some h; clear h; rcases hq_ with ⟨c10, h⟩ | ⟨c10, h⟩
  · have c10 : n2 < 1 := c10
    refine wpRwI 6 (x := (decide (n2 < 1))) (v := true) (by kernel_rfl) (decide_eq_true c10) ?_
    refine condT (by kernel_rfl) ?_
    refine wp_seq_k (fun K11 hK12 => ?_)
    refine wp_region_lit ?_
    refine seqS1 (a' := ⟨#[iV x1, iV n2, uV, uV, iV 0, iV n2, .bool true, uV, uV, uV, uV, uV, uV, uV, uV, uV], []⟩) (by kernel_rfl) ?_
    refine wpList_nil ?_
    refine hK12 _ _ ?_
    refine wp_ret ?_
    refine hret _ _ ?_
    refine ends_still (v := Value.int .i64 0) (by kernel_rfl) (by kernel_rfl) ?_
    injection h with h
    subst h
    exact ⟨f, rfl, FM.le.refl _, HS⟩
  · have c10 : ¬ (n2 < 1) := c10
    refine wpRwI 6 (x := (decide (n2 < 1))) (v := false) (by kernel_rfl) (decide_eq_false c10) ?_
    refine condF (by kernel_rfl) ?_
    refine wp_skip ?_
    refine hK6 _ _ ?_
    refine wp_seq_k (fun K13 hK14 => ?_)
    refine wp_region_lit ?_
    have hq_ := guard_some h; clear h; obtain ⟨c15, h⟩ := hq_
    have c15 : ¬ (n2 = 0) := c15
    refine seqL2 (by kernel_rfl) ?_
    refine seqK rfl (does_run (run_rem rfl (by kernel_rfl : _ = Value.int .i64 x1) (by kernel_rfl : _ = Value.int .i64 n2) c15 w) ?_)
    refine seqS1 (a' := ⟨#[iV (Int.tmod x1 n2), iV n2, uV, uV, iV 0, iV n2, .bool false, iV x1, iV n2, iV (Int.tmod x1 n2), uV, uV, uV, uV, uV, uV], []⟩) (by kernel_rfl) ?_
    refine wpList_nil ?_
    refine hK14 _ _ ?_
    refine wp_seq_k (fun K16 hK17 => ?_)
    refine wp_seq_k (fun K18 hK19 => ?_)
    refine wp_region_lit ?_
    refine seqS2 (a' := ⟨#[iV (Int.tmod x1 n2), iV n2, uV, uV, iV 0, iV n2, .bool false, iV x1, iV n2, iV (Int.tmod x1 n2), iV (Int.tmod x1 n2), .bool (decide ((Int.tmod x1 n2) < 0)), uV, uV, uV, uV], []⟩) (by kernel_rfl) ?_
    refine wpList_nil ?_
    refine hK19 _ _ ?_
    have hq_ := ite_some h; clear h; rcases hq_ with ⟨c21, h⟩ | ⟨c21, h⟩
    · have c21 : (Int.tmod x1 n2) < 0 := c21
      refine wpRwI 11 (x := (decide ((Int.tmod x1 n2) < 0))) (v := true) (by kernel_rfl) (decide_eq_true c21) ?_
      refine condT (by kernel_rfl) ?_
      refine wp_region_lit ?_
      refine seqS4 (a' := ⟨#[iV (w64 ((Int.tmod x1 n2) + n2)), iV n2, uV, uV, iV 0, iV n2, .bool false, iV x1, iV n2, iV (Int.tmod x1 n2), iV (Int.tmod x1 n2), .bool true, iV (Int.tmod x1 n2), iV n2, iV (w64 ((Int.tmod x1 n2) + n2)), uV], []⟩) (by kernel_rfl) ?_
      refine wpList_nil ?_
      refine hK17 _ _ ?_
      refine wp_seq_k (fun K22 hK23 => ?_)
      refine wp_region_lit ?_
      refine seqS2 (a' := ⟨#[iV (w64 ((Int.tmod x1 n2) + n2)), iV n2, uV, uV, iV (w64 ((Int.tmod x1 n2) + n2)), iV n2, .bool false, iV x1, iV n2, iV (Int.tmod x1 n2), iV (Int.tmod x1 n2), .bool true, iV (Int.tmod x1 n2), iV n2, iV (w64 ((Int.tmod x1 n2) + n2)), iV (w64 ((Int.tmod x1 n2) + n2))], []⟩) (by kernel_rfl) ?_
      refine wpList_nil ?_
      refine hK23 _ _ ?_
      refine wp_ret ?_
      refine hret _ _ ?_
      refine ends_still (v := Value.int .i64 (w64 ((Int.tmod x1 n2) + n2))) (by kernel_rfl) (by kernel_rfl) ?_
      injection h with h
      subst h
      exact ⟨f, rfl, FM.le.refl _, HS⟩
    · have c21 : ¬ ((Int.tmod x1 n2) < 0) := c21
      refine wpRwI 11 (x := (decide ((Int.tmod x1 n2) < 0))) (v := false) (by kernel_rfl) (decide_eq_false c21) ?_
      refine condF (by kernel_rfl) ?_
      refine wp_skip ?_
      refine hK17 _ _ ?_
      refine wp_seq_k (fun K24 hK25 => ?_)
      refine wp_region_lit ?_
      refine seqS2 (a' := ⟨#[iV (Int.tmod x1 n2), iV n2, uV, uV, iV (Int.tmod x1 n2), iV n2, .bool false, iV x1, iV n2, iV (Int.tmod x1 n2), iV (Int.tmod x1 n2), .bool false, uV, uV, uV, iV (Int.tmod x1 n2)], []⟩) (by kernel_rfl) ?_
      refine wpList_nil ?_
      refine hK25 _ _ ?_
      refine wp_ret ?_
      refine hret _ _ ?_
      refine ends_still (v := Value.int .i64 (Int.tmod x1 n2)) (by kernel_rfl) (by kernel_rfl) ?_
      injection h with h
      subst h
      exact ⟨f, rfl, FM.le.refl _, HS⟩

set_option maxRecDepth 100000 in
set_option maxHeartbeats 4000000 in
theorem spymake_Stream_Next.calls (k : Nat) (b1 : Nat) (A4 : Option Addr) (c5 : Nat) (s3 : S_Stream) (n7 : Int) {t w : World} {f : FM} {H : List Seg} (HS : St t w f ([(b1, .cells #[.slice A4 s3.L.length c5, .int .i64 s3.vat] 33 (0, 0))] :: H)) (HR6 : SlR (tInt .i64) f A4 c5 s3.L) (r1 : Int) (r2 : Int) (h : spymake_Stream_Next k s3 n7 = some (r1, r2)) :
    Calls Try.prog 30 #[.pointer (some ⟨b1, 0, none⟩), .int .i64 n7] w (fun e w' => ∃ (g : FM), e = .returned (Value.int .i64 r1) ∧ FM.le f g ∧ St t w' g ([(b1, .cells #[.slice A4 s3.L.length c5, .int .i64 r2] 33 (0, 0))] :: H)) := by
  unfold spymake_Stream_Next at h
  refine enter Try.func30 rfl (tm := #[.pointer (some ⟨b1, 0, none⟩), iV n7, uV, uV, uV, uV, uV, uV, uV, uV, uV, uV, uV, uV, uV, uV, uV, uV, uV, uV, uV, uV, uV, uV, uV, uV, uV, uV, uV, uV, uV, uV, uV, uV, uV, uV, uV, uV, uV, uV, uV, uV, uV, uV, uV, uV, uV, uV, uV, uV, uV, uV, uV, uV, uV, uV, uV, uV, uV, uV, uV, uV, uV, uV]) (by kernel_rfl) ?_
  intro B hret hnor hnp
  refine wp_seq_k (fun K8 hK9 => ?_)
  refine wp_region_lit ?_
  refine seqS1 (a' := ⟨#[.pointer (some ⟨b1, 0, none⟩), iV n7, uV, uV, iV 0, uV, uV, uV, uV, uV, uV, uV, uV, uV, uV, uV, uV, uV, uV, uV, uV, uV, uV, uV, uV, uV, uV, uV, uV, uV, uV, uV, uV, uV, uV, uV, uV, uV, uV, uV, uV, uV, uV, uV, uV, uV, uV, uV, uV, uV, uV, uV, uV, uV, uV, uV, uV, uV, uV, uV, uV, uV, uV, uV], []⟩) (by kernel_rfl) ?_
  refine wpList_nil ?_
  refine hK9 _ _ ?_
  refine wp_seq_k (fun K10 hK11 => ?_)
  refine wp_region_lit ?_
  refine seqL3 (by kernel_rfl) ?_
  refine seqK rfl (does_run (run_load rfl Try.underlying3 rfl (by kernel_rfl : _ = Value.pointer (some ⟨b1, 1, none⟩)) (HS.cell 1)) ?_)
  refine seqL3 (by kernel_rfl) ?_
  refine seqK rfl (does_store (n := 1) (vs := [.int .i64 (w64 (s3.vat + 1))]) (cs' := #[.slice A4 s3.L.length c5, .int .i64 (w64 (s3.vat + 1))]) rfl (by kernel_rfl) (by kernel_rfl : _ = Value.pointer (some ⟨b1, 1, none⟩)) (by kernel_rfl : _ = Value.int .i64 (w64 (s3.vat + 1))) rfl rfl (by intro u_ hu_; simp only [List.mem_cons, List.not_mem_nil, or_false] at hu_; subst hu_; rfl) HS (Nat.le_of_ble_eq_true rfl) (by kernel_rfl) ?_)
  intro W12 HS13
  refine wpList_nil ?_
  refine hK11 _ _ ?_
  refine wp_seq_k (fun K14 hK15 => ?_)
  refine wp_seq_k (fun K16 hK17 => ?_)
  refine wp_region_lit ?_
  refine seqL3 (by kernel_rfl) ?_
  refine seqK rfl (does_run (run_load rfl Try.underlying30 rfl (by kernel_rfl : _ = Value.pointer (some ⟨b1, 0, none⟩)) (HS13.cell 0)) ?_)
  refine seqS2 (a' := ⟨#[.pointer (some ⟨b1, 0, none⟩), iV n7, uV, uV, iV 0, uV, uV, .pointer (some ⟨b1, 0, none⟩), .pointer (some ⟨b1, 0, none⟩), .pointer (some ⟨b1, 1, none⟩), iV s3.vat, iV (w64 (s3.vat + 1)), .pointer (some ⟨b1, 0, none⟩), .pointer (some ⟨b1, 1, none⟩), .pointer (some ⟨b1, 0, none⟩), .pointer (some ⟨b1, 0, none⟩), .pointer (some ⟨b1, 0, none⟩), .slice A4 s3.L.length c5, iV (s3.L.length : Int), .bool ((s3.L.length : Int) == 0), uV, uV, uV, uV, uV, uV, uV, uV, uV, uV, uV, uV, uV, uV, uV, uV, uV, uV, uV, uV, uV, uV, uV, uV, uV, uV, uV, uV, uV, uV, uV, uV, uV, uV, uV, uV, uV, uV, uV, uV, uV, uV, uV, uV], []⟩) (by kernel_rfl) ?_
  refine wpList_nil ?_
  refine hK17 _ _ ?_
  have hq_ := ite_some h; clear h; rcases hq_ with ⟨c19, h⟩ | ⟨c19, h⟩
  · have c19 : (s3.L.length : Int) = 0 := c19
    refine wpRwI 19 (x := ((s3.L.length : Int) == 0)) (v := true) (by kernel_rfl) (beq_iff_eq.mpr c19) ?_
    refine condT (by kernel_rfl) ?_
    refine wp_seq_k (fun K20 hK21 => ?_)
    refine wp_region_lit ?_
    refine seqL3 (by kernel_rfl) ?_
    refine seqK rfl (does_run (run_load rfl Try.underlying3 rfl (by kernel_rfl : _ = Value.pointer (some ⟨b1, 1, none⟩)) (HS13.cell 1)) ?_)
    have hq_ := bind_some h; clear h; obtain ⟨vt22, hc23, h⟩ := hq_
    refine seqL2 (by kernel_rfl) ?_
    refine seqK rfl (does_call (f := 15) (args := #[.int .i64 (w64 ((w64 (s3.vat + 1)) * 7919)), .int .i64 n7]) (by kernel_rfl) (spymake_Below.calls k (w64 ((w64 (s3.vat + 1)) * 7919)) n7 HS13 vt22 hc23) ?_)
    rintro _ W26 ⟨f24, rfl, L25, HS27⟩
    refine ⟨_, rfl, ?_⟩
    refine seqS1 (a' := ⟨#[.pointer (some ⟨b1, 0, none⟩), iV n7, uV, uV, iV vt22, uV, uV, .pointer (some ⟨b1, 0, none⟩), .pointer (some ⟨b1, 0, none⟩), .pointer (some ⟨b1, 1, none⟩), iV s3.vat, iV (w64 (s3.vat + 1)), .pointer (some ⟨b1, 0, none⟩), .pointer (some ⟨b1, 1, none⟩), .pointer (some ⟨b1, 0, none⟩), .pointer (some ⟨b1, 0, none⟩), .pointer (some ⟨b1, 0, none⟩), .slice A4 s3.L.length c5, iV (s3.L.length : Int), .bool true, .pointer (some ⟨b1, 0, none⟩), .pointer (some ⟨b1, 0, none⟩), .pointer (some ⟨b1, 1, none⟩), iV (w64 (s3.vat + 1)), iV (w64 ((w64 (s3.vat + 1)) * 7919)), iV n7, iV vt22, uV, uV, uV, uV, uV, uV, uV, uV, uV, uV, uV, uV, uV, uV, uV, uV, uV, uV, uV, uV, uV, uV, uV, uV, uV, uV, uV, uV, uV, uV, uV, uV, uV, uV, uV, uV, uV], []⟩) (by kernel_rfl) ?_
    refine wpList_nil ?_
    refine hK21 _ _ ?_
    refine wp_ret ?_
    refine hret _ _ ?_
    refine ends_still (v := Value.int .i64 vt22) (by kernel_rfl) (by kernel_rfl) ?_
    injection h with h
    injection h with h0_ h
    subst h0_ h
    exact ⟨f24, rfl, L25, HS27⟩
  · have c19 : ¬ ((s3.L.length : Int) = 0) := c19
    refine wpRwI 19 (x := ((s3.L.length : Int) == 0)) (v := false) (by kernel_rfl) (beq_eq_false_iff_ne.mpr c19) ?_
    refine condF (by kernel_rfl) ?_
    refine wp_skip ?_
    refine hK15 _ _ ?_
    refine wp_seq_k (fun K28 hK29 => ?_)
    refine heldG (S := Sg t f ([(b1, .cells #[.slice A4 s3.L.length c5, .int .i64 (w64 (s3.vat + 1))] 33 (0, 0))] :: H) []) (n := 12) (by kernel_rfl) rfl HS13 ?_
    intro W30 HS31
    refine takeG [0, 1, 2] (n := 12) (fuel := 9) (l' := #[true, true, true, false, false, false, false, false, false, false, false, false]) (a' := ⟨#[.pointer (some ⟨b1, 0, none⟩), iV n7, uV, uV, iV 0, uV, uV, .pointer (some ⟨b1, 0, none⟩), .pointer (some ⟨b1, 0, none⟩), .pointer (some ⟨b1, 1, none⟩), iV s3.vat, iV (w64 (s3.vat + 1)), .pointer (some ⟨b1, 0, none⟩), .pointer (some ⟨b1, 1, none⟩), .pointer (some ⟨b1, 0, none⟩), .pointer (some ⟨b1, 0, none⟩), .pointer (some ⟨b1, 0, none⟩), .slice A4 s3.L.length c5, iV (s3.L.length : Int), .bool false, uV, uV, uV, uV, uV, uV, uV, .pointer (some ⟨b1, 0, none⟩), .pointer (some ⟨b1, 0, none⟩), .pointer (some ⟨b1, 1, none⟩), uV, uV, uV, uV, uV, uV, uV, uV, uV, uV, uV, uV, uV, uV, uV, uV, uV, uV, uV, uV, uV, uV, uV, uV, uV, uV, uV, uV, uV, uV, uV, uV, uV, uV], []⟩) rfl (by kernel_rfl) (by kernel_rfl) (by kernel_rfl) hnp (Sg.g0 (Sx.of [] (FM.le.refl _) HS31)) ?_
    refine takeGQ 3 [] rfl (by kernel_rfl) (by kernel_rfl) (by kernel_rfl) (by kernel_rfl) (by kernel_rfl) (by kernel_rfl) hnp (Sg.g0 (Sx.of [] (FM.le.refl _) HS31)) (fun w_ hw_ => by obtain ⟨g_, hl_, hS_⟩ := hw_.st; exact run_load rfl Try.underlying3 rfl (by kernel_rfl : _ = Value.pointer (some ⟨b1, 1, none⟩)) (hS_.cell 1)) ?_
    refine takeG [4, 5, 6, 7] (n := 8) (fuel := 4) (l' := #[true, true, true, true, true, true, true, true, false, false, false, false]) (a' := ⟨#[.pointer (some ⟨b1, 0, none⟩), iV n7, uV, uV, iV 0, uV, uV, .pointer (some ⟨b1, 0, none⟩), .pointer (some ⟨b1, 0, none⟩), .pointer (some ⟨b1, 1, none⟩), iV s3.vat, iV (w64 (s3.vat + 1)), .pointer (some ⟨b1, 0, none⟩), .pointer (some ⟨b1, 1, none⟩), .pointer (some ⟨b1, 0, none⟩), .pointer (some ⟨b1, 0, none⟩), .pointer (some ⟨b1, 0, none⟩), .slice A4 s3.L.length c5, iV (s3.L.length : Int), .bool false, uV, uV, uV, uV, uV, uV, uV, .pointer (some ⟨b1, 0, none⟩), .pointer (some ⟨b1, 0, none⟩), .pointer (some ⟨b1, 1, none⟩), iV (w64 (s3.vat + 1)), iV (w64 ((w64 (s3.vat + 1)) - 1)), .pointer (some ⟨b1, 0, none⟩), .pointer (some ⟨b1, 0, none⟩), .pointer (some ⟨b1, 0, none⟩), uV, uV, uV, uV, uV, uV, uV, uV, uV, uV, uV, uV, uV, uV, uV, uV, uV, uV, uV, uV, uV, uV, uV, uV, uV, uV, uV, uV, uV], []⟩) rfl (by kernel_rfl) (by kernel_rfl) (by kernel_rfl) hnp (Sg.g0 (Sx.of [] (FM.le.refl _) HS31)) ?_
    refine takeGQ 8 [] rfl (by kernel_rfl) (by kernel_rfl) (by kernel_rfl) (by kernel_rfl) (by kernel_rfl) (by kernel_rfl) hnp (Sg.g0 (Sx.of [] (FM.le.refl _) HS31)) (fun w_ hw_ => by obtain ⟨g_, hl_, hS_⟩ := hw_.st; exact run_load rfl Try.underlying30 rfl (by kernel_rfl : _ = Value.pointer (some ⟨b1, 0, none⟩)) (hS_.cell 0)) ?_
    have hq_ := guard_some h; clear h; obtain ⟨c32, h⟩ := hq_
    have c32 : ¬ ((s3.L.length : Int) = 0) := c32
    refine takeG [9] (n := 3) (fuel := 2) (l' := #[true, true, true, true, true, true, true, true, true, true, false, false]) (a' := ⟨#[.pointer (some ⟨b1, 0, none⟩), iV n7, uV, uV, iV 0, uV, uV, .pointer (some ⟨b1, 0, none⟩), .pointer (some ⟨b1, 0, none⟩), .pointer (some ⟨b1, 1, none⟩), iV s3.vat, iV (w64 (s3.vat + 1)), .pointer (some ⟨b1, 0, none⟩), .pointer (some ⟨b1, 1, none⟩), .pointer (some ⟨b1, 0, none⟩), .pointer (some ⟨b1, 0, none⟩), .pointer (some ⟨b1, 0, none⟩), .slice A4 s3.L.length c5, iV (s3.L.length : Int), .bool false, uV, uV, uV, uV, uV, uV, uV, .pointer (some ⟨b1, 0, none⟩), .pointer (some ⟨b1, 0, none⟩), .pointer (some ⟨b1, 1, none⟩), iV (w64 (s3.vat + 1)), iV (w64 ((w64 (s3.vat + 1)) - 1)), .pointer (some ⟨b1, 0, none⟩), .pointer (some ⟨b1, 0, none⟩), .pointer (some ⟨b1, 0, none⟩), .slice A4 s3.L.length c5, iV (s3.L.length : Int), uV, uV, uV, uV, uV, uV, uV, uV, uV, uV, uV, uV, uV, uV, uV, uV, uV, uV, uV, uV, uV, uV, uV, uV, uV, uV, uV], []⟩) rfl (by kernel_rfl) (by kernel_rfl) (by kernel_rfl) hnp (Sg.g0 (Sx.of [] (FM.le.refl _) HS31)) ?_
    refine takeGQ 10 [] rfl (by kernel_rfl) (by kernel_rfl) (by kernel_rfl) (by kernel_rfl) (by kernel_rfl) (by kernel_rfl) hnp (Sg.g0 (Sx.of [] (FM.le.refl _) HS31)) (fun w_ hw_ => by obtain ⟨g_, hl_, hS_⟩ := hw_.st; exact run_rem rfl (by kernel_rfl : _ = Value.int .i64 (w64 ((w64 (s3.vat + 1)) - 1))) (by kernel_rfl : _ = Value.int .i64 (s3.L.length : Int)) c32 w_) ?_
    refine takeG [11] (n := 1) (fuel := 0) (l' := #[true, true, true, true, true, true, true, true, true, true, true, true]) (a' := ⟨#[.pointer (some ⟨b1, 0, none⟩), iV n7, uV, uV, iV 0, iV (Int.tmod (w64 ((w64 (s3.vat + 1)) - 1)) (s3.L.length : Int)), uV, .pointer (some ⟨b1, 0, none⟩), .pointer (some ⟨b1, 0, none⟩), .pointer (some ⟨b1, 1, none⟩), iV s3.vat, iV (w64 (s3.vat + 1)), .pointer (some ⟨b1, 0, none⟩), .pointer (some ⟨b1, 1, none⟩), .pointer (some ⟨b1, 0, none⟩), .pointer (some ⟨b1, 0, none⟩), .pointer (some ⟨b1, 0, none⟩), .slice A4 s3.L.length c5, iV (s3.L.length : Int), .bool false, uV, uV, uV, uV, uV, uV, uV, .pointer (some ⟨b1, 0, none⟩), .pointer (some ⟨b1, 0, none⟩), .pointer (some ⟨b1, 1, none⟩), iV (w64 (s3.vat + 1)), iV (w64 ((w64 (s3.vat + 1)) - 1)), .pointer (some ⟨b1, 0, none⟩), .pointer (some ⟨b1, 0, none⟩), .pointer (some ⟨b1, 0, none⟩), .slice A4 s3.L.length c5, iV (s3.L.length : Int), iV (Int.tmod (w64 ((w64 (s3.vat + 1)) - 1)) (s3.L.length : Int)), uV, uV, uV, uV, uV, uV, uV, uV, uV, uV, uV, uV, uV, uV, uV, uV, uV, uV, uV, uV, uV, uV, uV, uV, uV, uV], []⟩) rfl (by kernel_rfl) (by kernel_rfl) (by kernel_rfl) hnp (Sg.g0 (Sx.of [] (FM.le.refl _) HS31)) ?_
    refine doneG (by kernel_rfl) ?_ _
    refine hK29 _ _ ?_
    refine wp_seq_k (fun K33 hK34 => ?_)
    refine heldG (S := Sg t f ([(b1, .cells #[.slice A4 s3.L.length c5, .int .i64 (w64 (s3.vat + 1))] 33 (0, 0))] :: H) []) (n := 12) (by kernel_rfl) rfl HS31 ?_
    intro W35 HS36
    refine takeG [0, 1, 2] (n := 12) (fuel := 9) (l' := #[true, true, true, false, false, false, false, false, false, false, false, false]) (a' := ⟨#[.pointer (some ⟨b1, 0, none⟩), iV n7, uV, uV, iV 0, iV (Int.tmod (w64 ((w64 (s3.vat + 1)) - 1)) (s3.L.length : Int)), uV, .pointer (some ⟨b1, 0, none⟩), .pointer (some ⟨b1, 0, none⟩), .pointer (some ⟨b1, 1, none⟩), iV s3.vat, iV (w64 (s3.vat + 1)), .pointer (some ⟨b1, 0, none⟩), .pointer (some ⟨b1, 1, none⟩), .pointer (some ⟨b1, 0, none⟩), .pointer (some ⟨b1, 0, none⟩), .pointer (some ⟨b1, 0, none⟩), .slice A4 s3.L.length c5, iV (s3.L.length : Int), .bool false, uV, uV, uV, uV, uV, uV, uV, .pointer (some ⟨b1, 0, none⟩), .pointer (some ⟨b1, 0, none⟩), .pointer (some ⟨b1, 1, none⟩), iV (w64 (s3.vat + 1)), iV (w64 ((w64 (s3.vat + 1)) - 1)), .pointer (some ⟨b1, 0, none⟩), .pointer (some ⟨b1, 0, none⟩), .pointer (some ⟨b1, 0, none⟩), .slice A4 s3.L.length c5, iV (s3.L.length : Int), iV (Int.tmod (w64 ((w64 (s3.vat + 1)) - 1)) (s3.L.length : Int)), .pointer (some ⟨b1, 0, none⟩), .pointer (some ⟨b1, 0, none⟩), .pointer (some ⟨b1, 1, none⟩), uV, uV, uV, uV, uV, uV, uV, uV, uV, uV, uV, uV, uV, uV, uV, uV, uV, uV, uV, uV, uV, uV, uV], []⟩) rfl (by kernel_rfl) (by kernel_rfl) (by kernel_rfl) hnp (Sg.g0 (Sx.of [] (FM.le.refl _) HS36)) ?_
    refine takeGQ 3 [] rfl (by kernel_rfl) (by kernel_rfl) (by kernel_rfl) (by kernel_rfl) (by kernel_rfl) (by kernel_rfl) hnp (Sg.g0 (Sx.of [] (FM.le.refl _) HS36)) (fun w_ hw_ => by obtain ⟨g_, hl_, hS_⟩ := hw_.st; exact run_load rfl Try.underlying3 rfl (by kernel_rfl : _ = Value.pointer (some ⟨b1, 1, none⟩)) (hS_.cell 1)) ?_
    refine takeG [4, 5, 6, 7] (n := 8) (fuel := 4) (l' := #[true, true, true, true, true, true, true, true, false, false, false, false]) (a' := ⟨#[.pointer (some ⟨b1, 0, none⟩), iV n7, uV, uV, iV 0, iV (Int.tmod (w64 ((w64 (s3.vat + 1)) - 1)) (s3.L.length : Int)), uV, .pointer (some ⟨b1, 0, none⟩), .pointer (some ⟨b1, 0, none⟩), .pointer (some ⟨b1, 1, none⟩), iV s3.vat, iV (w64 (s3.vat + 1)), .pointer (some ⟨b1, 0, none⟩), .pointer (some ⟨b1, 1, none⟩), .pointer (some ⟨b1, 0, none⟩), .pointer (some ⟨b1, 0, none⟩), .pointer (some ⟨b1, 0, none⟩), .slice A4 s3.L.length c5, iV (s3.L.length : Int), .bool false, uV, uV, uV, uV, uV, uV, uV, .pointer (some ⟨b1, 0, none⟩), .pointer (some ⟨b1, 0, none⟩), .pointer (some ⟨b1, 1, none⟩), iV (w64 (s3.vat + 1)), iV (w64 ((w64 (s3.vat + 1)) - 1)), .pointer (some ⟨b1, 0, none⟩), .pointer (some ⟨b1, 0, none⟩), .pointer (some ⟨b1, 0, none⟩), .slice A4 s3.L.length c5, iV (s3.L.length : Int), iV (Int.tmod (w64 ((w64 (s3.vat + 1)) - 1)) (s3.L.length : Int)), .pointer (some ⟨b1, 0, none⟩), .pointer (some ⟨b1, 0, none⟩), .pointer (some ⟨b1, 1, none⟩), iV (w64 (s3.vat + 1)), iV (w64 ((w64 (s3.vat + 1)) - 1)), .pointer (some ⟨b1, 0, none⟩), .pointer (some ⟨b1, 0, none⟩), .pointer (some ⟨b1, 0, none⟩), uV, uV, uV, uV, uV, uV, uV, uV, uV, uV, uV, uV, uV, uV, uV, uV, uV, uV], []⟩) rfl (by kernel_rfl) (by kernel_rfl) (by kernel_rfl) hnp (Sg.g0 (Sx.of [] (FM.le.refl _) HS36)) ?_
    refine takeGQ 8 [] rfl (by kernel_rfl) (by kernel_rfl) (by kernel_rfl) (by kernel_rfl) (by kernel_rfl) (by kernel_rfl) hnp (Sg.g0 (Sx.of [] (FM.le.refl _) HS36)) (fun w_ hw_ => by obtain ⟨g_, hl_, hS_⟩ := hw_.st; exact run_load rfl Try.underlying30 rfl (by kernel_rfl : _ = Value.pointer (some ⟨b1, 0, none⟩)) (hS_.cell 0)) ?_
    refine takeG [9] (n := 3) (fuel := 2) (l' := #[true, true, true, true, true, true, true, true, true, true, false, false]) (a' := ⟨#[.pointer (some ⟨b1, 0, none⟩), iV n7, uV, uV, iV 0, iV (Int.tmod (w64 ((w64 (s3.vat + 1)) - 1)) (s3.L.length : Int)), uV, .pointer (some ⟨b1, 0, none⟩), .pointer (some ⟨b1, 0, none⟩), .pointer (some ⟨b1, 1, none⟩), iV s3.vat, iV (w64 (s3.vat + 1)), .pointer (some ⟨b1, 0, none⟩), .pointer (some ⟨b1, 1, none⟩), .pointer (some ⟨b1, 0, none⟩), .pointer (some ⟨b1, 0, none⟩), .pointer (some ⟨b1, 0, none⟩), .slice A4 s3.L.length c5, iV (s3.L.length : Int), .bool false, uV, uV, uV, uV, uV, uV, uV, .pointer (some ⟨b1, 0, none⟩), .pointer (some ⟨b1, 0, none⟩), .pointer (some ⟨b1, 1, none⟩), iV (w64 (s3.vat + 1)), iV (w64 ((w64 (s3.vat + 1)) - 1)), .pointer (some ⟨b1, 0, none⟩), .pointer (some ⟨b1, 0, none⟩), .pointer (some ⟨b1, 0, none⟩), .slice A4 s3.L.length c5, iV (s3.L.length : Int), iV (Int.tmod (w64 ((w64 (s3.vat + 1)) - 1)) (s3.L.length : Int)), .pointer (some ⟨b1, 0, none⟩), .pointer (some ⟨b1, 0, none⟩), .pointer (some ⟨b1, 1, none⟩), iV (w64 (s3.vat + 1)), iV (w64 ((w64 (s3.vat + 1)) - 1)), .pointer (some ⟨b1, 0, none⟩), .pointer (some ⟨b1, 0, none⟩), .pointer (some ⟨b1, 0, none⟩), .slice A4 s3.L.length c5, iV (s3.L.length : Int), uV, uV, uV, uV, uV, uV, uV, uV, uV, uV, uV, uV, uV, uV, uV, uV], []⟩) rfl (by kernel_rfl) (by kernel_rfl) (by kernel_rfl) hnp (Sg.g0 (Sx.of [] (FM.le.refl _) HS36)) ?_
    refine takeGQ 10 [] rfl (by kernel_rfl) (by kernel_rfl) (by kernel_rfl) (by kernel_rfl) (by kernel_rfl) (by kernel_rfl) hnp (Sg.g0 (Sx.of [] (FM.le.refl _) HS36)) (fun w_ hw_ => by obtain ⟨g_, hl_, hS_⟩ := hw_.st; exact run_div rfl (by kernel_rfl : _ = Value.int .i64 (w64 ((w64 (s3.vat + 1)) - 1))) (by kernel_rfl : _ = Value.int .i64 (s3.L.length : Int)) c32 w_) ?_
    refine takeG [11] (n := 1) (fuel := 0) (l' := #[true, true, true, true, true, true, true, true, true, true, true, true]) (a' := ⟨#[.pointer (some ⟨b1, 0, none⟩), iV n7, uV, uV, iV 0, iV (Int.tmod (w64 ((w64 (s3.vat + 1)) - 1)) (s3.L.length : Int)), iV (w64 (Int.tdiv (w64 ((w64 (s3.vat + 1)) - 1)) (s3.L.length : Int))), .pointer (some ⟨b1, 0, none⟩), .pointer (some ⟨b1, 0, none⟩), .pointer (some ⟨b1, 1, none⟩), iV s3.vat, iV (w64 (s3.vat + 1)), .pointer (some ⟨b1, 0, none⟩), .pointer (some ⟨b1, 1, none⟩), .pointer (some ⟨b1, 0, none⟩), .pointer (some ⟨b1, 0, none⟩), .pointer (some ⟨b1, 0, none⟩), .slice A4 s3.L.length c5, iV (s3.L.length : Int), .bool false, uV, uV, uV, uV, uV, uV, uV, .pointer (some ⟨b1, 0, none⟩), .pointer (some ⟨b1, 0, none⟩), .pointer (some ⟨b1, 1, none⟩), iV (w64 (s3.vat + 1)), iV (w64 ((w64 (s3.vat + 1)) - 1)), .pointer (some ⟨b1, 0, none⟩), .pointer (some ⟨b1, 0, none⟩), .pointer (some ⟨b1, 0, none⟩), .slice A4 s3.L.length c5, iV (s3.L.length : Int), iV (Int.tmod (w64 ((w64 (s3.vat + 1)) - 1)) (s3.L.length : Int)), .pointer (some ⟨b1, 0, none⟩), .pointer (some ⟨b1, 0, none⟩), .pointer (some ⟨b1, 1, none⟩), iV (w64 (s3.vat + 1)), iV (w64 ((w64 (s3.vat + 1)) - 1)), .pointer (some ⟨b1, 0, none⟩), .pointer (some ⟨b1, 0, none⟩), .pointer (some ⟨b1, 0, none⟩), .slice A4 s3.L.length c5, iV (s3.L.length : Int), iV (w64 (Int.tdiv (w64 ((w64 (s3.vat + 1)) - 1)) (s3.L.length : Int))), uV, uV, uV, uV, uV, uV, uV, uV, uV, uV, uV, uV, uV, uV, uV], []⟩) rfl (by kernel_rfl) (by kernel_rfl) (by kernel_rfl) hnp (Sg.g0 (Sx.of [] (FM.le.refl _) HS36)) ?_
    refine doneG (by kernel_rfl) ?_ _
    refine hK34 _ _ ?_
    refine wp_seq_k (fun K37 hK38 => ?_)
    refine wp_region_lit ?_
    refine seqL3 (by kernel_rfl) ?_
    refine seqK rfl (does_run (run_load rfl Try.underlying30 rfl (by kernel_rfl : _ = Value.pointer (some ⟨b1, 0, none⟩)) (HS36.cell 0)) ?_)
    have hq_ := guard_some h; clear h; obtain ⟨c39, h⟩ := hq_
    have c39 : 0 ≤ (Int.tmod (w64 ((w64 (s3.vat + 1)) - 1)) (s3.L.length : Int)) := c39
    have hq_ := guard_some h; clear h; obtain ⟨c40, h⟩ := hq_
    have c40 : (Int.tmod (w64 ((w64 (s3.vat + 1)) - 1)) (s3.L.length : Int)) < (s3.L.length : Int) := c40
    obtain ⟨b44, of45, cs41, hA46, hr42, hc43⟩ := HR6.at (i := Int.tmod (w64 ((w64 (s3.vat + 1)) - 1)) (s3.L.length : Int)) c39 c40
    obtain rfl := hr42
    refine seqL1 (by kernel_rfl) ?_
    refine seqK rfl (does_run (run_indexE hA46 (sz := 1) rfl Try.underlying30 (by kernel_rfl) (by kernel_rfl : _ = Value.slice A4 s3.L.length c5) (by kernel_rfl : _ = Value.int .i64 (Int.tmod (w64 ((w64 (s3.vat + 1)) - 1)) (s3.L.length : Int))) c39 c40 W35) ?_)
    refine seqK rfl (does_run (run_load rfl Try.underlying3 rfl (by kernel_rfl : _ = Value.pointer (some ⟨b44, of45 + (Int.tmod (w64 ((w64 (s3.vat + 1)) - 1)) (s3.L.length : Int) : Int).toNat * 1, none⟩)) ((hc43 (FM.le.refl _) HS36) 0 (by decide))) ?_)
    have hq_ := bind_some h; clear h; obtain ⟨vt47, hc48, h⟩ := hq_
    refine seqK rfl (does_call (f := 15) (args := #[.int .i64 (rd s3.L (Int.tmod (w64 ((w64 (s3.vat + 1)) - 1)) (s3.L.length : Int))), .int .i64 1073741824]) (by kernel_rfl) (spymake_Below.calls k (rd s3.L (Int.tmod (w64 ((w64 (s3.vat + 1)) - 1)) (s3.L.length : Int))) 1073741824 HS36 vt47 hc48) ?_)
    rintro _ W51 ⟨f49, rfl, L50, HS52⟩
    refine ⟨_, rfl, ?_⟩
    have hq_ := bind_some h; clear h; obtain ⟨vt53, hc54, h⟩ := hq_
    refine seqL6 (by kernel_rfl) ?_
    refine seqK rfl (does_call (f := 15) (args := #[.int .i64 (w64 (vt47 + (w64 ((w64 (Int.tdiv (w64 ((w64 (s3.vat + 1)) - 1)) (s3.L.length : Int))) * (w64 (7919 + (Int.tmod (w64 ((w64 (s3.vat + 1)) - 1)) (s3.L.length : Int)))))))), .int .i64 n7]) (by kernel_rfl) (spymake_Below.calls k (w64 (vt47 + (w64 ((w64 (Int.tdiv (w64 ((w64 (s3.vat + 1)) - 1)) (s3.L.length : Int))) * (w64 (7919 + (Int.tmod (w64 ((w64 (s3.vat + 1)) - 1)) (s3.L.length : Int)))))))) n7 HS52 vt53 hc54) ?_)
    rintro _ W57 ⟨f55, rfl, L56, HS58⟩
    refine ⟨_, rfl, ?_⟩
    refine seqS1 (a' := ⟨#[.pointer (some ⟨b1, 0, none⟩), iV n7, uV, uV, iV vt53, iV (Int.tmod (w64 ((w64 (s3.vat + 1)) - 1)) (s3.L.length : Int)), iV (w64 (Int.tdiv (w64 ((w64 (s3.vat + 1)) - 1)) (s3.L.length : Int))), .pointer (some ⟨b1, 0, none⟩), .pointer (some ⟨b1, 0, none⟩), .pointer (some ⟨b1, 1, none⟩), iV s3.vat, iV (w64 (s3.vat + 1)), .pointer (some ⟨b1, 0, none⟩), .pointer (some ⟨b1, 1, none⟩), .pointer (some ⟨b1, 0, none⟩), .pointer (some ⟨b1, 0, none⟩), .pointer (some ⟨b1, 0, none⟩), .slice A4 s3.L.length c5, iV (s3.L.length : Int), .bool false, uV, uV, uV, uV, uV, uV, uV, .pointer (some ⟨b1, 0, none⟩), .pointer (some ⟨b1, 0, none⟩), .pointer (some ⟨b1, 1, none⟩), iV (w64 (s3.vat + 1)), iV (w64 ((w64 (s3.vat + 1)) - 1)), .pointer (some ⟨b1, 0, none⟩), .pointer (some ⟨b1, 0, none⟩), .pointer (some ⟨b1, 0, none⟩), .slice A4 s3.L.length c5, iV (s3.L.length : Int), iV (Int.tmod (w64 ((w64 (s3.vat + 1)) - 1)) (s3.L.length : Int)), .pointer (some ⟨b1, 0, none⟩), .pointer (some ⟨b1, 0, none⟩), .pointer (some ⟨b1, 1, none⟩), iV (w64 (s3.vat + 1)), iV (w64 ((w64 (s3.vat + 1)) - 1)), .pointer (some ⟨b1, 0, none⟩), .pointer (some ⟨b1, 0, none⟩), .pointer (some ⟨b1, 0, none⟩), .slice A4 s3.L.length c5, iV (s3.L.length : Int), iV (w64 (Int.tdiv (w64 ((w64 (s3.vat + 1)) - 1)) (s3.L.length : Int))), .pointer (some ⟨b1, 0, none⟩), .pointer (some ⟨b1, 0, none⟩), .pointer (some ⟨b1, 0, none⟩), .slice A4 s3.L.length c5, iV (Int.tmod (w64 ((w64 (s3.vat + 1)) - 1)) (s3.L.length : Int)), .pointer (some ⟨b44, of45 + (Int.tmod (w64 ((w64 (s3.vat + 1)) - 1)) (s3.L.length : Int) : Int).toNat * 1, none⟩), iV (rd s3.L (Int.tmod (w64 ((w64 (s3.vat + 1)) - 1)) (s3.L.length : Int))), iV vt47, iV (w64 (Int.tdiv (w64 ((w64 (s3.vat + 1)) - 1)) (s3.L.length : Int))), iV (Int.tmod (w64 ((w64 (s3.vat + 1)) - 1)) (s3.L.length : Int)), iV (w64 (7919 + (Int.tmod (w64 ((w64 (s3.vat + 1)) - 1)) (s3.L.length : Int)))), iV (w64 ((w64 (Int.tdiv (w64 ((w64 (s3.vat + 1)) - 1)) (s3.L.length : Int))) * (w64 (7919 + (Int.tmod (w64 ((w64 (s3.vat + 1)) - 1)) (s3.L.length : Int)))))), iV (w64 (vt47 + (w64 ((w64 (Int.tdiv (w64 ((w64 (s3.vat + 1)) - 1)) (s3.L.length : Int))) * (w64 (7919 + (Int.tmod (w64 ((w64 (s3.vat + 1)) - 1)) (s3.L.length : Int)))))))), iV n7, iV vt53], []⟩) (by kernel_rfl) ?_
    refine wpList_nil ?_
    refine hK38 _ _ ?_
    refine wp_ret ?_
    refine hret _ _ ?_
    refine ends_still (v := Value.int .i64 vt53) (by kernel_rfl) (by kernel_rfl) ?_
    injection h with h
    injection h with h0_ h
    subst h0_ h
    exact ⟨f55, rfl, (L50.trans L56), HS58⟩

set_option maxRecDepth 100000 in
set_option maxHeartbeats 4000000 in
theorem spymake_Stream_Range.calls (k : Nat) (b1 : Nat) (A4 : Option Addr) (c5 : Nat) (s3 : S_Stream) (low7 : Int) (high8 : Int) {t w : World} {f : FM} {H : List Seg} (HS : St t w f ([(b1, .cells #[.slice A4 s3.L.length c5, .int .i64 s3.vat] 33 (0, 0))] :: H)) (HR6 : SlR (tInt .i64) f A4 c5 s3.L) (r1 : Int) (r2 : Int) (h : spymake_Stream_Range k s3 low7 high8 = some (r1, r2)) :
    Calls Try.prog 14 #[.pointer (some ⟨b1, 0, none⟩), .int .i64 low7, .int .i64 high8] w (fun e w' => ∃ (g : FM), e = .returned (Value.int .i64 r1) ∧ FM.le f g ∧ St t w' g ([(b1, .cells #[.slice A4 s3.L.length c5, .int .i64 r2] 33 (0, 0))] :: H)) := by
  unfold spymake_Stream_Range at h
  refine enter Try.func14 rfl (tm := #[.pointer (some ⟨b1, 0, none⟩), iV low7, iV high8, uV, uV, uV, uV, uV, uV, uV, uV, uV, uV, uV, uV, uV, uV, uV, uV]) (by kernel_rfl) ?_
  intro B hret hnor hnp
  refine wp_seq_k (fun K9 hK10 => ?_)
  refine wp_region_lit ?_
  refine seqS1 (a' := ⟨#[.pointer (some ⟨b1, 0, none⟩), iV low7, iV high8, uV, uV, uV, iV 0, uV, uV, uV, uV, uV, uV, uV, uV, uV, uV, uV, uV], []⟩) (by kernel_rfl) ?_
  refine wpList_nil ?_
  refine hK10 _ _ ?_
  refine wp_seq_k (fun K11 hK12 => ?_)
  refine wp_seq_k (fun K13 hK14 => ?_)
  refine wp_region_lit ?_
  refine seqS3 (a' := ⟨#[.pointer (some ⟨b1, 0, none⟩), iV low7, iV high8, uV, uV, uV, iV 0, iV high8, iV low7, .bool (decide (high8 < low7)), uV, uV, uV, uV, uV, uV, uV, uV, uV], []⟩) (by kernel_rfl) ?_
  refine wpList_nil ?_
  refine hK14 _ _ ?_
  have hq_ := ite_some h; clear h; rcases hq_ with ⟨c16, h⟩ | ⟨c16, h⟩
  · have c16 : high8 < low7 := c16
    refine wpRwI 9 (x := (decide (high8 < low7))) (v := true) (by kernel_rfl) (decide_eq_true c16) ?_
    refine condT (by kernel_rfl) ?_
    refine wp_seq_k (fun K17 hK18 => ?_)
    refine wp_region_lit ?_
    refine seqS2 (a' := ⟨#[.pointer (some ⟨b1, 0, none⟩), iV low7, iV high8, uV, uV, uV, iV low7, iV high8, iV low7, .bool true, iV low7, uV, uV, uV, uV, uV, uV, uV, uV], []⟩) (by kernel_rfl) ?_
    refine wpList_nil ?_
    refine hK18 _ _ ?_
    refine wp_ret ?_
    refine hret _ _ ?_
    refine ends_still (v := Value.int .i64 low7) (by kernel_rfl) (by kernel_rfl) ?_
    injection h with h
    injection h with h0_ h
    subst h0_ h
    exact ⟨f, rfl, FM.le.refl _, HS⟩
  · have c16 : ¬ (high8 < low7) := c16
    refine wpRwI 9 (x := (decide (high8 < low7))) (v := false) (by kernel_rfl) (decide_eq_false c16) ?_
    refine condF (by kernel_rfl) ?_
    refine wp_skip ?_
    refine hK12 _ _ ?_
    refine wp_seq_k (fun K19 hK20 => ?_)
    refine wp_region_lit ?_
    have hq_ := bind_some h; clear h; obtain ⟨⟨vt21, vt22⟩, hc23, h⟩ := hq_
    refine seqL6 (by kernel_rfl) ?_
    refine seqK rfl (does_call (f := 30) (args := #[.pointer (some ⟨b1, 0, none⟩), .int .i64 (w64 ((w64 (high8 - low7)) + 1))]) (by kernel_rfl) (spymake_Stream_Next.calls k b1 A4 c5 s3 (w64 ((w64 (high8 - low7)) + 1)) HS HR6 vt21 vt22 hc23) ?_)
    rintro _ W26 ⟨f24, rfl, L25, HS27⟩
    refine ⟨_, rfl, ?_⟩
    refine seqS2 (a' := ⟨#[.pointer (some ⟨b1, 0, none⟩), iV low7, iV high8, uV, uV, uV, iV (w64 (low7 + vt21)), iV high8, iV low7, .bool false, uV, iV low7, .pointer (some ⟨b1, 0, none⟩), iV high8, iV low7, iV (w64 (high8 - low7)), iV (w64 ((w64 (high8 - low7)) + 1)), iV vt21, iV (w64 (low7 + vt21))], []⟩) (by kernel_rfl) ?_
    refine wpList_nil ?_
    refine hK20 _ _ ?_
    refine wp_ret ?_
    refine hret _ _ ?_
    refine ends_still (v := Value.int .i64 (w64 (low7 + vt21))) (by kernel_rfl) (by kernel_rfl) ?_
    injection h with h
    injection h with h0_ h
    subst h0_ h
    exact ⟨f24, rfl, L25, HS27⟩

set_option maxRecDepth 100000 in
set_option maxHeartbeats 4000000 in
theorem spymake_Stream_Place.calls (k : Nat) (b1 : Nat) (A4 : Option Addr) (c5 : Nat) (s3 : S_Stream) (dist7 : Int) {t w : World} {f : FM} {H : List Seg} (HS : St t w f ([(b1, .cells #[.slice A4 s3.L.length c5, .int .i64 s3.vat] 33 (0, 0))] :: H)) (HR6 : SlR (tInt .i64) f A4 c5 s3.L) (r1 : S_Vec) (r2 : Int) (h : spymake_Stream_Place k s3 dist7 = some (r1, r2)) :
    Calls Try.prog 13 #[.pointer (some ⟨b1, 0, none⟩), .int .i64 dist7] w (fun e w' => ∃ (g : FM), e = .returned (Value.agg #[.int .i64 r1.X, .int .i64 r1.Y, .int .i64 r1.Z]) ∧ FM.le f g ∧ St t w' g ([(b1, .cells #[.slice A4 s3.L.length c5, .int .i64 r2] 33 (0, 0))] :: H)) := by
  unfold spymake_Stream_Place at h
  refine enter Try.func13 rfl (tm := #[.pointer (some ⟨b1, 0, none⟩), iV dist7, uV, uV, uV, uV, uV, uV, uV, uV, uV, uV, uV, uV, uV, uV, uV, uV, uV, uV, uV, uV, uV, uV, uV]) (by kernel_rfl) ?_
  intro B hret hnor hnp
  refine wp_seq_k (fun K8 hK9 => ?_)
  refine wp_region_lit ?_
  refine seqK rfl (does_alloc (z := Value.agg #[.int .i64 0, .int .i64 0, .int .i64 0]) (cs := #[.int .i64 0, .int .i64 0, .int .i64 0]) rfl (by kernel_rfl) rfl HS ?_)
  intro b10 W11 HS12
  refine wpList_nil ?_
  refine hK9 _ _ ?_
  refine wp_seq_k (fun K14 hK15 => ?_)
  refine wp_region_lit ?_
  refine seqS3 (a' := ⟨#[.pointer (some ⟨b1, 0, none⟩), iV dist7, uV, uV, .pointer (some ⟨b10, 0, none⟩), iV (w64 (dist7 * 1048576)), iV dist7, iV (w64 (dist7 * 1048576)), uV, uV, uV, uV, uV, uV, uV, uV, uV, uV, uV, uV, uV, uV, uV, uV, uV], []⟩) (by kernel_rfl) ?_
  refine wpList_nil ?_
  refine hK15 _ _ ?_
  refine wp_seq_k (fun K16 hK17 => ?_)
  refine wp_region_lit ?_
  have HS18 := HS12.u1
  have hq_ := bind_some h; clear h; obtain ⟨⟨vt19, vt20⟩, hc21, h⟩ := hq_
  refine seqL4 (by kernel_rfl) ?_
  refine seqK rfl (does_call (f := 14) (args := #[.pointer (some ⟨b1, 0, none⟩), .int .i64 (w64 (0 - (w64 (dist7 * 1048576)))), .int .i64 (w64 (dist7 * 1048576))]) (by kernel_rfl) (spymake_Stream_Range.calls k b1 A4 c5 s3 (w64 (0 - (w64 (dist7 * 1048576)))) (w64 (dist7 * 1048576)) HS18 HR6 vt19 vt20 hc21) ?_)
  rintro _ W24 ⟨f22, rfl, L23, HS25⟩
  refine ⟨_, rfl, ?_⟩
  have hq_ := bind_some h; clear h; obtain ⟨⟨vt26, vt27⟩, hc28, h⟩ := hq_
  refine seqL4 (by kernel_rfl) ?_
  refine seqK rfl (does_call (f := 14) (args := #[.pointer (some ⟨b1, 0, none⟩), .int .i64 (w64 (0 - (w64 (dist7 * 1048576)))), .int .i64 (w64 (dist7 * 1048576))]) (by kernel_rfl) (spymake_Stream_Range.calls k b1 A4 c5 (⟨s3.L, vt20⟩ : S_Stream) (w64 (0 - (w64 (dist7 * 1048576)))) (w64 (dist7 * 1048576)) HS25 (HR6.mono L23) vt26 vt27 hc28) ?_)
  rintro _ W31 ⟨f29, rfl, L30, HS32⟩
  refine ⟨_, rfl, ?_⟩
  have hq_ := bind_some h; clear h; obtain ⟨⟨vt33, vt34⟩, hc35, h⟩ := hq_
  refine seqL4 (by kernel_rfl) ?_
  refine seqK rfl (does_call (f := 14) (args := #[.pointer (some ⟨b1, 0, none⟩), .int .i64 (w64 (0 - (w64 (dist7 * 1048576)))), .int .i64 (w64 (dist7 * 1048576))]) (by kernel_rfl) (spymake_Stream_Range.calls k b1 A4 c5 (⟨s3.L, vt27⟩ : S_Stream) (w64 (0 - (w64 (dist7 * 1048576)))) (w64 (dist7 * 1048576)) HS32 (HR6.mono (L23.trans L30)) vt33 vt34 hc35) ?_)
  rintro _ W38 ⟨f36, rfl, L37, HS39⟩
  refine ⟨_, rfl, ?_⟩
  have HS40 := HS39.u1
  refine seqL2 (by kernel_rfl) ?_
  refine seqK rfl (does_store (n := 3) (vs := [.int .i64 vt19, .int .i64 vt26, .int .i64 (w64 (Int.tdiv vt33 4))]) (cs' := #[.int .i64 vt19, .int .i64 vt26, .int .i64 (w64 (Int.tdiv vt33 4))]) rfl (by kernel_rfl) (by kernel_rfl : _ = Value.pointer (some ⟨b10, 0, none⟩)) (by kernel_rfl : _ = Value.agg #[.int .i64 vt19, .int .i64 vt26, .int .i64 (w64 (Int.tdiv vt33 4))]) rfl rfl (by intro u_ hu_; simp only [List.mem_cons, List.not_mem_nil, or_false] at hu_; rcases hu_ with rfl | rfl | rfl <;> rfl) HS40 (Nat.le_of_ble_eq_true rfl) (by kernel_rfl) ?_)
  intro W41 HS42
  refine wpList_nil ?_
  refine hK17 _ _ ?_
  refine wp_ret ?_
  refine hret _ _ ?_
  refine ends (v := Value.agg #[.int .i64 vt19, .int .i64 vt26, .int .i64 (w64 (Int.tdiv vt33 4))]) (results1 (q1 := .cell 4 23) (by kernel_rfl) (resN (n := 3) (cs := [.int .i64 vt19, .int .i64 vt26, .int .i64 (w64 (Int.tdiv vt33 4))]) (by kernel_rfl : _ = Value.pointer (some ⟨b10, 0, none⟩)) Try.underlying23 rfl (by kernel_rfl) rfl (HS42.cells 0 3 _ rfl))) (by kernel_rfl) ?_
  have HS43 := HS42.drop
  injection h with h
  injection h with h0_ h
  subst h0_ h
  exact ⟨f36, rfl, (L23.trans (L30.trans L37)), HS43⟩

set_option maxRecDepth 100000 in
set_option maxHeartbeats 4000000 in
theorem spymake_within_1.calls (k : Nat)  (c1 : Int) {t w : World} {f : FM} {H : List Seg} (HS : St t w f (H)) (r1 : Int) (h : spymake_within_1 k c1 = some r1) :
    Calls Try.prog 47 #[.int .i64 c1] w (fun e w' => ∃ (g : FM), e = .returned (Value.int .i64 r1) ∧ FM.le f g ∧ St t w' g (H)) := by
  unfold spymake_within_1 at h
  refine enter Try.func47 rfl (tm := #[iV c1, uV, uV, uV, uV, uV]) (by kernel_rfl) ?_
  intro B hret hnor hnp
  refine wp_seq_k (fun K2 hK3 => ?_)
  refine wp_region_lit ?_
  refine seqS1 (a' := ⟨#[iV c1, uV, iV 0, uV, uV, uV], []⟩) (by kernel_rfl) ?_
  refine wpList_nil ?_
  refine hK3 _ _ ?_
  refine wp_seq_k (fun K4 hK5 => ?_)
  refine wp_region_lit ?_
  refine seqS4 (a' := ⟨#[iV c1, uV, iV (mx (-4194304) (mn 4194304 c1)), iV c1, iV (mn 4194304 c1), iV (mx (-4194304) (mn 4194304 c1))], []⟩) (by kernel_rfl) ?_
  refine wpList_nil ?_
  refine hK5 _ _ ?_
  refine wp_ret ?_
  refine hret _ _ ?_
  refine ends_still (v := Value.int .i64 (mx (-4194304) (mn 4194304 c1))) (by kernel_rfl) (by kernel_rfl) ?_
  injection h with h
  subst h
  exact ⟨f, rfl, FM.le.refl _, HS⟩

set_option maxRecDepth 100000 in
set_option maxHeartbeats 4000000 in
theorem spymake_within.calls (k : Nat)  (v1 : S_Vec) {t w : World} {f : FM} {H : List Seg} (HS : St t w f (H)) (r1 : S_Vec) (h : spymake_within k v1 = some r1) :
    Calls Try.prog 31 #[.agg #[.int .i64 v1.X, .int .i64 v1.Y, .int .i64 v1.Z]] w (fun e w' => ∃ (g : FM), e = .returned (Value.agg #[.int .i64 r1.X, .int .i64 r1.Y, .int .i64 r1.Z]) ∧ FM.le f g ∧ St t w' g (H)) := by
  unfold spymake_within at h
  refine enter Try.func31 rfl (tm := #[.agg #[iV v1.X, iV v1.Y, iV v1.Z], uV, uV, uV, uV, uV, uV, uV, uV, uV, uV, uV, uV, uV, uV, uV, uV]) (by kernel_rfl) ?_
  intro B hret hnor hnp
  refine wp_seq_k (fun K2 hK3 => ?_)
  refine wp_region_lit ?_
  refine seqK rfl (does_box (cs := #[.int .i64 v1.X, .int .i64 v1.Y, .int .i64 v1.Z]) rfl (by kernel_rfl : _ = Value.agg #[.int .i64 v1.X, .int .i64 v1.Y, .int .i64 v1.Z]) rfl HS ?_)
  intro b4 W5 HS6
  refine seqK rfl (does_alloc (z := Value.agg #[.int .i64 0, .int .i64 0, .int .i64 0]) (cs := #[.int .i64 0, .int .i64 0, .int .i64 0]) rfl (by kernel_rfl) rfl HS6 ?_)
  intro b8 W9 HS10
  refine wpList_nil ?_
  refine hK3 _ _ ?_
  refine wp_seq_k (fun K12 hK13 => ?_)
  refine wp_region_lit ?_
  refine seqS1 (a' := ⟨#[.agg #[iV v1.X, iV v1.Y, iV v1.Z], .pointer (some ⟨b4, 0, none⟩), .pointer (some ⟨b8, 0, none⟩), .func (.func 47) #[] #[], uV, uV, uV, uV, uV, uV, uV, uV, uV, uV, uV, uV, uV], []⟩) (by kernel_rfl) ?_
  refine wpList_nil ?_
  refine hK13 _ _ ?_
  refine wp_seq_k (fun K14 hK15 => ?_)
  have HS16 := HS10.u1
  have HS17 := HS16.u1
  refine heldG (S := Sg t f ([(b4, .cells #[.int .i64 v1.X, .int .i64 v1.Y, .int .i64 v1.Z] 23 (0, 0))] :: H) [(13, [(b8, .cells #[.int .i64 0, .int .i64 0, .int .i64 0] 23 (0, 0))])]) (n := 14) (by kernel_rfl) rfl HS17 ?_
  intro W18 HS19
  refine takeG [0, 1] (n := 14) (fuel := 12) (l' := #[true, true, false, false, false, false, false, false, false, false, false, false, false, false]) (a' := ⟨#[.agg #[iV v1.X, iV v1.Y, iV v1.Z], .pointer (some ⟨b4, 0, none⟩), .pointer (some ⟨b8, 0, none⟩), .func (.func 47) #[] #[], .func (.func 47) #[] #[], .pointer (some ⟨b4, 0, none⟩), uV, uV, uV, uV, uV, uV, uV, uV, uV, uV, uV], []⟩) rfl (by kernel_rfl) (by kernel_rfl) (by kernel_rfl) hnp (Sg.g1 (Sx.of [[(b8, .cells #[.int .i64 0, .int .i64 0, .int .i64 0] 23 (0, 0))]] (FM.le.refl _) HS19) (fun _ => St.only [] HS19 (FM.le.refl _))) ?_
  refine takeGQ 2 [] rfl (by kernel_rfl) (by kernel_rfl) (by kernel_rfl) (by kernel_rfl) (by kernel_rfl) (by kernel_rfl) hnp (Sg.g1 (Sx.of [[(b8, .cells #[.int .i64 0, .int .i64 0, .int .i64 0] 23 (0, 0))]] (FM.le.refl _) HS19) (fun _ => St.only [] HS19 (FM.le.refl _))) (fun w_ hw_ => by obtain ⟨g_, hl_, hS_⟩ := hw_.st; exact run_load rfl Try.underlying2 rfl (by kernel_rfl : _ = Value.pointer (some ⟨b4, 0, none⟩)) (hS_.cell 0)) ?_
  refine takeG [4, 5] (n := 11) (fuel := 9) (l' := #[true, true, true, false, true, true, false, false, false, false, false, false, false, false]) (a' := ⟨#[.agg #[iV v1.X, iV v1.Y, iV v1.Z], .pointer (some ⟨b4, 0, none⟩), .pointer (some ⟨b8, 0, none⟩), .func (.func 47) #[] #[], .func (.func 47) #[] #[], .pointer (some ⟨b4, 0, none⟩), iV v1.X, uV, .func (.func 47) #[] #[], .pointer (some ⟨b4, 1, none⟩), uV, uV, uV, uV, uV, uV, uV], []⟩) rfl (by kernel_rfl) (by kernel_rfl) (by kernel_rfl) hnp (Sg.g1 (Sx.of [[(b8, .cells #[.int .i64 0, .int .i64 0, .int .i64 0] 23 (0, 0))]] (FM.le.refl _) HS19) (fun _ => St.only [] HS19 (FM.le.refl _))) ?_
  refine takeGQ 6 [] rfl (by kernel_rfl) (by kernel_rfl) (by kernel_rfl) (by kernel_rfl) (by kernel_rfl) (by kernel_rfl) hnp (Sg.g1 (Sx.of [[(b8, .cells #[.int .i64 0, .int .i64 0, .int .i64 0] 23 (0, 0))]] (FM.le.refl _) HS19) (fun _ => St.only [] HS19 (FM.le.refl _))) (fun w_ hw_ => by obtain ⟨g_, hl_, hS_⟩ := hw_.st; exact run_load rfl Try.underlying2 rfl (by kernel_rfl : _ = Value.pointer (some ⟨b4, 1, none⟩)) (hS_.cell 1)) ?_
  refine takeG [8, 9] (n := 8) (fuel := 6) (l' := #[true, true, true, false, true, true, true, false, true, true, false, false, false, false]) (a' := ⟨#[.agg #[iV v1.X, iV v1.Y, iV v1.Z], .pointer (some ⟨b4, 0, none⟩), .pointer (some ⟨b8, 0, none⟩), .func (.func 47) #[] #[], .func (.func 47) #[] #[], .pointer (some ⟨b4, 0, none⟩), iV v1.X, uV, .func (.func 47) #[] #[], .pointer (some ⟨b4, 1, none⟩), iV v1.Y, uV, .func (.func 47) #[] #[], .pointer (some ⟨b4, 2, none⟩), uV, uV, uV], []⟩) rfl (by kernel_rfl) (by kernel_rfl) (by kernel_rfl) hnp (Sg.g1 (Sx.of [[(b8, .cells #[.int .i64 0, .int .i64 0, .int .i64 0] 23 (0, 0))]] (FM.le.refl _) HS19) (fun _ => St.only [] HS19 (FM.le.refl _))) ?_
  refine takeGQ 10 [] rfl (by kernel_rfl) (by kernel_rfl) (by kernel_rfl) (by kernel_rfl) (by kernel_rfl) (by kernel_rfl) hnp (Sg.g1 (Sx.of [[(b8, .cells #[.int .i64 0, .int .i64 0, .int .i64 0] 23 (0, 0))]] (FM.le.refl _) HS19) (fun _ => St.only [] HS19 (FM.le.refl _))) (fun w_ hw_ => by obtain ⟨g_, hl_, hS_⟩ := hw_.st; exact run_load rfl Try.underlying2 rfl (by kernel_rfl : _ = Value.pointer (some ⟨b4, 2, none⟩)) (hS_.cell 2)) ?_
  have hq_ := bind_some h; clear h; obtain ⟨vt20, hc21, h⟩ := hq_
  refine takeGE 3 (by kernel_rfl) rfl (by kernel_rfl) (does_call (f := 47) (args := #[.int .i64 v1.X]) (by kernel_rfl) (spymake_within_1.calls k v1.X HS19 vt20 hc21) ?_)
  rintro _ W24 ⟨f22, rfl, L23, HS25⟩
  refine ⟨_, rfl, ?_⟩
  refine ⟨(Sg.g1 (Sx.of [[(b8, .cells #[.int .i64 0, .int .i64 0, .int .i64 0] 23 (0, 0))]] L23 HS25) (fun _ => St.only [] HS25 L23)), ?_⟩
  have hq_ := bind_some h; clear h; obtain ⟨vt26, hc27, h⟩ := hq_
  refine takeGE 7 (by kernel_rfl) rfl (by kernel_rfl) (does_call (f := 47) (args := #[.int .i64 v1.Y]) (by kernel_rfl) (spymake_within_1.calls k v1.Y HS25 vt26 hc27) ?_)
  rintro _ W30 ⟨f28, rfl, L29, HS31⟩
  refine ⟨_, rfl, ?_⟩
  refine ⟨(Sg.g1 (Sx.of [[(b8, .cells #[.int .i64 0, .int .i64 0, .int .i64 0] 23 (0, 0))]] (L23.trans L29) HS31) (fun _ => St.only [] HS31 (L23.trans L29))), ?_⟩
  have hq_ := bind_some h; clear h; obtain ⟨vt32, hc33, h⟩ := hq_
  refine takeGE 11 (by kernel_rfl) rfl (by kernel_rfl) (does_call (f := 47) (args := #[.int .i64 v1.Z]) (by kernel_rfl) (spymake_within_1.calls k v1.Z HS31 vt32 hc33) ?_)
  rintro _ W36 ⟨f34, rfl, L35, HS37⟩
  refine ⟨_, rfl, ?_⟩
  refine ⟨(Sg.g1 (Sx.of [[(b8, .cells #[.int .i64 0, .int .i64 0, .int .i64 0] 23 (0, 0))]] (L23.trans (L29.trans L35)) HS37) (fun _ => St.only [] HS37 (L23.trans (L29.trans L35)))), ?_⟩
  refine takeG [12] (n := 2) (fuel := 1) (l' := #[true, true, true, true, true, true, true, true, true, true, true, true, true, false]) (a' := ⟨#[.agg #[iV v1.X, iV v1.Y, iV v1.Z], .pointer (some ⟨b4, 0, none⟩), .pointer (some ⟨b8, 0, none⟩), .func (.func 47) #[] #[], .func (.func 47) #[] #[], .pointer (some ⟨b4, 0, none⟩), iV v1.X, iV vt20, .func (.func 47) #[] #[], .pointer (some ⟨b4, 1, none⟩), iV v1.Y, iV vt26, .func (.func 47) #[] #[], .pointer (some ⟨b4, 2, none⟩), iV v1.Z, iV vt32, .agg #[iV vt20, iV vt26, iV vt32]], []⟩) rfl (by kernel_rfl) (by kernel_rfl) (by kernel_rfl) hnp (Sg.g1 (Sx.of [[(b8, .cells #[.int .i64 0, .int .i64 0, .int .i64 0] 23 (0, 0))]] (L23.trans (L29.trans L35)) HS37) (fun _ => St.only [] HS37 (L23.trans (L29.trans L35)))) ?_
  refine takeGE 13 (by kernel_rfl) rfl (by kernel_rfl) (does_store (n := 3) (vs := [.int .i64 vt20, .int .i64 vt26, .int .i64 vt32]) (cs' := #[.int .i64 vt20, .int .i64 vt26, .int .i64 vt32]) rfl (by kernel_rfl) (by kernel_rfl : _ = Value.pointer (some ⟨b8, 0, none⟩)) (by kernel_rfl : _ = Value.agg #[.int .i64 vt20, .int .i64 vt26, .int .i64 vt32]) rfl rfl (by intro u_ hu_; simp only [List.mem_cons, List.not_mem_nil, or_false] at hu_; rcases hu_ with rfl | rfl | rfl <;> rfl) HS37 (Nat.le_of_ble_eq_true rfl) (by kernel_rfl) ?_)
  intro W38 HS39
  refine ⟨(Sg.g1 (Sx.of [[(b8, .cells #[.int .i64 vt20, .int .i64 vt26, .int .i64 vt32] 23 (0, 0))]] (L23.trans (L29.trans L35)) HS39) (fun hl_ => Bool.noConfusion (show true = false from hl_))), ?_⟩
  refine doneG (by kernel_rfl) ?_ _
  refine hK15 _ _ ?_
  refine wp_ret ?_
  refine hret _ _ ?_
  refine ends (v := Value.agg #[.int .i64 vt20, .int .i64 vt26, .int .i64 vt32]) (results1 (q1 := .cell 2 23) (by kernel_rfl) (resN (n := 3) (cs := [.int .i64 vt20, .int .i64 vt26, .int .i64 vt32]) (by kernel_rfl : _ = Value.pointer (some ⟨b8, 0, none⟩)) Try.underlying23 rfl (by kernel_rfl) rfl (HS39.cells 0 3 _ rfl))) (by kernel_rfl) ?_
  have HS40 := HS39.drop
  have HS41 := HS40.drop
  injection h with h
  subst h
  exact ⟨f34, rfl, (L23.trans (L29.trans L35)), HS41⟩

set_option maxRecDepth 100000 in
set_option maxHeartbeats 4000000 in
theorem spymake_Stream_rate.calls (k : Nat) (b1 : Nat) (A4 : Option Addr) (c5 : Nat) (s3 : S_Stream) {t w : World} {f : FM} {H : List Seg} (HS : St t w f ([(b1, .cells #[.slice A4 s3.L.length c5, .int .i64 s3.vat] 33 (0, 0))] :: H)) (HR6 : SlR (tInt .i64) f A4 c5 s3.L) (r1 : Int) (r2 : Int) (h : spymake_Stream_rate k s3 = some (r1, r2)) :
    Calls Try.prog 32 #[.pointer (some ⟨b1, 0, none⟩)] w (fun e w' => ∃ (g : FM), e = .returned (Value.int .i64 r1) ∧ FM.le f g ∧ St t w' g ([(b1, .cells #[.slice A4 s3.L.length c5, .int .i64 r2] 33 (0, 0))] :: H)) := by
  unfold spymake_Stream_rate at h
  refine enter Try.func32 rfl (tm := #[.pointer (some ⟨b1, 0, none⟩), uV, uV, uV, uV, uV, uV, uV, uV, uV]) (by kernel_rfl) ?_
  intro B hret hnor hnp
  refine wp_seq_k (fun K7 hK8 => ?_)
  refine wp_region_lit ?_
  refine seqS1 (a' := ⟨#[.pointer (some ⟨b1, 0, none⟩), uV, iV 0, uV, uV, uV, uV, uV, uV, uV], []⟩) (by kernel_rfl) ?_
  refine wpList_nil ?_
  refine hK8 _ _ ?_
  refine wp_seq_k (fun K9 hK10 => ?_)
  refine wp_region_lit ?_
  refine seqL1 (by kernel_rfl) ?_
  refine seqK rfl (does_lit (e := (tInt .i64)) (E := 3) (vs := #[(0, Value.int .i64 50), (1, Value.int .i64 500), (2, Value.int .i64 5000), (3, Value.int .i64 5000), (4, Value.int .i64 40000), (5, Value.int .i64 1048577)]) (cs := #[.int .i64 50, .int .i64 500, .int .i64 5000, .int .i64 5000, .int .i64 40000, .int .i64 1048577]) (xs := ([50, 500, 5000, 5000, 40000, 1048577] : List Int)) rfl Try.underlying30 (by kernel_rfl) (by kernel_rfl) ⟨[.int .i64 50], _, rfl, rfl, ⟨[.int .i64 500], _, rfl, rfl, ⟨[.int .i64 5000], _, rfl, rfl, ⟨[.int .i64 5000], _, rfl, rfl, ⟨[.int .i64 40000], _, rfl, rfl, ⟨[.int .i64 1048577], _, rfl, rfl, rfl⟩⟩⟩⟩⟩⟩ rfl HS ?_ (by decide))
  intro b11 W12 s13 HS14 _ HO15
  have HS17 := HS14.u1
  have hq_ := bind_some h; clear h; obtain ⟨⟨vt18, vt19⟩, hc20, h⟩ := hq_
  refine seqL1 (by kernel_rfl) ?_
  refine seqK rfl (does_call (f := 30) (args := #[.pointer (some ⟨b1, 0, none⟩), .int .i64 6]) (by kernel_rfl) (spymake_Stream_Next.calls k b1 A4 c5 s3 6 HS17 HR6 vt18 vt19 hc20) ?_)
  rintro _ W23 ⟨f21, rfl, L22, HS24⟩
  refine ⟨_, rfl, ?_⟩
  have hq_ := guard_some h; clear h; obtain ⟨c25, h⟩ := hq_
  have c25 : 0 ≤ vt18 := c25
  have hq_ := guard_some h; clear h; obtain ⟨c26, h⟩ := hq_
  have c26 : vt18 < (([50, 500, 5000, 5000, 40000, 1048577] : List Int).length : Int) := c26
  obtain ⟨cs27, hr28, hc29⟩ := (HO15.mono L22).at' (i := vt18) c25 c26
  obtain rfl := hr28
  refine seqK rfl (does_run (run_index (sz := 1) rfl Try.underlying30 (by kernel_rfl) (by kernel_rfl : _ = Value.slice (some ⟨b11, 0, none⟩) ([50, 500, 5000, 5000, 40000, 1048577] : List Int).length 6) (by kernel_rfl : _ = Value.int .i64 vt18) c25 c26 W23) ?_)
  refine seqK rfl (does_run (run_load rfl Try.underlying3 rfl (by kernel_rfl : _ = Value.pointer (some ⟨b11, 0 + (vt18 : Int).toNat * 1, none⟩)) ((hc29 HS24.u1) 0 (by decide))) ?_)
  have hq_ := bind_some h; clear h; obtain ⟨⟨vt30, vt31⟩, hc32, h⟩ := hq_
  refine seqK rfl (does_call (f := 30) (args := #[.pointer (some ⟨b1, 0, none⟩), .int .i64 (rd ([50, 500, 5000, 5000, 40000, 1048577] : List Int) vt18)]) (by kernel_rfl) (spymake_Stream_Next.calls k b1 A4 c5 (⟨s3.L, vt19⟩ : S_Stream) (rd ([50, 500, 5000, 5000, 40000, 1048577] : List Int) vt18) HS24 (HR6.mono L22) vt30 vt31 hc32) ?_)
  rintro _ W35 ⟨f33, rfl, L34, HS36⟩
  refine ⟨_, rfl, ?_⟩
  refine seqS1 (a' := ⟨#[.pointer (some ⟨b1, 0, none⟩), uV, iV vt30, .pointer (some ⟨b1, 0, none⟩), .slice (some ⟨b11, 0, none⟩) ([50, 500, 5000, 5000, 40000, 1048577] : List Int).length 6, .pointer (some ⟨b1, 0, none⟩), iV vt18, .pointer (some ⟨b11, 0 + (vt18 : Int).toNat * 1, none⟩), iV (rd ([50, 500, 5000, 5000, 40000, 1048577] : List Int) vt18), iV vt30], []⟩) (by kernel_rfl) ?_
  refine wpList_nil ?_
  refine hK10 _ _ ?_
  refine wp_ret ?_
  refine hret _ _ ?_
  refine ends_still (v := Value.int .i64 vt30) (by kernel_rfl) (by kernel_rfl) ?_
  have HS37 := HS36.u1
  have HS38 := HS37.drop
  injection h with h
  injection h with h0_ h
  subst h0_ h
  exact ⟨f33, rfl, (L22.trans L34), HS38⟩

set_option maxRecDepth 100000 in
set_option maxHeartbeats 4000000 in
theorem spymake_Stream_Body.calls (k : Nat) (b1 : Nat) (A4 : Option Addr) (c5 : Nat) (s3 : S_Stream) (vid7 : Int) (here8 : S_Vec) {t w : World} {f : FM} {H : List Seg} (HS : St t w f ([(b1, .cells #[.slice A4 s3.L.length c5, .int .i64 s3.vat] 33 (0, 0))] :: H)) (HR6 : SlR (tInt .i64) f A4 c5 s3.L) (r1 : S_Body) (r2 : Int) (h : spymake_Stream_Body k s3 vid7 here8 = some (r1, r2)) :
    Calls Try.prog 12 #[.pointer (some ⟨b1, 0, none⟩), .int .i64 vid7, .agg #[.int .i64 here8.X, .int .i64 here8.Y, .int .i64 here8.Z]] w (fun e w' => ∃ (g : FM), e = .returned (Value.agg #[.int .i64 r1.ID, .int .i64 r1.Was.X, .int .i64 r1.Was.Y, .int .i64 r1.Was.Z, .int .i64 r1.Here.X, .int .i64 r1.Here.Y, .int .i64 r1.Here.Z, .int .i64 r1.Rate]) ∧ FM.le f g ∧ St t w' g ([(b1, .cells #[.slice A4 s3.L.length c5, .int .i64 r2] 33 (0, 0))] :: H)) := by
  unfold spymake_Stream_Body at h
  refine enter Try.func12 rfl (tm := #[.pointer (some ⟨b1, 0, none⟩), iV vid7, .agg #[iV here8.X, iV here8.Y, iV here8.Z], uV, uV, uV, uV, uV, uV, uV, uV, uV, uV, uV, uV, uV, uV, uV, uV, uV, uV, uV, uV, uV, uV, uV, uV, uV, uV, uV, uV, uV, uV, uV, uV, uV, uV, uV, uV, uV, uV, uV, uV, uV, uV, uV, uV, uV]) (by kernel_rfl) ?_
  intro B hret hnor hnp
  refine wp_seq_k (fun K9 hK10 => ?_)
  refine wp_region_lit ?_
  refine seqK rfl (does_box (cs := #[.int .i64 here8.X, .int .i64 here8.Y, .int .i64 here8.Z]) rfl (by kernel_rfl : _ = Value.agg #[.int .i64 here8.X, .int .i64 here8.Y, .int .i64 here8.Z]) rfl HS ?_)
  intro b11 W12 HS13
  refine seqK rfl (does_alloc (z := Value.agg #[.int .i64 0, .int .i64 0, .int .i64 0, .int .i64 0, .int .i64 0, .int .i64 0, .int .i64 0, .int .i64 0]) (cs := #[.int .i64 0, .int .i64 0, .int .i64 0, .int .i64 0, .int .i64 0, .int .i64 0, .int .i64 0, .int .i64 0]) rfl (by kernel_rfl) rfl HS13 ?_)
  intro b15 W16 HS17
  refine wpList_nil ?_
  refine hK10 _ _ ?_
  refine wp_seq_k (fun K19 hK20 => ?_)
  refine wp_region_lit ?_
  refine seqK rfl (does_lit (e := (tInt .i64)) (E := 3) (vs := #[(0, Value.int .i64 1000), (1, Value.int .i64 90000), (2, Value.int .i64 150000)]) (cs := #[.int .i64 1000, .int .i64 90000, .int .i64 150000]) (xs := ([1000, 90000, 150000] : List Int)) rfl Try.underlying30 (by kernel_rfl) (by kernel_rfl) ⟨[.int .i64 1000], _, rfl, rfl, ⟨[.int .i64 90000], _, rfl, rfl, ⟨[.int .i64 150000], _, rfl, rfl, rfl⟩⟩⟩ rfl HS17 ?_ (by decide))
  intro b21 W22 s23 HS24 _ HO25
  have HS27 := HS24.u3
  have hq_ := bind_some h; clear h; obtain ⟨⟨vt28, vt29⟩, hc30, h⟩ := hq_
  refine seqL1 (by kernel_rfl) ?_
  refine seqK rfl (does_call (f := 30) (args := #[.pointer (some ⟨b1, 0, none⟩), .int .i64 3]) (by kernel_rfl) (spymake_Stream_Next.calls k b1 A4 c5 s3 3 HS27 HR6 vt28 vt29 hc30) ?_)
  rintro _ W33 ⟨f31, rfl, L32, HS34⟩
  refine ⟨_, rfl, ?_⟩
  have hq_ := guard_some h; clear h; obtain ⟨c35, h⟩ := hq_
  have c35 : 0 ≤ vt28 := c35
  have hq_ := guard_some h; clear h; obtain ⟨c36, h⟩ := hq_
  have c36 : vt28 < (([1000, 90000, 150000] : List Int).length : Int) := c36
  obtain ⟨cs37, hr38, hc39⟩ := (HO25.mono L32).at' (i := vt28) c35 c36
  obtain rfl := hr38
  refine seqK rfl (does_run (run_index (sz := 1) rfl Try.underlying30 (by kernel_rfl) (by kernel_rfl : _ = Value.slice (some ⟨b21, 0, none⟩) ([1000, 90000, 150000] : List Int).length 3) (by kernel_rfl : _ = Value.int .i64 vt28) c35 c36 W33) ?_)
  refine seqK rfl (does_run (run_load rfl Try.underlying3 rfl (by kernel_rfl : _ = Value.pointer (some ⟨b21, 0 + (vt28 : Int).toNat * 1, none⟩)) ((hc39 HS34.u1) 0 (by decide))) ?_)
  refine seqS1 (a' := ⟨#[.pointer (some ⟨b1, 0, none⟩), iV vid7, .agg #[iV here8.X, iV here8.Y, iV here8.Z], uV, uV, .pointer (some ⟨b11, 0, none⟩), .pointer (some ⟨b15, 0, none⟩), iV (rd ([1000, 90000, 150000] : List Int) vt28), uV, .slice (some ⟨b21, 0, none⟩) ([1000, 90000, 150000] : List Int).length 3, .pointer (some ⟨b1, 0, none⟩), iV vt28, .pointer (some ⟨b21, 0 + (vt28 : Int).toNat * 1, none⟩), iV (rd ([1000, 90000, 150000] : List Int) vt28), uV, uV, uV, uV, uV, uV, uV, uV, uV, uV, uV, uV, uV, uV, uV, uV, uV, uV, uV, uV, uV, uV, uV, uV, uV, uV, uV, uV, uV, uV, uV, uV, uV, uV], []⟩) (by kernel_rfl) ?_
  refine wpList_nil ?_
  refine hK20 _ _ ?_
  refine wp_seq_k (fun K40 hK41 => ?_)
  have HS42 := HS34.u3
  have HS43 := HS42.u3
  have HS44 := HS43.u3
  have HS45 := HS44.u3
  refine heldG (S := Sg t f31 (s23 :: [(b15, .cells #[.int .i64 0, .int .i64 0, .int .i64 0, .int .i64 0, .int .i64 0, .int .i64 0, .int .i64 0, .int .i64 0] 36 (0, 0))] :: [(b11, .cells #[.int .i64 here8.X, .int .i64 here8.Y, .int .i64 here8.Z] 23 (0, 0))] :: H) [(6, [(b1, .cells #[.slice A4 s3.L.length c5, .int .i64 vt29] 33 (0, 0))])]) (n := 28) (by kernel_rfl) rfl HS45 ?_
  intro W46 HS47
  refine takeG [0] (n := 28) (fuel := 27) (l' := #[true, false, false, false, false, false, false, false, false, false, false, false, false, false, false, false, false, false, false, false, false, false, false, false, false, false, false, false]) (a' := ⟨#[.pointer (some ⟨b1, 0, none⟩), iV vid7, .agg #[iV here8.X, iV here8.Y, iV here8.Z], uV, uV, .pointer (some ⟨b11, 0, none⟩), .pointer (some ⟨b15, 0, none⟩), iV (rd ([1000, 90000, 150000] : List Int) vt28), uV, .slice (some ⟨b21, 0, none⟩) ([1000, 90000, 150000] : List Int).length 3, .pointer (some ⟨b1, 0, none⟩), iV vt28, .pointer (some ⟨b21, 0 + (vt28 : Int).toNat * 1, none⟩), iV (rd ([1000, 90000, 150000] : List Int) vt28), .pointer (some ⟨b11, 0, none⟩), uV, uV, uV, uV, uV, uV, uV, uV, uV, uV, uV, uV, uV, uV, uV, uV, uV, uV, uV, uV, uV, uV, uV, uV, uV, uV, uV, uV, uV, uV, uV, uV, uV], []⟩) rfl (by kernel_rfl) (by kernel_rfl) (by kernel_rfl) hnp (Sg.g1 (Sx.of [[(b1, .cells #[.slice A4 s3.L.length c5, .int .i64 vt29] 33 (0, 0))]] (FM.le.refl _) HS47) (fun _ => St.only [] HS47 (FM.le.refl _))) ?_
  refine takeGQ 1 [] rfl (by kernel_rfl) (by kernel_rfl) (by kernel_rfl) (by kernel_rfl) (by kernel_rfl) (by kernel_rfl) hnp (Sg.g1 (Sx.of [[(b1, .cells #[.slice A4 s3.L.length c5, .int .i64 vt29] 33 (0, 0))]] (FM.le.refl _) HS47) (fun _ => St.only [] HS47 (FM.le.refl _))) (fun w_ hw_ => by obtain ⟨g_, hl_, hS_⟩ := hw_.st; exact run_load rfl Try.underlying2 rfl (by kernel_rfl : _ = Value.pointer (some ⟨b11, 0, none⟩)) (hS_.u2.cell 0)) ?_
  refine takeG [2, 3, 4, 5, 8] (n := 26) (fuel := 21) (l' := #[true, true, true, true, true, true, false, false, true, false, false, false, false, false, false, false, false, false, false, false, false, false, false, false, false, false, false, false]) (a' := ⟨#[.pointer (some ⟨b1, 0, none⟩), iV vid7, .agg #[iV here8.X, iV here8.Y, iV here8.Z], uV, uV, .pointer (some ⟨b11, 0, none⟩), .pointer (some ⟨b15, 0, none⟩), iV (rd ([1000, 90000, 150000] : List Int) vt28), uV, .slice (some ⟨b21, 0, none⟩) ([1000, 90000, 150000] : List Int).length 3, .pointer (some ⟨b1, 0, none⟩), iV vt28, .pointer (some ⟨b21, 0 + (vt28 : Int).toNat * 1, none⟩), iV (rd ([1000, 90000, 150000] : List Int) vt28), .pointer (some ⟨b11, 0, none⟩), iV here8.X, .pointer (some ⟨b1, 0, none⟩), iV (rd ([1000, 90000, 150000] : List Int) vt28), iV (w64 (0 - (rd ([1000, 90000, 150000] : List Int) vt28))), iV (rd ([1000, 90000, 150000] : List Int) vt28), uV, uV, .pointer (some ⟨b11, 1, none⟩), uV, uV, uV, uV, uV, uV, uV, uV, uV, uV, uV, uV, uV, uV, uV, uV, uV, uV, uV, uV, uV, uV, uV, uV, uV], []⟩) rfl (by kernel_rfl) (by kernel_rfl) (by kernel_rfl) hnp (Sg.g1 (Sx.of [[(b1, .cells #[.slice A4 s3.L.length c5, .int .i64 vt29] 33 (0, 0))]] (FM.le.refl _) HS47) (fun _ => St.only [] HS47 (FM.le.refl _))) ?_
  refine takeGQ 9 [] rfl (by kernel_rfl) (by kernel_rfl) (by kernel_rfl) (by kernel_rfl) (by kernel_rfl) (by kernel_rfl) hnp (Sg.g1 (Sx.of [[(b1, .cells #[.slice A4 s3.L.length c5, .int .i64 vt29] 33 (0, 0))]] (FM.le.refl _) HS47) (fun _ => St.only [] HS47 (FM.le.refl _))) (fun w_ hw_ => by obtain ⟨g_, hl_, hS_⟩ := hw_.st; exact run_load rfl Try.underlying2 rfl (by kernel_rfl : _ = Value.pointer (some ⟨b11, 1, none⟩)) (hS_.u2.cell 1)) ?_
  refine takeG [10, 11, 12, 13, 16] (n := 20) (fuel := 15) (l' := #[true, true, true, true, true, true, false, false, true, true, true, true, true, true, false, false, true, false, false, false, false, false, false, false, false, false, false, false]) (a' := ⟨#[.pointer (some ⟨b1, 0, none⟩), iV vid7, .agg #[iV here8.X, iV here8.Y, iV here8.Z], uV, uV, .pointer (some ⟨b11, 0, none⟩), .pointer (some ⟨b15, 0, none⟩), iV (rd ([1000, 90000, 150000] : List Int) vt28), uV, .slice (some ⟨b21, 0, none⟩) ([1000, 90000, 150000] : List Int).length 3, .pointer (some ⟨b1, 0, none⟩), iV vt28, .pointer (some ⟨b21, 0 + (vt28 : Int).toNat * 1, none⟩), iV (rd ([1000, 90000, 150000] : List Int) vt28), .pointer (some ⟨b11, 0, none⟩), iV here8.X, .pointer (some ⟨b1, 0, none⟩), iV (rd ([1000, 90000, 150000] : List Int) vt28), iV (w64 (0 - (rd ([1000, 90000, 150000] : List Int) vt28))), iV (rd ([1000, 90000, 150000] : List Int) vt28), uV, uV, .pointer (some ⟨b11, 1, none⟩), iV here8.Y, .pointer (some ⟨b1, 0, none⟩), iV (rd ([1000, 90000, 150000] : List Int) vt28), iV (w64 (0 - (rd ([1000, 90000, 150000] : List Int) vt28))), iV (rd ([1000, 90000, 150000] : List Int) vt28), uV, uV, .pointer (some ⟨b11, 2, none⟩), uV, uV, uV, uV, uV, uV, uV, uV, uV, uV, uV, uV, uV, uV, uV, uV, uV], []⟩) rfl (by kernel_rfl) (by kernel_rfl) (by kernel_rfl) hnp (Sg.g1 (Sx.of [[(b1, .cells #[.slice A4 s3.L.length c5, .int .i64 vt29] 33 (0, 0))]] (FM.le.refl _) HS47) (fun _ => St.only [] HS47 (FM.le.refl _))) ?_
  refine takeGQ 17 [] rfl (by kernel_rfl) (by kernel_rfl) (by kernel_rfl) (by kernel_rfl) (by kernel_rfl) (by kernel_rfl) hnp (Sg.g1 (Sx.of [[(b1, .cells #[.slice A4 s3.L.length c5, .int .i64 vt29] 33 (0, 0))]] (FM.le.refl _) HS47) (fun _ => St.only [] HS47 (FM.le.refl _))) (fun w_ hw_ => by obtain ⟨g_, hl_, hS_⟩ := hw_.st; exact run_load rfl Try.underlying2 rfl (by kernel_rfl : _ = Value.pointer (some ⟨b11, 2, none⟩)) (hS_.u2.cell 2)) ?_
  have hq_ := bind_some h; clear h; obtain ⟨⟨vt48, vt49⟩, hc50, h⟩ := hq_
  have hq_ := bind_some h; clear h; obtain ⟨⟨vt55, vt56⟩, hc57, h⟩ := hq_
  have hq_ := bind_some h; clear h; obtain ⟨⟨vt62, vt63⟩, hc64, h⟩ := hq_
  refine takeG [18, 19, 20, 21] (n := 14) (fuel := 10) (l' := #[true, true, true, true, true, true, false, false, true, true, true, true, true, true, false, false, true, true, true, true, true, true, false, false, false, false, false, false]) (a' := ⟨#[.pointer (some ⟨b1, 0, none⟩), iV vid7, .agg #[iV here8.X, iV here8.Y, iV here8.Z], uV, uV, .pointer (some ⟨b11, 0, none⟩), .pointer (some ⟨b15, 0, none⟩), iV (rd ([1000, 90000, 150000] : List Int) vt28), uV, .slice (some ⟨b21, 0, none⟩) ([1000, 90000, 150000] : List Int).length 3, .pointer (some ⟨b1, 0, none⟩), iV vt28, .pointer (some ⟨b21, 0 + (vt28 : Int).toNat * 1, none⟩), iV (rd ([1000, 90000, 150000] : List Int) vt28), .pointer (some ⟨b11, 0, none⟩), iV here8.X, .pointer (some ⟨b1, 0, none⟩), iV (rd ([1000, 90000, 150000] : List Int) vt28), iV (w64 (0 - (rd ([1000, 90000, 150000] : List Int) vt28))), iV (rd ([1000, 90000, 150000] : List Int) vt28), uV, uV, .pointer (some ⟨b11, 1, none⟩), iV here8.Y, .pointer (some ⟨b1, 0, none⟩), iV (rd ([1000, 90000, 150000] : List Int) vt28), iV (w64 (0 - (rd ([1000, 90000, 150000] : List Int) vt28))), iV (rd ([1000, 90000, 150000] : List Int) vt28), uV, uV, .pointer (some ⟨b11, 2, none⟩), iV here8.Z, .pointer (some ⟨b1, 0, none⟩), iV (rd ([1000, 90000, 150000] : List Int) vt28), iV (w64 (0 - (rd ([1000, 90000, 150000] : List Int) vt28))), iV (rd ([1000, 90000, 150000] : List Int) vt28), uV, uV, uV, uV, uV, uV, uV, uV, uV, uV, uV, uV], []⟩) rfl (by kernel_rfl) (by kernel_rfl) (by kernel_rfl) hnp (Sg.g1 (Sx.of [[(b1, .cells #[.slice A4 s3.L.length c5, .int .i64 vt29] 33 (0, 0))]] (FM.le.refl _) HS47) (fun _ => St.only [] HS47 (FM.le.refl _))) ?_
  refine withR #[true, true, true, true, true, true, true, true, true, true, true, true, true, true, true, true, true, true, true, true, true, true, true, true, true, true, true, true] ?_
  intro R75 hR76 hR77
  have J78 : ∀ (f51 : FM) (f58 : FM) (f65 : FM) (b69 : Nat) (W79 : World) (a_ : Act), FM.le f31 f51 → FM.le f51 f58 → FM.le f58 f65 → St t W79 f65 ([(b69, .cells #[.int .i64 (w64 (here8.X + vt48)), .int .i64 (w64 (here8.Y + vt55)), .int .i64 (w64 (here8.Z + (w64 (Int.tdiv vt62 3))))] 23 (0, 0))] :: [(b1, .cells #[.slice A4 s3.L.length c5, .int .i64 vt63] 33 (0, 0))] :: s23 :: [(b15, .cells #[.int .i64 0, .int .i64 0, .int .i64 0, .int .i64 0, .int .i64 0, .int .i64 0, .int .i64 0, .int .i64 0] 36 (0, 0))] :: [(b11, .cells #[.int .i64 here8.X, .int .i64 here8.Y, .int .i64 here8.Z] 23 (0, 0))] :: H) → a_ = ⟨#[.pointer (some ⟨b1, 0, none⟩), iV vid7, .agg #[iV here8.X, iV here8.Y, iV here8.Z], uV, uV, .pointer (some ⟨b11, 0, none⟩), .pointer (some ⟨b15, 0, none⟩), iV (rd ([1000, 90000, 150000] : List Int) vt28), .pointer (some ⟨b69, 0, none⟩), .slice (some ⟨b21, 0, none⟩) ([1000, 90000, 150000] : List Int).length 3, .pointer (some ⟨b1, 0, none⟩), iV vt28, .pointer (some ⟨b21, 0 + (vt28 : Int).toNat * 1, none⟩), iV (rd ([1000, 90000, 150000] : List Int) vt28), .pointer (some ⟨b11, 0, none⟩), iV here8.X, .pointer (some ⟨b1, 0, none⟩), iV (rd ([1000, 90000, 150000] : List Int) vt28), iV (w64 (0 - (rd ([1000, 90000, 150000] : List Int) vt28))), iV (rd ([1000, 90000, 150000] : List Int) vt28), iV vt48, iV (w64 (here8.X + vt48)), .pointer (some ⟨b11, 1, none⟩), iV here8.Y, .pointer (some ⟨b1, 0, none⟩), iV (rd ([1000, 90000, 150000] : List Int) vt28), iV (w64 (0 - (rd ([1000, 90000, 150000] : List Int) vt28))), iV (rd ([1000, 90000, 150000] : List Int) vt28), iV vt55, iV (w64 (here8.Y + vt55)), .pointer (some ⟨b11, 2, none⟩), iV here8.Z, .pointer (some ⟨b1, 0, none⟩), iV (rd ([1000, 90000, 150000] : List Int) vt28), iV (w64 (0 - (rd ([1000, 90000, 150000] : List Int) vt28))), iV (rd ([1000, 90000, 150000] : List Int) vt28), iV vt62, iV (w64 (Int.tdiv vt62 3)), iV (w64 (here8.Z + (w64 (Int.tdiv vt62 3)))), .agg #[iV (w64 (here8.X + vt48)), iV (w64 (here8.Y + vt55)), iV (w64 (here8.Z + (w64 (Int.tdiv vt62 3))))], uV, uV, uV, uV, uV, uV, uV, uV], []⟩ → R75 a_ W79 := by
    intro f51 f58 f65 b69 W79 a_ L52 L59 L66 HS80 hfr_; subst hfr_
    refine hR76 _ _ ?_
    refine doneG (by kernel_rfl) ?_ _
    refine hK41 _ _ ?_
    refine wp_seq_k (fun K147 hK148 => ?_)
    have HS149 := HS80.u4
    have HS150 := HS149.u3
    have HS151 := HS150.u2
    have HS152 := HS151.u4
    have HS153 := HS152.u4
    refine heldG (S := Sg t f65 ([(b69, .cells #[.int .i64 (w64 (here8.X + vt48)), .int .i64 (w64 (here8.Y + vt55)), .int .i64 (w64 (here8.Z + (w64 (Int.tdiv vt62 3))))] 23 (0, 0))] :: s23 :: [(b11, .cells #[.int .i64 here8.X, .int .i64 here8.Y, .int .i64 here8.Z] 23 (0, 0))] :: H) [(6, [(b1, .cells #[.slice A4 s3.L.length c5, .int .i64 vt63] 33 (0, 0))]), (8, [(b15, .cells #[.int .i64 0, .int .i64 0, .int .i64 0, .int .i64 0, .int .i64 0, .int .i64 0, .int .i64 0, .int .i64 0] 36 (0, 0))])]) (n := 9) (by kernel_rfl) rfl HS153 ?_
    intro W154 HS155
    refine takeG [0] (n := 9) (fuel := 8) (l' := #[true, false, false, false, false, false, false, false, false]) (a' := ⟨#[.pointer (some ⟨b1, 0, none⟩), iV vid7, .agg #[iV here8.X, iV here8.Y, iV here8.Z], uV, uV, .pointer (some ⟨b11, 0, none⟩), .pointer (some ⟨b15, 0, none⟩), iV (rd ([1000, 90000, 150000] : List Int) vt28), .pointer (some ⟨b69, 0, none⟩), .slice (some ⟨b21, 0, none⟩) ([1000, 90000, 150000] : List Int).length 3, .pointer (some ⟨b1, 0, none⟩), iV vt28, .pointer (some ⟨b21, 0 + (vt28 : Int).toNat * 1, none⟩), iV (rd ([1000, 90000, 150000] : List Int) vt28), .pointer (some ⟨b11, 0, none⟩), iV here8.X, .pointer (some ⟨b1, 0, none⟩), iV (rd ([1000, 90000, 150000] : List Int) vt28), iV (w64 (0 - (rd ([1000, 90000, 150000] : List Int) vt28))), iV (rd ([1000, 90000, 150000] : List Int) vt28), iV vt48, iV (w64 (here8.X + vt48)), .pointer (some ⟨b11, 1, none⟩), iV here8.Y, .pointer (some ⟨b1, 0, none⟩), iV (rd ([1000, 90000, 150000] : List Int) vt28), iV (w64 (0 - (rd ([1000, 90000, 150000] : List Int) vt28))), iV (rd ([1000, 90000, 150000] : List Int) vt28), iV vt55, iV (w64 (here8.Y + vt55)), .pointer (some ⟨b11, 2, none⟩), iV here8.Z, .pointer (some ⟨b1, 0, none⟩), iV (rd ([1000, 90000, 150000] : List Int) vt28), iV (w64 (0 - (rd ([1000, 90000, 150000] : List Int) vt28))), iV (rd ([1000, 90000, 150000] : List Int) vt28), iV vt62, iV (w64 (Int.tdiv vt62 3)), iV (w64 (here8.Z + (w64 (Int.tdiv vt62 3)))), .agg #[iV (w64 (here8.X + vt48)), iV (w64 (here8.Y + vt55)), iV (w64 (here8.Z + (w64 (Int.tdiv vt62 3))))], iV vid7, uV, uV, uV, uV, uV, uV, uV], []⟩) rfl (by kernel_rfl) (by kernel_rfl) (by kernel_rfl) hnp (Sg.g2 (Sx.of [[(b1, .cells #[.slice A4 s3.L.length c5, .int .i64 vt63] 33 (0, 0))], [(b15, .cells #[.int .i64 0, .int .i64 0, .int .i64 0, .int .i64 0, .int .i64 0, .int .i64 0, .int .i64 0, .int .i64 0] 36 (0, 0))]] (FM.le.refl _) HS155) (fun _ => St.only [] HS155 (FM.le.refl _)) (fun _ => St.only [[(b1, .cells #[.slice A4 s3.L.length c5, .int .i64 vt63] 33 (0, 0))]] HS155 (FM.le.refl _))) ?_
    refine takeGQ 1 [] rfl (by kernel_rfl) (by kernel_rfl) (by kernel_rfl) (by kernel_rfl) (by kernel_rfl) (by kernel_rfl) hnp (Sg.g2 (Sx.of [[(b1, .cells #[.slice A4 s3.L.length c5, .int .i64 vt63] 33 (0, 0))], [(b15, .cells #[.int .i64 0, .int .i64 0, .int .i64 0, .int .i64 0, .int .i64 0, .int .i64 0, .int .i64 0, .int .i64 0] 36 (0, 0))]] (FM.le.refl _) HS155) (fun _ => St.only [] HS155 (FM.le.refl _)) (fun _ => St.only [[(b1, .cells #[.slice A4 s3.L.length c5, .int .i64 vt63] 33 (0, 0))]] HS155 (FM.le.refl _))) (fun w_ hw_ => by obtain ⟨g_, hl_, hS_⟩ := hw_.st; exact run_loadN (n := 3) rfl Try.underlying23 rfl (by kernel_rfl) (by kernel_rfl : _ = Value.pointer (some ⟨b69, 0, none⟩)) (cs := [.int .i64 (w64 (here8.X + vt48)), .int .i64 (w64 (here8.Y + vt55)), .int .i64 (w64 (here8.Z + (w64 (Int.tdiv vt62 3))))]) rfl (hS_.cells 0 3 _ rfl)) ?_
    refine takeGQ 3 [] rfl (by kernel_rfl) (by kernel_rfl) (by kernel_rfl) (by kernel_rfl) (by kernel_rfl) (by kernel_rfl) hnp (Sg.g2 (Sx.of [[(b1, .cells #[.slice A4 s3.L.length c5, .int .i64 vt63] 33 (0, 0))], [(b15, .cells #[.int .i64 0, .int .i64 0, .int .i64 0, .int .i64 0, .int .i64 0, .int .i64 0, .int .i64 0, .int .i64 0] 36 (0, 0))]] (FM.le.refl _) HS155) (fun _ => St.only [] HS155 (FM.le.refl _)) (fun _ => St.only [[(b1, .cells #[.slice A4 s3.L.length c5, .int .i64 vt63] 33 (0, 0))]] HS155 (FM.le.refl _))) (fun w_ hw_ => by obtain ⟨g_, hl_, hS_⟩ := hw_.st; exact run_loadN (n := 3) rfl Try.underlying23 rfl (by kernel_rfl) (by kernel_rfl : _ = Value.pointer (some ⟨b11, 0, none⟩)) (cs := [.int .i64 here8.X, .int .i64 here8.Y, .int .i64 here8.Z]) rfl (hS_.u2.cells 0 3 _ rfl)) ?_
    refine takeG [5] (n := 6) (fuel := 5) (l' := #[true, true, false, true, false, true, false, false, false]) (a' := ⟨#[.pointer (some ⟨b1, 0, none⟩), iV vid7, .agg #[iV here8.X, iV here8.Y, iV here8.Z], uV, uV, .pointer (some ⟨b11, 0, none⟩), .pointer (some ⟨b15, 0, none⟩), iV (rd ([1000, 90000, 150000] : List Int) vt28), .pointer (some ⟨b69, 0, none⟩), .slice (some ⟨b21, 0, none⟩) ([1000, 90000, 150000] : List Int).length 3, .pointer (some ⟨b1, 0, none⟩), iV vt28, .pointer (some ⟨b21, 0 + (vt28 : Int).toNat * 1, none⟩), iV (rd ([1000, 90000, 150000] : List Int) vt28), .pointer (some ⟨b11, 0, none⟩), iV here8.X, .pointer (some ⟨b1, 0, none⟩), iV (rd ([1000, 90000, 150000] : List Int) vt28), iV (w64 (0 - (rd ([1000, 90000, 150000] : List Int) vt28))), iV (rd ([1000, 90000, 150000] : List Int) vt28), iV vt48, iV (w64 (here8.X + vt48)), .pointer (some ⟨b11, 1, none⟩), iV here8.Y, .pointer (some ⟨b1, 0, none⟩), iV (rd ([1000, 90000, 150000] : List Int) vt28), iV (w64 (0 - (rd ([1000, 90000, 150000] : List Int) vt28))), iV (rd ([1000, 90000, 150000] : List Int) vt28), iV vt55, iV (w64 (here8.Y + vt55)), .pointer (some ⟨b11, 2, none⟩), iV here8.Z, .pointer (some ⟨b1, 0, none⟩), iV (rd ([1000, 90000, 150000] : List Int) vt28), iV (w64 (0 - (rd ([1000, 90000, 150000] : List Int) vt28))), iV (rd ([1000, 90000, 150000] : List Int) vt28), iV vt62, iV (w64 (Int.tdiv vt62 3)), iV (w64 (here8.Z + (w64 (Int.tdiv vt62 3)))), .agg #[iV (w64 (here8.X + vt48)), iV (w64 (here8.Y + vt55)), iV (w64 (here8.Z + (w64 (Int.tdiv vt62 3))))], iV vid7, .agg #[iV (w64 (here8.X + vt48)), iV (w64 (here8.Y + vt55)), iV (w64 (here8.Z + (w64 (Int.tdiv vt62 3))))], uV, .agg #[iV here8.X, iV here8.Y, iV here8.Z], uV, .pointer (some ⟨b1, 0, none⟩), uV, uV], []⟩) rfl (by kernel_rfl) (by kernel_rfl) (by kernel_rfl) hnp (Sg.g2 (Sx.of [[(b1, .cells #[.slice A4 s3.L.length c5, .int .i64 vt63] 33 (0, 0))], [(b15, .cells #[.int .i64 0, .int .i64 0, .int .i64 0, .int .i64 0, .int .i64 0, .int .i64 0, .int .i64 0, .int .i64 0] 36 (0, 0))]] (FM.le.refl _) HS155) (fun _ => St.only [] HS155 (FM.le.refl _)) (fun _ => St.only [[(b1, .cells #[.slice A4 s3.L.length c5, .int .i64 vt63] 33 (0, 0))]] HS155 (FM.le.refl _))) ?_
    have hq_ := bind_some h; clear h; obtain ⟨vt156, hc157, h⟩ := hq_
    refine takeGE 2 (by kernel_rfl) rfl (by kernel_rfl) (does_call (f := 31) (args := #[.agg #[.int .i64 (w64 (here8.X + vt48)), .int .i64 (w64 (here8.Y + vt55)), .int .i64 (w64 (here8.Z + (w64 (Int.tdiv vt62 3))))]]) (by kernel_rfl) (spymake_within.calls k (⟨w64 (here8.X + vt48), w64 (here8.Y + vt55), w64 (here8.Z + (w64 (Int.tdiv vt62 3)))⟩ : S_Vec) HS155 vt156 hc157) ?_)
    rintro _ W160 ⟨f158, rfl, L159, HS161⟩
    refine ⟨_, rfl, ?_⟩
    refine ⟨(Sg.g2 (Sx.of [[(b1, .cells #[.slice A4 s3.L.length c5, .int .i64 vt63] 33 (0, 0))], [(b15, .cells #[.int .i64 0, .int .i64 0, .int .i64 0, .int .i64 0, .int .i64 0, .int .i64 0, .int .i64 0, .int .i64 0] 36 (0, 0))]] L159 HS161) (fun _ => St.only [] HS161 L159) (fun _ => St.only [[(b1, .cells #[.slice A4 s3.L.length c5, .int .i64 vt63] 33 (0, 0))]] HS161 L159)), ?_⟩
    have hq_ := bind_some h; clear h; obtain ⟨vt162, hc163, h⟩ := hq_
    refine takeGE 4 (by kernel_rfl) rfl (by kernel_rfl) (does_call (f := 31) (args := #[.agg #[.int .i64 here8.X, .int .i64 here8.Y, .int .i64 here8.Z]]) (by kernel_rfl) (spymake_within.calls k here8 HS161 vt162 hc163) ?_)
    rintro _ W166 ⟨f164, rfl, L165, HS167⟩
    refine ⟨_, rfl, ?_⟩
    refine ⟨(Sg.g2 (Sx.of [[(b1, .cells #[.slice A4 s3.L.length c5, .int .i64 vt63] 33 (0, 0))], [(b15, .cells #[.int .i64 0, .int .i64 0, .int .i64 0, .int .i64 0, .int .i64 0, .int .i64 0, .int .i64 0, .int .i64 0] 36 (0, 0))]] (L159.trans L165) HS167) (fun _ => St.only [] HS167 (L159.trans L165)) (fun _ => St.only [[(b1, .cells #[.slice A4 s3.L.length c5, .int .i64 vt63] 33 (0, 0))]] HS167 (L159.trans L165))), ?_⟩
    have hq_ := bind_some h; clear h; obtain ⟨⟨vt168, vt169⟩, hc170, h⟩ := hq_
    refine takeGE 6 (by kernel_rfl) rfl (by kernel_rfl) (does_call (f := 32) (args := #[.pointer (some ⟨b1, 0, none⟩)]) (by kernel_rfl) (spymake_Stream_rate.calls k b1 A4 c5 (⟨s3.L, vt63⟩ : S_Stream) HS167 (HR6.mono (L32.trans (L52.trans (L59.trans (L66.trans (L159.trans L165)))))) vt168 vt169 hc170) ?_)
    rintro _ W173 ⟨f171, rfl, L172, HS174⟩
    refine ⟨_, rfl, ?_⟩
    refine ⟨(Sg.g2 (Sx.of [[(b1, .cells #[.slice A4 s3.L.length c5, .int .i64 vt169] 33 (0, 0))], [(b15, .cells #[.int .i64 0, .int .i64 0, .int .i64 0, .int .i64 0, .int .i64 0, .int .i64 0, .int .i64 0, .int .i64 0] 36 (0, 0))]] (L159.trans (L165.trans L172)) HS174) (fun hl_ => Bool.noConfusion (show true = false from hl_)) (fun _ => St.only [[(b1, .cells #[.slice A4 s3.L.length c5, .int .i64 vt169] 33 (0, 0))]] HS174 (L159.trans (L165.trans L172)))), ?_⟩
    refine takeG [7] (n := 2) (fuel := 1) (l' := #[true, true, true, true, true, true, true, true, false]) (a' := ⟨#[.pointer (some ⟨b1, 0, none⟩), iV vid7, .agg #[iV here8.X, iV here8.Y, iV here8.Z], uV, uV, .pointer (some ⟨b11, 0, none⟩), .pointer (some ⟨b15, 0, none⟩), iV (rd ([1000, 90000, 150000] : List Int) vt28), .pointer (some ⟨b69, 0, none⟩), .slice (some ⟨b21, 0, none⟩) ([1000, 90000, 150000] : List Int).length 3, .pointer (some ⟨b1, 0, none⟩), iV vt28, .pointer (some ⟨b21, 0 + (vt28 : Int).toNat * 1, none⟩), iV (rd ([1000, 90000, 150000] : List Int) vt28), .pointer (some ⟨b11, 0, none⟩), iV here8.X, .pointer (some ⟨b1, 0, none⟩), iV (rd ([1000, 90000, 150000] : List Int) vt28), iV (w64 (0 - (rd ([1000, 90000, 150000] : List Int) vt28))), iV (rd ([1000, 90000, 150000] : List Int) vt28), iV vt48, iV (w64 (here8.X + vt48)), .pointer (some ⟨b11, 1, none⟩), iV here8.Y, .pointer (some ⟨b1, 0, none⟩), iV (rd ([1000, 90000, 150000] : List Int) vt28), iV (w64 (0 - (rd ([1000, 90000, 150000] : List Int) vt28))), iV (rd ([1000, 90000, 150000] : List Int) vt28), iV vt55, iV (w64 (here8.Y + vt55)), .pointer (some ⟨b11, 2, none⟩), iV here8.Z, .pointer (some ⟨b1, 0, none⟩), iV (rd ([1000, 90000, 150000] : List Int) vt28), iV (w64 (0 - (rd ([1000, 90000, 150000] : List Int) vt28))), iV (rd ([1000, 90000, 150000] : List Int) vt28), iV vt62, iV (w64 (Int.tdiv vt62 3)), iV (w64 (here8.Z + (w64 (Int.tdiv vt62 3)))), .agg #[iV (w64 (here8.X + vt48)), iV (w64 (here8.Y + vt55)), iV (w64 (here8.Z + (w64 (Int.tdiv vt62 3))))], iV vid7, .agg #[iV (w64 (here8.X + vt48)), iV (w64 (here8.Y + vt55)), iV (w64 (here8.Z + (w64 (Int.tdiv vt62 3))))], .agg #[iV vt156.X, iV vt156.Y, iV vt156.Z], .agg #[iV here8.X, iV here8.Y, iV here8.Z], .agg #[iV vt162.X, iV vt162.Y, iV vt162.Z], .pointer (some ⟨b1, 0, none⟩), iV vt168, .agg #[iV vid7, iV vt156.X, iV vt156.Y, iV vt156.Z, iV vt162.X, iV vt162.Y, iV vt162.Z, iV vt168]], []⟩) rfl (by kernel_rfl) (by kernel_rfl) (by kernel_rfl) hnp (Sg.g2 (Sx.of [[(b1, .cells #[.slice A4 s3.L.length c5, .int .i64 vt169] 33 (0, 0))], [(b15, .cells #[.int .i64 0, .int .i64 0, .int .i64 0, .int .i64 0, .int .i64 0, .int .i64 0, .int .i64 0, .int .i64 0] 36 (0, 0))]] (L159.trans (L165.trans L172)) HS174) (fun hl_ => Bool.noConfusion (show true = false from hl_)) (fun _ => St.only [[(b1, .cells #[.slice A4 s3.L.length c5, .int .i64 vt169] 33 (0, 0))]] HS174 (L159.trans (L165.trans L172)))) ?_
    have HS175 := HS174.u1
    refine takeGE 8 (by kernel_rfl) rfl (by kernel_rfl) (does_store (n := 8) (vs := [.int .i64 vid7, .int .i64 vt156.X, .int .i64 vt156.Y, .int .i64 vt156.Z, .int .i64 vt162.X, .int .i64 vt162.Y, .int .i64 vt162.Z, .int .i64 vt168]) (cs' := #[.int .i64 vid7, .int .i64 vt156.X, .int .i64 vt156.Y, .int .i64 vt156.Z, .int .i64 vt162.X, .int .i64 vt162.Y, .int .i64 vt162.Z, .int .i64 vt168]) rfl (by kernel_rfl) (by kernel_rfl : _ = Value.pointer (some ⟨b15, 0, none⟩)) (by kernel_rfl : _ = Value.agg #[.int .i64 vid7, .int .i64 vt156.X, .int .i64 vt156.Y, .int .i64 vt156.Z, .int .i64 vt162.X, .int .i64 vt162.Y, .int .i64 vt162.Z, .int .i64 vt168]) rfl rfl (by intro u_ hu_; simp only [List.mem_cons, List.not_mem_nil, or_false] at hu_; rcases hu_ with rfl | rfl | rfl | rfl | rfl | rfl | rfl | rfl <;> rfl) HS175 (Nat.le_of_ble_eq_true rfl) (by kernel_rfl) ?_)
    intro W176 HS177
    refine ⟨(Sg.g2 (Sx.of [[(b15, .cells #[.int .i64 vid7, .int .i64 vt156.X, .int .i64 vt156.Y, .int .i64 vt156.Z, .int .i64 vt162.X, .int .i64 vt162.Y, .int .i64 vt162.Z, .int .i64 vt168] 36 (0, 0))], [(b1, .cells #[.slice A4 s3.L.length c5, .int .i64 vt169] 33 (0, 0))]] (L159.trans (L165.trans L172)) HS177) (fun hl_ => Bool.noConfusion (show true = false from hl_)) (fun hl_ => Bool.noConfusion (show true = false from hl_))), ?_⟩
    refine doneG (by kernel_rfl) ?_ _
    refine hK148 _ _ ?_
    refine wp_ret ?_
    refine hret _ _ ?_
    refine ends (v := Value.agg #[.int .i64 vid7, .int .i64 vt156.X, .int .i64 vt156.Y, .int .i64 vt156.Z, .int .i64 vt162.X, .int .i64 vt162.Y, .int .i64 vt162.Z, .int .i64 vt168]) (results1 (q1 := .cell 6 36) (by kernel_rfl) (resN (n := 8) (cs := [.int .i64 vid7, .int .i64 vt156.X, .int .i64 vt156.Y, .int .i64 vt156.Z, .int .i64 vt162.X, .int .i64 vt162.Y, .int .i64 vt162.Z, .int .i64 vt168]) (by kernel_rfl : _ = Value.pointer (some ⟨b15, 0, none⟩)) Try.underlying36 rfl (by kernel_rfl) rfl (HS177.cells 0 8 _ rfl))) (by kernel_rfl) ?_
    have HS178 := HS177.u1
    have HS179 := HS178.u4
    have HS180 := HS179.u4
    have HS181 := HS180.u4
    have HS182 := HS181.u4
    have HS183 := HS182.drop
    have HS184 := HS183.drop
    have HS185 := HS184.drop
    have HS186 := HS185.drop
    injection h with h
    injection h with h0_ h
    subst h0_ h
    exact ⟨f171, rfl, (L32.trans (L52.trans (L59.trans (L66.trans (L159.trans (L165.trans L172)))))), HS186⟩
  refine takeEither 6 26 (by kernel_rfl) rfl rfl rfl rfl ?_ ?_
  · refine does_call (f := 14) (args := #[.pointer (some ⟨b1, 0, none⟩), .int .i64 (w64 (0 - (rd ([1000, 90000, 150000] : List Int) vt28))), .int .i64 (rd ([1000, 90000, 150000] : List Int) vt28)]) (by kernel_rfl) (spymake_Stream_Range.calls k b1 A4 c5 (⟨s3.L, vt29⟩ : S_Stream) (w64 (0 - (rd ([1000, 90000, 150000] : List Int) vt28))) (rd ([1000, 90000, 150000] : List Int) vt28) HS47 (HR6.mono L32) vt48 vt49 hc50) ?_
    rintro _ W83 ⟨f81, rfl, L82, HS84⟩
    refine ⟨_, rfl, ?_⟩
    refine ⟨(Sg.g1 (Sx.of [[(b1, .cells #[.slice A4 s3.L.length c5, .int .i64 vt49] 33 (0, 0))]] L82 HS84) (fun hl_ => Bool.noConfusion (show true = false from hl_))), ?_⟩
    refine takeG [7] (n := 9) (fuel := 8) (l' := #[true, true, true, true, true, true, true, true, true, true, true, true, true, true, false, false, true, true, true, true, true, true, false, false, false, false, false, false]) (a' := ⟨#[.pointer (some ⟨b1, 0, none⟩), iV vid7, .agg #[iV here8.X, iV here8.Y, iV here8.Z], uV, uV, .pointer (some ⟨b11, 0, none⟩), .pointer (some ⟨b15, 0, none⟩), iV (rd ([1000, 90000, 150000] : List Int) vt28), uV, .slice (some ⟨b21, 0, none⟩) ([1000, 90000, 150000] : List Int).length 3, .pointer (some ⟨b1, 0, none⟩), iV vt28, .pointer (some ⟨b21, 0 + (vt28 : Int).toNat * 1, none⟩), iV (rd ([1000, 90000, 150000] : List Int) vt28), .pointer (some ⟨b11, 0, none⟩), iV here8.X, .pointer (some ⟨b1, 0, none⟩), iV (rd ([1000, 90000, 150000] : List Int) vt28), iV (w64 (0 - (rd ([1000, 90000, 150000] : List Int) vt28))), iV (rd ([1000, 90000, 150000] : List Int) vt28), iV vt48, iV (w64 (here8.X + vt48)), .pointer (some ⟨b11, 1, none⟩), iV here8.Y, .pointer (some ⟨b1, 0, none⟩), iV (rd ([1000, 90000, 150000] : List Int) vt28), iV (w64 (0 - (rd ([1000, 90000, 150000] : List Int) vt28))), iV (rd ([1000, 90000, 150000] : List Int) vt28), uV, uV, .pointer (some ⟨b11, 2, none⟩), iV here8.Z, .pointer (some ⟨b1, 0, none⟩), iV (rd ([1000, 90000, 150000] : List Int) vt28), iV (w64 (0 - (rd ([1000, 90000, 150000] : List Int) vt28))), iV (rd ([1000, 90000, 150000] : List Int) vt28), uV, uV, uV, uV, uV, uV, uV, uV, uV, uV, uV, uV], []⟩) rfl (by kernel_rfl) (by kernel_rfl) (by kernel_rfl) hnp (Sg.g1 (Sx.of [[(b1, .cells #[.slice A4 s3.L.length c5, .int .i64 vt49] 33 (0, 0))]] L82 HS84) (fun hl_ => Bool.noConfusion (show true = false from hl_))) ?_
    refine takeEither 14 26 (by kernel_rfl) rfl rfl rfl rfl ?_ ?_
    · refine does_call (f := 14) (args := #[.pointer (some ⟨b1, 0, none⟩), .int .i64 (w64 (0 - (rd ([1000, 90000, 150000] : List Int) vt28))), .int .i64 (rd ([1000, 90000, 150000] : List Int) vt28)]) (by kernel_rfl) (spymake_Stream_Range.calls k b1 A4 c5 (⟨s3.L, vt49⟩ : S_Stream) (w64 (0 - (rd ([1000, 90000, 150000] : List Int) vt28))) (rd ([1000, 90000, 150000] : List Int) vt28) HS84 (HR6.mono (L32.trans L82)) vt55 vt56 hc57) ?_
      rintro _ W87 ⟨f85, rfl, L86, HS88⟩
      refine ⟨_, rfl, ?_⟩
      refine ⟨(Sg.g1 (Sx.of [[(b1, .cells #[.slice A4 s3.L.length c5, .int .i64 vt56] 33 (0, 0))]] (L82.trans L86) HS88) (fun hl_ => Bool.noConfusion (show true = false from hl_))), ?_⟩
      refine takeG [15] (n := 7) (fuel := 6) (l' := #[true, true, true, true, true, true, true, true, true, true, true, true, true, true, true, true, true, true, true, true, true, true, false, false, false, false, false, false]) (a' := ⟨#[.pointer (some ⟨b1, 0, none⟩), iV vid7, .agg #[iV here8.X, iV here8.Y, iV here8.Z], uV, uV, .pointer (some ⟨b11, 0, none⟩), .pointer (some ⟨b15, 0, none⟩), iV (rd ([1000, 90000, 150000] : List Int) vt28), uV, .slice (some ⟨b21, 0, none⟩) ([1000, 90000, 150000] : List Int).length 3, .pointer (some ⟨b1, 0, none⟩), iV vt28, .pointer (some ⟨b21, 0 + (vt28 : Int).toNat * 1, none⟩), iV (rd ([1000, 90000, 150000] : List Int) vt28), .pointer (some ⟨b11, 0, none⟩), iV here8.X, .pointer (some ⟨b1, 0, none⟩), iV (rd ([1000, 90000, 150000] : List Int) vt28), iV (w64 (0 - (rd ([1000, 90000, 150000] : List Int) vt28))), iV (rd ([1000, 90000, 150000] : List Int) vt28), iV vt48, iV (w64 (here8.X + vt48)), .pointer (some ⟨b11, 1, none⟩), iV here8.Y, .pointer (some ⟨b1, 0, none⟩), iV (rd ([1000, 90000, 150000] : List Int) vt28), iV (w64 (0 - (rd ([1000, 90000, 150000] : List Int) vt28))), iV (rd ([1000, 90000, 150000] : List Int) vt28), iV vt55, iV (w64 (here8.Y + vt55)), .pointer (some ⟨b11, 2, none⟩), iV here8.Z, .pointer (some ⟨b1, 0, none⟩), iV (rd ([1000, 90000, 150000] : List Int) vt28), iV (w64 (0 - (rd ([1000, 90000, 150000] : List Int) vt28))), iV (rd ([1000, 90000, 150000] : List Int) vt28), uV, uV, uV, uV, uV, uV, uV, uV, uV, uV, uV, uV], []⟩) rfl (by kernel_rfl) (by kernel_rfl) (by kernel_rfl) hnp (Sg.g1 (Sx.of [[(b1, .cells #[.slice A4 s3.L.length c5, .int .i64 vt56] 33 (0, 0))]] (L82.trans L86) HS88) (fun hl_ => Bool.noConfusion (show true = false from hl_))) ?_
      refine takeEither 22 26 (by kernel_rfl) rfl rfl rfl rfl ?_ ?_
      · refine does_call (f := 14) (args := #[.pointer (some ⟨b1, 0, none⟩), .int .i64 (w64 (0 - (rd ([1000, 90000, 150000] : List Int) vt28))), .int .i64 (rd ([1000, 90000, 150000] : List Int) vt28)]) (by kernel_rfl) (spymake_Stream_Range.calls k b1 A4 c5 (⟨s3.L, vt56⟩ : S_Stream) (w64 (0 - (rd ([1000, 90000, 150000] : List Int) vt28))) (rd ([1000, 90000, 150000] : List Int) vt28) HS88 (HR6.mono (L32.trans (L82.trans L86))) vt62 vt63 hc64) ?_
        rintro _ W91 ⟨f89, rfl, L90, HS92⟩
        refine ⟨_, rfl, ?_⟩
        refine ⟨(Sg.g1 (Sx.of [[(b1, .cells #[.slice A4 s3.L.length c5, .int .i64 vt63] 33 (0, 0))]] (L82.trans (L86.trans L90)) HS92) (fun hl_ => Bool.noConfusion (show true = false from hl_))), ?_⟩
        refine takeG [23, 24, 25] (n := 5) (fuel := 2) (l' := #[true, true, true, true, true, true, true, true, true, true, true, true, true, true, true, true, true, true, true, true, true, true, true, true, true, true, false, false]) (a' := ⟨#[.pointer (some ⟨b1, 0, none⟩), iV vid7, .agg #[iV here8.X, iV here8.Y, iV here8.Z], uV, uV, .pointer (some ⟨b11, 0, none⟩), .pointer (some ⟨b15, 0, none⟩), iV (rd ([1000, 90000, 150000] : List Int) vt28), uV, .slice (some ⟨b21, 0, none⟩) ([1000, 90000, 150000] : List Int).length 3, .pointer (some ⟨b1, 0, none⟩), iV vt28, .pointer (some ⟨b21, 0 + (vt28 : Int).toNat * 1, none⟩), iV (rd ([1000, 90000, 150000] : List Int) vt28), .pointer (some ⟨b11, 0, none⟩), iV here8.X, .pointer (some ⟨b1, 0, none⟩), iV (rd ([1000, 90000, 150000] : List Int) vt28), iV (w64 (0 - (rd ([1000, 90000, 150000] : List Int) vt28))), iV (rd ([1000, 90000, 150000] : List Int) vt28), iV vt48, iV (w64 (here8.X + vt48)), .pointer (some ⟨b11, 1, none⟩), iV here8.Y, .pointer (some ⟨b1, 0, none⟩), iV (rd ([1000, 90000, 150000] : List Int) vt28), iV (w64 (0 - (rd ([1000, 90000, 150000] : List Int) vt28))), iV (rd ([1000, 90000, 150000] : List Int) vt28), iV vt55, iV (w64 (here8.Y + vt55)), .pointer (some ⟨b11, 2, none⟩), iV here8.Z, .pointer (some ⟨b1, 0, none⟩), iV (rd ([1000, 90000, 150000] : List Int) vt28), iV (w64 (0 - (rd ([1000, 90000, 150000] : List Int) vt28))), iV (rd ([1000, 90000, 150000] : List Int) vt28), iV vt62, iV (w64 (Int.tdiv vt62 3)), iV (w64 (here8.Z + (w64 (Int.tdiv vt62 3)))), .agg #[iV (w64 (here8.X + vt48)), iV (w64 (here8.Y + vt55)), iV (w64 (here8.Z + (w64 (Int.tdiv vt62 3))))], uV, uV, uV, uV, uV, uV, uV, uV], []⟩) rfl (by kernel_rfl) (by kernel_rfl) (by kernel_rfl) hnp (Sg.g1 (Sx.of [[(b1, .cells #[.slice A4 s3.L.length c5, .int .i64 vt63] 33 (0, 0))]] (L82.trans (L86.trans L90)) HS92) (fun hl_ => Bool.noConfusion (show true = false from hl_))) ?_
        refine takeGE 26 (by kernel_rfl) rfl (by kernel_rfl) (does_alloc (z := Value.agg #[.int .i64 0, .int .i64 0, .int .i64 0]) (cs := #[.int .i64 0, .int .i64 0, .int .i64 0]) rfl (by kernel_rfl) rfl HS92 ?_)
        intro b93 W94 HS95
        refine ⟨(Sg.g1 (Sx.of [[(b93, .cells #[.int .i64 0, .int .i64 0, .int .i64 0] 23 (0, 0))], [(b1, .cells #[.slice A4 s3.L.length c5, .int .i64 vt63] 33 (0, 0))]] (L82.trans (L86.trans L90)) HS95) (fun hl_ => Bool.noConfusion (show true = false from hl_))), ?_⟩
        refine takeGE 27 (by kernel_rfl) rfl (by kernel_rfl) (does_store (n := 3) (vs := [.int .i64 (w64 (here8.X + vt48)), .int .i64 (w64 (here8.Y + vt55)), .int .i64 (w64 (here8.Z + (w64 (Int.tdiv vt62 3))))]) (cs' := #[.int .i64 (w64 (here8.X + vt48)), .int .i64 (w64 (here8.Y + vt55)), .int .i64 (w64 (here8.Z + (w64 (Int.tdiv vt62 3))))]) rfl (by kernel_rfl) (by kernel_rfl : _ = Value.pointer (some ⟨b93, 0, none⟩)) (by kernel_rfl : _ = Value.agg #[.int .i64 (w64 (here8.X + vt48)), .int .i64 (w64 (here8.Y + vt55)), .int .i64 (w64 (here8.Z + (w64 (Int.tdiv vt62 3))))]) rfl rfl (by intro u_ hu_; simp only [List.mem_cons, List.not_mem_nil, or_false] at hu_; rcases hu_ with rfl | rfl | rfl <;> rfl) HS95 (Nat.le_of_ble_eq_true rfl) (by kernel_rfl) ?_)
        intro W97 HS98
        refine ⟨(Sg.g1 (Sx.of [[(b93, .cells #[.int .i64 (w64 (here8.X + vt48)), .int .i64 (w64 (here8.Y + vt55)), .int .i64 (w64 (here8.Z + (w64 (Int.tdiv vt62 3))))] 23 (0, 0))], [(b1, .cells #[.slice A4 s3.L.length c5, .int .i64 vt63] 33 (0, 0))]] (L82.trans (L86.trans L90)) HS98) (fun hl_ => Bool.noConfusion (show true = false from hl_))), ?_⟩
        refine hR77 _ _ ?_
        exact J78 f81 f85 f89 b93 W97 _ L82 L86 L90 HS98 (by kernel_rfl)
      · refine does_alloc (z := Value.agg #[.int .i64 0, .int .i64 0, .int .i64 0]) (cs := #[.int .i64 0, .int .i64 0, .int .i64 0]) rfl (by kernel_rfl) rfl HS88 ?_
        intro b99 W100 HS101
        refine ⟨(Sg.g1 (Sx.of [[(b99, .cells #[.int .i64 0, .int .i64 0, .int .i64 0] 23 (0, 0))], [(b1, .cells #[.slice A4 s3.L.length c5, .int .i64 vt56] 33 (0, 0))]] (L82.trans L86) HS101) (fun hl_ => Bool.noConfusion (show true = false from hl_))), ?_⟩
        have HS103 := HS101.u1
        refine takeGE 22 (by kernel_rfl) rfl (by kernel_rfl) (does_call (f := 14) (args := #[.pointer (some ⟨b1, 0, none⟩), .int .i64 (w64 (0 - (rd ([1000, 90000, 150000] : List Int) vt28))), .int .i64 (rd ([1000, 90000, 150000] : List Int) vt28)]) (by kernel_rfl) (spymake_Stream_Range.calls k b1 A4 c5 (⟨s3.L, vt56⟩ : S_Stream) (w64 (0 - (rd ([1000, 90000, 150000] : List Int) vt28))) (rd ([1000, 90000, 150000] : List Int) vt28) HS103 (HR6.mono (L32.trans (L82.trans L86))) vt62 vt63 hc64) ?_)
        rintro _ W106 ⟨f104, rfl, L105, HS107⟩
        refine ⟨_, rfl, ?_⟩
        refine ⟨(Sg.g1 (Sx.of [[(b1, .cells #[.slice A4 s3.L.length c5, .int .i64 vt63] 33 (0, 0))], [(b99, .cells #[.int .i64 0, .int .i64 0, .int .i64 0] 23 (0, 0))]] (L82.trans (L86.trans L105)) HS107) (fun hl_ => Bool.noConfusion (show true = false from hl_))), ?_⟩
        refine takeG [23, 24, 25] (n := 4) (fuel := 1) (l' := #[true, true, true, true, true, true, true, true, true, true, true, true, true, true, true, true, true, true, true, true, true, true, true, true, true, true, true, false]) (a' := ⟨#[.pointer (some ⟨b1, 0, none⟩), iV vid7, .agg #[iV here8.X, iV here8.Y, iV here8.Z], uV, uV, .pointer (some ⟨b11, 0, none⟩), .pointer (some ⟨b15, 0, none⟩), iV (rd ([1000, 90000, 150000] : List Int) vt28), .pointer (some ⟨b99, 0, none⟩), .slice (some ⟨b21, 0, none⟩) ([1000, 90000, 150000] : List Int).length 3, .pointer (some ⟨b1, 0, none⟩), iV vt28, .pointer (some ⟨b21, 0 + (vt28 : Int).toNat * 1, none⟩), iV (rd ([1000, 90000, 150000] : List Int) vt28), .pointer (some ⟨b11, 0, none⟩), iV here8.X, .pointer (some ⟨b1, 0, none⟩), iV (rd ([1000, 90000, 150000] : List Int) vt28), iV (w64 (0 - (rd ([1000, 90000, 150000] : List Int) vt28))), iV (rd ([1000, 90000, 150000] : List Int) vt28), iV vt48, iV (w64 (here8.X + vt48)), .pointer (some ⟨b11, 1, none⟩), iV here8.Y, .pointer (some ⟨b1, 0, none⟩), iV (rd ([1000, 90000, 150000] : List Int) vt28), iV (w64 (0 - (rd ([1000, 90000, 150000] : List Int) vt28))), iV (rd ([1000, 90000, 150000] : List Int) vt28), iV vt55, iV (w64 (here8.Y + vt55)), .pointer (some ⟨b11, 2, none⟩), iV here8.Z, .pointer (some ⟨b1, 0, none⟩), iV (rd ([1000, 90000, 150000] : List Int) vt28), iV (w64 (0 - (rd ([1000, 90000, 150000] : List Int) vt28))), iV (rd ([1000, 90000, 150000] : List Int) vt28), iV vt62, iV (w64 (Int.tdiv vt62 3)), iV (w64 (here8.Z + (w64 (Int.tdiv vt62 3)))), .agg #[iV (w64 (here8.X + vt48)), iV (w64 (here8.Y + vt55)), iV (w64 (here8.Z + (w64 (Int.tdiv vt62 3))))], uV, uV, uV, uV, uV, uV, uV, uV], []⟩) rfl (by kernel_rfl) (by kernel_rfl) (by kernel_rfl) hnp (Sg.g1 (Sx.of [[(b1, .cells #[.slice A4 s3.L.length c5, .int .i64 vt63] 33 (0, 0))], [(b99, .cells #[.int .i64 0, .int .i64 0, .int .i64 0] 23 (0, 0))]] (L82.trans (L86.trans L105)) HS107) (fun hl_ => Bool.noConfusion (show true = false from hl_))) ?_
        have HS108 := HS107.u1
        refine takeGE 27 (by kernel_rfl) rfl (by kernel_rfl) (does_store (n := 3) (vs := [.int .i64 (w64 (here8.X + vt48)), .int .i64 (w64 (here8.Y + vt55)), .int .i64 (w64 (here8.Z + (w64 (Int.tdiv vt62 3))))]) (cs' := #[.int .i64 (w64 (here8.X + vt48)), .int .i64 (w64 (here8.Y + vt55)), .int .i64 (w64 (here8.Z + (w64 (Int.tdiv vt62 3))))]) rfl (by kernel_rfl) (by kernel_rfl : _ = Value.pointer (some ⟨b99, 0, none⟩)) (by kernel_rfl : _ = Value.agg #[.int .i64 (w64 (here8.X + vt48)), .int .i64 (w64 (here8.Y + vt55)), .int .i64 (w64 (here8.Z + (w64 (Int.tdiv vt62 3))))]) rfl rfl (by intro u_ hu_; simp only [List.mem_cons, List.not_mem_nil, or_false] at hu_; rcases hu_ with rfl | rfl | rfl <;> rfl) HS108 (Nat.le_of_ble_eq_true rfl) (by kernel_rfl) ?_)
        intro W109 HS110
        refine ⟨(Sg.g1 (Sx.of [[(b99, .cells #[.int .i64 (w64 (here8.X + vt48)), .int .i64 (w64 (here8.Y + vt55)), .int .i64 (w64 (here8.Z + (w64 (Int.tdiv vt62 3))))] 23 (0, 0))], [(b1, .cells #[.slice A4 s3.L.length c5, .int .i64 vt63] 33 (0, 0))]] (L82.trans (L86.trans L105)) HS110) (fun hl_ => Bool.noConfusion (show true = false from hl_))), ?_⟩
        refine hR77 _ _ ?_
        exact J78 f81 f85 f104 b99 W109 _ L82 L86 L105 HS110 (by kernel_rfl)
    · refine does_alloc (z := Value.agg #[.int .i64 0, .int .i64 0, .int .i64 0]) (cs := #[.int .i64 0, .int .i64 0, .int .i64 0]) rfl (by kernel_rfl) rfl HS84 ?_
      intro b111 W112 HS113
      refine ⟨(Sg.g1 (Sx.of [[(b111, .cells #[.int .i64 0, .int .i64 0, .int .i64 0] 23 (0, 0))], [(b1, .cells #[.slice A4 s3.L.length c5, .int .i64 vt49] 33 (0, 0))]] L82 HS113) (fun hl_ => Bool.noConfusion (show true = false from hl_))), ?_⟩
      have HS115 := HS113.u1
      refine takeGE 14 (by kernel_rfl) rfl (by kernel_rfl) (does_call (f := 14) (args := #[.pointer (some ⟨b1, 0, none⟩), .int .i64 (w64 (0 - (rd ([1000, 90000, 150000] : List Int) vt28))), .int .i64 (rd ([1000, 90000, 150000] : List Int) vt28)]) (by kernel_rfl) (spymake_Stream_Range.calls k b1 A4 c5 (⟨s3.L, vt49⟩ : S_Stream) (w64 (0 - (rd ([1000, 90000, 150000] : List Int) vt28))) (rd ([1000, 90000, 150000] : List Int) vt28) HS115 (HR6.mono (L32.trans L82)) vt55 vt56 hc57) ?_)
      rintro _ W118 ⟨f116, rfl, L117, HS119⟩
      refine ⟨_, rfl, ?_⟩
      refine ⟨(Sg.g1 (Sx.of [[(b1, .cells #[.slice A4 s3.L.length c5, .int .i64 vt56] 33 (0, 0))], [(b111, .cells #[.int .i64 0, .int .i64 0, .int .i64 0] 23 (0, 0))]] (L82.trans L117) HS119) (fun hl_ => Bool.noConfusion (show true = false from hl_))), ?_⟩
      refine takeG [15] (n := 6) (fuel := 5) (l' := #[true, true, true, true, true, true, true, true, true, true, true, true, true, true, true, true, true, true, true, true, true, true, false, false, false, false, true, false]) (a' := ⟨#[.pointer (some ⟨b1, 0, none⟩), iV vid7, .agg #[iV here8.X, iV here8.Y, iV here8.Z], uV, uV, .pointer (some ⟨b11, 0, none⟩), .pointer (some ⟨b15, 0, none⟩), iV (rd ([1000, 90000, 150000] : List Int) vt28), .pointer (some ⟨b111, 0, none⟩), .slice (some ⟨b21, 0, none⟩) ([1000, 90000, 150000] : List Int).length 3, .pointer (some ⟨b1, 0, none⟩), iV vt28, .pointer (some ⟨b21, 0 + (vt28 : Int).toNat * 1, none⟩), iV (rd ([1000, 90000, 150000] : List Int) vt28), .pointer (some ⟨b11, 0, none⟩), iV here8.X, .pointer (some ⟨b1, 0, none⟩), iV (rd ([1000, 90000, 150000] : List Int) vt28), iV (w64 (0 - (rd ([1000, 90000, 150000] : List Int) vt28))), iV (rd ([1000, 90000, 150000] : List Int) vt28), iV vt48, iV (w64 (here8.X + vt48)), .pointer (some ⟨b11, 1, none⟩), iV here8.Y, .pointer (some ⟨b1, 0, none⟩), iV (rd ([1000, 90000, 150000] : List Int) vt28), iV (w64 (0 - (rd ([1000, 90000, 150000] : List Int) vt28))), iV (rd ([1000, 90000, 150000] : List Int) vt28), iV vt55, iV (w64 (here8.Y + vt55)), .pointer (some ⟨b11, 2, none⟩), iV here8.Z, .pointer (some ⟨b1, 0, none⟩), iV (rd ([1000, 90000, 150000] : List Int) vt28), iV (w64 (0 - (rd ([1000, 90000, 150000] : List Int) vt28))), iV (rd ([1000, 90000, 150000] : List Int) vt28), uV, uV, uV, uV, uV, uV, uV, uV, uV, uV, uV, uV], []⟩) rfl (by kernel_rfl) (by kernel_rfl) (by kernel_rfl) hnp (Sg.g1 (Sx.of [[(b1, .cells #[.slice A4 s3.L.length c5, .int .i64 vt56] 33 (0, 0))], [(b111, .cells #[.int .i64 0, .int .i64 0, .int .i64 0] 23 (0, 0))]] (L82.trans L117) HS119) (fun hl_ => Bool.noConfusion (show true = false from hl_))) ?_
      refine takeGE 22 (by kernel_rfl) rfl (by kernel_rfl) (does_call (f := 14) (args := #[.pointer (some ⟨b1, 0, none⟩), .int .i64 (w64 (0 - (rd ([1000, 90000, 150000] : List Int) vt28))), .int .i64 (rd ([1000, 90000, 150000] : List Int) vt28)]) (by kernel_rfl) (spymake_Stream_Range.calls k b1 A4 c5 (⟨s3.L, vt56⟩ : S_Stream) (w64 (0 - (rd ([1000, 90000, 150000] : List Int) vt28))) (rd ([1000, 90000, 150000] : List Int) vt28) HS119 (HR6.mono (L32.trans (L82.trans L117))) vt62 vt63 hc64) ?_)
      rintro _ W122 ⟨f120, rfl, L121, HS123⟩
      refine ⟨_, rfl, ?_⟩
      refine ⟨(Sg.g1 (Sx.of [[(b1, .cells #[.slice A4 s3.L.length c5, .int .i64 vt63] 33 (0, 0))], [(b111, .cells #[.int .i64 0, .int .i64 0, .int .i64 0] 23 (0, 0))]] (L82.trans (L117.trans L121)) HS123) (fun hl_ => Bool.noConfusion (show true = false from hl_))), ?_⟩
      refine takeG [23, 24, 25] (n := 4) (fuel := 1) (l' := #[true, true, true, true, true, true, true, true, true, true, true, true, true, true, true, true, true, true, true, true, true, true, true, true, true, true, true, false]) (a' := ⟨#[.pointer (some ⟨b1, 0, none⟩), iV vid7, .agg #[iV here8.X, iV here8.Y, iV here8.Z], uV, uV, .pointer (some ⟨b11, 0, none⟩), .pointer (some ⟨b15, 0, none⟩), iV (rd ([1000, 90000, 150000] : List Int) vt28), .pointer (some ⟨b111, 0, none⟩), .slice (some ⟨b21, 0, none⟩) ([1000, 90000, 150000] : List Int).length 3, .pointer (some ⟨b1, 0, none⟩), iV vt28, .pointer (some ⟨b21, 0 + (vt28 : Int).toNat * 1, none⟩), iV (rd ([1000, 90000, 150000] : List Int) vt28), .pointer (some ⟨b11, 0, none⟩), iV here8.X, .pointer (some ⟨b1, 0, none⟩), iV (rd ([1000, 90000, 150000] : List Int) vt28), iV (w64 (0 - (rd ([1000, 90000, 150000] : List Int) vt28))), iV (rd ([1000, 90000, 150000] : List Int) vt28), iV vt48, iV (w64 (here8.X + vt48)), .pointer (some ⟨b11, 1, none⟩), iV here8.Y, .pointer (some ⟨b1, 0, none⟩), iV (rd ([1000, 90000, 150000] : List Int) vt28), iV (w64 (0 - (rd ([1000, 90000, 150000] : List Int) vt28))), iV (rd ([1000, 90000, 150000] : List Int) vt28), iV vt55, iV (w64 (here8.Y + vt55)), .pointer (some ⟨b11, 2, none⟩), iV here8.Z, .pointer (some ⟨b1, 0, none⟩), iV (rd ([1000, 90000, 150000] : List Int) vt28), iV (w64 (0 - (rd ([1000, 90000, 150000] : List Int) vt28))), iV (rd ([1000, 90000, 150000] : List Int) vt28), iV vt62, iV (w64 (Int.tdiv vt62 3)), iV (w64 (here8.Z + (w64 (Int.tdiv vt62 3)))), .agg #[iV (w64 (here8.X + vt48)), iV (w64 (here8.Y + vt55)), iV (w64 (here8.Z + (w64 (Int.tdiv vt62 3))))], uV, uV, uV, uV, uV, uV, uV, uV], []⟩) rfl (by kernel_rfl) (by kernel_rfl) (by kernel_rfl) hnp (Sg.g1 (Sx.of [[(b1, .cells #[.slice A4 s3.L.length c5, .int .i64 vt63] 33 (0, 0))], [(b111, .cells #[.int .i64 0, .int .i64 0, .int .i64 0] 23 (0, 0))]] (L82.trans (L117.trans L121)) HS123) (fun hl_ => Bool.noConfusion (show true = false from hl_))) ?_
      have HS124 := HS123.u1
      refine takeGE 27 (by kernel_rfl) rfl (by kernel_rfl) (does_store (n := 3) (vs := [.int .i64 (w64 (here8.X + vt48)), .int .i64 (w64 (here8.Y + vt55)), .int .i64 (w64 (here8.Z + (w64 (Int.tdiv vt62 3))))]) (cs' := #[.int .i64 (w64 (here8.X + vt48)), .int .i64 (w64 (here8.Y + vt55)), .int .i64 (w64 (here8.Z + (w64 (Int.tdiv vt62 3))))]) rfl (by kernel_rfl) (by kernel_rfl : _ = Value.pointer (some ⟨b111, 0, none⟩)) (by kernel_rfl : _ = Value.agg #[.int .i64 (w64 (here8.X + vt48)), .int .i64 (w64 (here8.Y + vt55)), .int .i64 (w64 (here8.Z + (w64 (Int.tdiv vt62 3))))]) rfl rfl (by intro u_ hu_; simp only [List.mem_cons, List.not_mem_nil, or_false] at hu_; rcases hu_ with rfl | rfl | rfl <;> rfl) HS124 (Nat.le_of_ble_eq_true rfl) (by kernel_rfl) ?_)
      intro W125 HS126
      refine ⟨(Sg.g1 (Sx.of [[(b111, .cells #[.int .i64 (w64 (here8.X + vt48)), .int .i64 (w64 (here8.Y + vt55)), .int .i64 (w64 (here8.Z + (w64 (Int.tdiv vt62 3))))] 23 (0, 0))], [(b1, .cells #[.slice A4 s3.L.length c5, .int .i64 vt63] 33 (0, 0))]] (L82.trans (L117.trans L121)) HS126) (fun hl_ => Bool.noConfusion (show true = false from hl_))), ?_⟩
      refine hR77 _ _ ?_
      exact J78 f81 f116 f120 b111 W125 _ L82 L117 L121 HS126 (by kernel_rfl)
  · refine does_alloc (z := Value.agg #[.int .i64 0, .int .i64 0, .int .i64 0]) (cs := #[.int .i64 0, .int .i64 0, .int .i64 0]) rfl (by kernel_rfl) rfl HS47 ?_
    intro b127 W128 HS129
    refine ⟨(Sg.g1 (Sx.of [[(b127, .cells #[.int .i64 0, .int .i64 0, .int .i64 0] 23 (0, 0))], [(b1, .cells #[.slice A4 s3.L.length c5, .int .i64 vt29] 33 (0, 0))]] (FM.le.refl _) HS129) (fun _ => St.only [[(b127, .cells #[.int .i64 0, .int .i64 0, .int .i64 0] 23 (0, 0))]] HS129 (FM.le.refl _))), ?_⟩
    have HS131 := HS129.u1
    refine takeGE 6 (by kernel_rfl) rfl (by kernel_rfl) (does_call (f := 14) (args := #[.pointer (some ⟨b1, 0, none⟩), .int .i64 (w64 (0 - (rd ([1000, 90000, 150000] : List Int) vt28))), .int .i64 (rd ([1000, 90000, 150000] : List Int) vt28)]) (by kernel_rfl) (spymake_Stream_Range.calls k b1 A4 c5 (⟨s3.L, vt29⟩ : S_Stream) (w64 (0 - (rd ([1000, 90000, 150000] : List Int) vt28))) (rd ([1000, 90000, 150000] : List Int) vt28) HS131 (HR6.mono L32) vt48 vt49 hc50) ?_)
    rintro _ W134 ⟨f132, rfl, L133, HS135⟩
    refine ⟨_, rfl, ?_⟩
    refine ⟨(Sg.g1 (Sx.of [[(b1, .cells #[.slice A4 s3.L.length c5, .int .i64 vt49] 33 (0, 0))], [(b127, .cells #[.int .i64 0, .int .i64 0, .int .i64 0] 23 (0, 0))]] L133 HS135) (fun hl_ => Bool.noConfusion (show true = false from hl_))), ?_⟩
    refine takeG [7] (n := 8) (fuel := 7) (l' := #[true, true, true, true, true, true, true, true, true, true, true, true, true, true, false, false, true, true, true, true, true, true, false, false, false, false, true, false]) (a' := ⟨#[.pointer (some ⟨b1, 0, none⟩), iV vid7, .agg #[iV here8.X, iV here8.Y, iV here8.Z], uV, uV, .pointer (some ⟨b11, 0, none⟩), .pointer (some ⟨b15, 0, none⟩), iV (rd ([1000, 90000, 150000] : List Int) vt28), .pointer (some ⟨b127, 0, none⟩), .slice (some ⟨b21, 0, none⟩) ([1000, 90000, 150000] : List Int).length 3, .pointer (some ⟨b1, 0, none⟩), iV vt28, .pointer (some ⟨b21, 0 + (vt28 : Int).toNat * 1, none⟩), iV (rd ([1000, 90000, 150000] : List Int) vt28), .pointer (some ⟨b11, 0, none⟩), iV here8.X, .pointer (some ⟨b1, 0, none⟩), iV (rd ([1000, 90000, 150000] : List Int) vt28), iV (w64 (0 - (rd ([1000, 90000, 150000] : List Int) vt28))), iV (rd ([1000, 90000, 150000] : List Int) vt28), iV vt48, iV (w64 (here8.X + vt48)), .pointer (some ⟨b11, 1, none⟩), iV here8.Y, .pointer (some ⟨b1, 0, none⟩), iV (rd ([1000, 90000, 150000] : List Int) vt28), iV (w64 (0 - (rd ([1000, 90000, 150000] : List Int) vt28))), iV (rd ([1000, 90000, 150000] : List Int) vt28), uV, uV, .pointer (some ⟨b11, 2, none⟩), iV here8.Z, .pointer (some ⟨b1, 0, none⟩), iV (rd ([1000, 90000, 150000] : List Int) vt28), iV (w64 (0 - (rd ([1000, 90000, 150000] : List Int) vt28))), iV (rd ([1000, 90000, 150000] : List Int) vt28), uV, uV, uV, uV, uV, uV, uV, uV, uV, uV, uV, uV], []⟩) rfl (by kernel_rfl) (by kernel_rfl) (by kernel_rfl) hnp (Sg.g1 (Sx.of [[(b1, .cells #[.slice A4 s3.L.length c5, .int .i64 vt49] 33 (0, 0))], [(b127, .cells #[.int .i64 0, .int .i64 0, .int .i64 0] 23 (0, 0))]] L133 HS135) (fun hl_ => Bool.noConfusion (show true = false from hl_))) ?_
    refine takeGE 14 (by kernel_rfl) rfl (by kernel_rfl) (does_call (f := 14) (args := #[.pointer (some ⟨b1, 0, none⟩), .int .i64 (w64 (0 - (rd ([1000, 90000, 150000] : List Int) vt28))), .int .i64 (rd ([1000, 90000, 150000] : List Int) vt28)]) (by kernel_rfl) (spymake_Stream_Range.calls k b1 A4 c5 (⟨s3.L, vt49⟩ : S_Stream) (w64 (0 - (rd ([1000, 90000, 150000] : List Int) vt28))) (rd ([1000, 90000, 150000] : List Int) vt28) HS135 (HR6.mono (L32.trans L133)) vt55 vt56 hc57) ?_)
    rintro _ W138 ⟨f136, rfl, L137, HS139⟩
    refine ⟨_, rfl, ?_⟩
    refine ⟨(Sg.g1 (Sx.of [[(b1, .cells #[.slice A4 s3.L.length c5, .int .i64 vt56] 33 (0, 0))], [(b127, .cells #[.int .i64 0, .int .i64 0, .int .i64 0] 23 (0, 0))]] (L133.trans L137) HS139) (fun hl_ => Bool.noConfusion (show true = false from hl_))), ?_⟩
    refine takeG [15] (n := 6) (fuel := 5) (l' := #[true, true, true, true, true, true, true, true, true, true, true, true, true, true, true, true, true, true, true, true, true, true, false, false, false, false, true, false]) (a' := ⟨#[.pointer (some ⟨b1, 0, none⟩), iV vid7, .agg #[iV here8.X, iV here8.Y, iV here8.Z], uV, uV, .pointer (some ⟨b11, 0, none⟩), .pointer (some ⟨b15, 0, none⟩), iV (rd ([1000, 90000, 150000] : List Int) vt28), .pointer (some ⟨b127, 0, none⟩), .slice (some ⟨b21, 0, none⟩) ([1000, 90000, 150000] : List Int).length 3, .pointer (some ⟨b1, 0, none⟩), iV vt28, .pointer (some ⟨b21, 0 + (vt28 : Int).toNat * 1, none⟩), iV (rd ([1000, 90000, 150000] : List Int) vt28), .pointer (some ⟨b11, 0, none⟩), iV here8.X, .pointer (some ⟨b1, 0, none⟩), iV (rd ([1000, 90000, 150000] : List Int) vt28), iV (w64 (0 - (rd ([1000, 90000, 150000] : List Int) vt28))), iV (rd ([1000, 90000, 150000] : List Int) vt28), iV vt48, iV (w64 (here8.X + vt48)), .pointer (some ⟨b11, 1, none⟩), iV here8.Y, .pointer (some ⟨b1, 0, none⟩), iV (rd ([1000, 90000, 150000] : List Int) vt28), iV (w64 (0 - (rd ([1000, 90000, 150000] : List Int) vt28))), iV (rd ([1000, 90000, 150000] : List Int) vt28), iV vt55, iV (w64 (here8.Y + vt55)), .pointer (some ⟨b11, 2, none⟩), iV here8.Z, .pointer (some ⟨b1, 0, none⟩), iV (rd ([1000, 90000, 150000] : List Int) vt28), iV (w64 (0 - (rd ([1000, 90000, 150000] : List Int) vt28))), iV (rd ([1000, 90000, 150000] : List Int) vt28), uV, uV, uV, uV, uV, uV, uV, uV, uV, uV, uV, uV], []⟩) rfl (by kernel_rfl) (by kernel_rfl) (by kernel_rfl) hnp (Sg.g1 (Sx.of [[(b1, .cells #[.slice A4 s3.L.length c5, .int .i64 vt56] 33 (0, 0))], [(b127, .cells #[.int .i64 0, .int .i64 0, .int .i64 0] 23 (0, 0))]] (L133.trans L137) HS139) (fun hl_ => Bool.noConfusion (show true = false from hl_))) ?_
    refine takeGE 22 (by kernel_rfl) rfl (by kernel_rfl) (does_call (f := 14) (args := #[.pointer (some ⟨b1, 0, none⟩), .int .i64 (w64 (0 - (rd ([1000, 90000, 150000] : List Int) vt28))), .int .i64 (rd ([1000, 90000, 150000] : List Int) vt28)]) (by kernel_rfl) (spymake_Stream_Range.calls k b1 A4 c5 (⟨s3.L, vt56⟩ : S_Stream) (w64 (0 - (rd ([1000, 90000, 150000] : List Int) vt28))) (rd ([1000, 90000, 150000] : List Int) vt28) HS139 (HR6.mono (L32.trans (L133.trans L137))) vt62 vt63 hc64) ?_)
    rintro _ W142 ⟨f140, rfl, L141, HS143⟩
    refine ⟨_, rfl, ?_⟩
    refine ⟨(Sg.g1 (Sx.of [[(b1, .cells #[.slice A4 s3.L.length c5, .int .i64 vt63] 33 (0, 0))], [(b127, .cells #[.int .i64 0, .int .i64 0, .int .i64 0] 23 (0, 0))]] (L133.trans (L137.trans L141)) HS143) (fun hl_ => Bool.noConfusion (show true = false from hl_))), ?_⟩
    refine takeG [23, 24, 25] (n := 4) (fuel := 1) (l' := #[true, true, true, true, true, true, true, true, true, true, true, true, true, true, true, true, true, true, true, true, true, true, true, true, true, true, true, false]) (a' := ⟨#[.pointer (some ⟨b1, 0, none⟩), iV vid7, .agg #[iV here8.X, iV here8.Y, iV here8.Z], uV, uV, .pointer (some ⟨b11, 0, none⟩), .pointer (some ⟨b15, 0, none⟩), iV (rd ([1000, 90000, 150000] : List Int) vt28), .pointer (some ⟨b127, 0, none⟩), .slice (some ⟨b21, 0, none⟩) ([1000, 90000, 150000] : List Int).length 3, .pointer (some ⟨b1, 0, none⟩), iV vt28, .pointer (some ⟨b21, 0 + (vt28 : Int).toNat * 1, none⟩), iV (rd ([1000, 90000, 150000] : List Int) vt28), .pointer (some ⟨b11, 0, none⟩), iV here8.X, .pointer (some ⟨b1, 0, none⟩), iV (rd ([1000, 90000, 150000] : List Int) vt28), iV (w64 (0 - (rd ([1000, 90000, 150000] : List Int) vt28))), iV (rd ([1000, 90000, 150000] : List Int) vt28), iV vt48, iV (w64 (here8.X + vt48)), .pointer (some ⟨b11, 1, none⟩), iV here8.Y, .pointer (some ⟨b1, 0, none⟩), iV (rd ([1000, 90000, 150000] : List Int) vt28), iV (w64 (0 - (rd ([1000, 90000, 150000] : List Int) vt28))), iV (rd ([1000, 90000, 150000] : List Int) vt28), iV vt55, iV (w64 (here8.Y + vt55)), .pointer (some ⟨b11, 2, none⟩), iV here8.Z, .pointer (some ⟨b1, 0, none⟩), iV (rd ([1000, 90000, 150000] : List Int) vt28), iV (w64 (0 - (rd ([1000, 90000, 150000] : List Int) vt28))), iV (rd ([1000, 90000, 150000] : List Int) vt28), iV vt62, iV (w64 (Int.tdiv vt62 3)), iV (w64 (here8.Z + (w64 (Int.tdiv vt62 3)))), .agg #[iV (w64 (here8.X + vt48)), iV (w64 (here8.Y + vt55)), iV (w64 (here8.Z + (w64 (Int.tdiv vt62 3))))], uV, uV, uV, uV, uV, uV, uV, uV], []⟩) rfl (by kernel_rfl) (by kernel_rfl) (by kernel_rfl) hnp (Sg.g1 (Sx.of [[(b1, .cells #[.slice A4 s3.L.length c5, .int .i64 vt63] 33 (0, 0))], [(b127, .cells #[.int .i64 0, .int .i64 0, .int .i64 0] 23 (0, 0))]] (L133.trans (L137.trans L141)) HS143) (fun hl_ => Bool.noConfusion (show true = false from hl_))) ?_
    have HS144 := HS143.u1
    refine takeGE 27 (by kernel_rfl) rfl (by kernel_rfl) (does_store (n := 3) (vs := [.int .i64 (w64 (here8.X + vt48)), .int .i64 (w64 (here8.Y + vt55)), .int .i64 (w64 (here8.Z + (w64 (Int.tdiv vt62 3))))]) (cs' := #[.int .i64 (w64 (here8.X + vt48)), .int .i64 (w64 (here8.Y + vt55)), .int .i64 (w64 (here8.Z + (w64 (Int.tdiv vt62 3))))]) rfl (by kernel_rfl) (by kernel_rfl : _ = Value.pointer (some ⟨b127, 0, none⟩)) (by kernel_rfl : _ = Value.agg #[.int .i64 (w64 (here8.X + vt48)), .int .i64 (w64 (here8.Y + vt55)), .int .i64 (w64 (here8.Z + (w64 (Int.tdiv vt62 3))))]) rfl rfl (by intro u_ hu_; simp only [List.mem_cons, List.not_mem_nil, or_false] at hu_; rcases hu_ with rfl | rfl | rfl <;> rfl) HS144 (Nat.le_of_ble_eq_true rfl) (by kernel_rfl) ?_)
    intro W145 HS146
    refine ⟨(Sg.g1 (Sx.of [[(b127, .cells #[.int .i64 (w64 (here8.X + vt48)), .int .i64 (w64 (here8.Y + vt55)), .int .i64 (w64 (here8.Z + (w64 (Int.tdiv vt62 3))))] 23 (0, 0))], [(b1, .cells #[.slice A4 s3.L.length c5, .int .i64 vt63] 33 (0, 0))]] (L133.trans (L137.trans L141)) HS146) (fun hl_ => Bool.noConfusion (show true = false from hl_))), ?_⟩
    refine hR77 _ _ ?_
    exact J78 f132 f136 f140 b127 W145 _ L133 L137 L141 HS146 (by kernel_rfl)

set_option maxRecDepth 100000 in
set_option maxHeartbeats 4000000 in
theorem sky_moves.calls (k : Nat)  (b1 : S_Body) {t w : World} {f : FM} {H : List Seg} (HS : St t w f (H)) (r1 : Bool) (h : sky_moves k b1 = some r1) :
    Calls Try.prog 33 #[.agg #[.int .i64 b1.ID, .int .i64 b1.Was.X, .int .i64 b1.Was.Y, .int .i64 b1.Was.Z, .int .i64 b1.Here.X, .int .i64 b1.Here.Y, .int .i64 b1.Here.Z, .int .i64 b1.Rate]] w (fun e w' => ∃ (g : FM), e = .returned (Value.bool r1) ∧ FM.le f g ∧ St t w' g (H)) := by
  unfold sky_moves at h
  refine enter Try.func33 rfl (tm := #[.agg #[iV b1.ID, iV b1.Was.X, iV b1.Was.Y, iV b1.Was.Z, iV b1.Here.X, iV b1.Here.Y, iV b1.Here.Z, iV b1.Rate], uV, uV, uV, uV, uV, uV, uV, uV, uV, uV]) (by kernel_rfl) ?_
  intro B hret hnor hnp
  refine wp_seq_k (fun K2 hK3 => ?_)
  refine wp_region_lit ?_
  refine seqK rfl (does_box (cs := #[.int .i64 b1.ID, .int .i64 b1.Was.X, .int .i64 b1.Was.Y, .int .i64 b1.Was.Z, .int .i64 b1.Here.X, .int .i64 b1.Here.Y, .int .i64 b1.Here.Z, .int .i64 b1.Rate]) rfl (by kernel_rfl : _ = Value.agg #[.int .i64 b1.ID, .int .i64 b1.Was.X, .int .i64 b1.Was.Y, .int .i64 b1.Was.Z, .int .i64 b1.Here.X, .int .i64 b1.Here.Y, .int .i64 b1.Here.Z, .int .i64 b1.Rate]) rfl HS ?_)
  intro b4 W5 HS6
  refine seqS1 (a' := ⟨#[.agg #[iV b1.ID, iV b1.Was.X, iV b1.Was.Y, iV b1.Was.Z, iV b1.Here.X, iV b1.Here.Y, iV b1.Here.Z, iV b1.Rate], .pointer (some ⟨b4, 0, none⟩), .bool false, uV, uV, uV, uV, uV, uV, uV, uV], []⟩) (by kernel_rfl) ?_
  refine wpList_nil ?_
  refine hK3 _ _ ?_
  refine wp_seq_k (fun K8 hK9 => ?_)
  refine wp_region_lit ?_
  refine seqL1 (by kernel_rfl) ?_
  refine seqK rfl (does_run (run_loadN (n := 3) rfl Try.underlying23 rfl (by kernel_rfl) (by kernel_rfl : _ = Value.pointer (some ⟨b4, 1, none⟩)) (cs := [.int .i64 b1.Was.X, .int .i64 b1.Was.Y, .int .i64 b1.Was.Z]) rfl (HS6.cells 1 3 _ rfl)) ?_)
  have hq_ := bind_some h; clear h; obtain ⟨vt10, hc11, h⟩ := hq_
  refine seqK rfl (does_call (f := 26) (args := #[.agg #[.int .i64 b1.Was.X, .int .i64 b1.Was.Y, .int .i64 b1.Was.Z], .int .i64 4194304]) (by kernel_rfl) (sky_within.calls k b1.Was 4194304 HS6 vt10 hc11) ?_)
  rintro _ W14 ⟨f12, rfl, L13, HS15⟩
  refine ⟨_, rfl, ?_⟩
  refine seqS1 (a' := ⟨#[.agg #[iV b1.ID, iV b1.Was.X, iV b1.Was.Y, iV b1.Was.Z, iV b1.Here.X, iV b1.Here.Y, iV b1.Here.Z, iV b1.Rate], .pointer (some ⟨b4, 0, none⟩), .bool false, .pointer (some ⟨b4, 1, none⟩), .agg #[iV b1.Was.X, iV b1.Was.Y, iV b1.Was.Z], .bool vt10, .bool vt10, uV, uV, uV, uV], []⟩) (by kernel_rfl) ?_
  have hq_ := ite_some h; clear h; rcases hq_ with ⟨c16, h⟩ | ⟨c16, h⟩
  · have c16 : vt10 = true := c16
    refine seqRwI 5 (x := vt10) (v := true) (by kernel_rfl) c16 ?_
    refine seqRwI 6 (x := vt10) (v := true) (by kernel_rfl) c16 ?_
    refine seqL1 (by kernel_rfl) ?_
    refine seqG (by kernel_rfl) (does_run (run_loadN (n := 3) rfl Try.underlying23 rfl (by kernel_rfl) (by kernel_rfl : _ = Value.pointer (some ⟨b4, 4, none⟩)) (cs := [.int .i64 b1.Here.X, .int .i64 b1.Here.Y, .int .i64 b1.Here.Z]) rfl (HS15.cells 4 3 _ rfl)) ?_)
    have hq_ := bind_some h; clear h; obtain ⟨vt17, hc18, h⟩ := hq_
    refine seqG (by kernel_rfl) (does_call (f := 26) (args := #[.agg #[.int .i64 b1.Here.X, .int .i64 b1.Here.Y, .int .i64 b1.Here.Z], .int .i64 4194304]) (by kernel_rfl) (sky_within.calls k b1.Here 4194304 HS15 vt17 hc18) ?_)
    rintro _ W21 ⟨f19, rfl, L20, HS22⟩
    refine ⟨_, rfl, ?_⟩
    refine seqS2 (a' := ⟨#[.agg #[iV b1.ID, iV b1.Was.X, iV b1.Was.Y, iV b1.Was.Z, iV b1.Here.X, iV b1.Here.Y, iV b1.Here.Z, iV b1.Rate], .pointer (some ⟨b4, 0, none⟩), .bool vt17, .pointer (some ⟨b4, 1, none⟩), .agg #[iV b1.Was.X, iV b1.Was.Y, iV b1.Was.Z], .bool true, .bool true, .pointer (some ⟨b4, 4, none⟩), .agg #[iV b1.Here.X, iV b1.Here.Y, iV b1.Here.Z], .bool vt17, .bool vt17], []⟩) (by kernel_rfl) ?_
    refine wpList_nil ?_
    refine hK9 _ _ ?_
    refine wp_ret ?_
    refine hret _ _ ?_
    refine ends_still (v := Value.bool vt17) (by kernel_rfl) (by kernel_rfl) ?_
    have HS23 := HS22.drop
    injection h with h
    subst h
    exact ⟨f19, rfl, (L13.trans L20), HS23⟩
  · have c16 : ¬ (vt10 = true) := c16
    refine seqRwI 5 (x := vt10) (v := false) (by kernel_rfl) (Bool.eq_false_iff.mpr c16) ?_
    refine seqRwI 6 (x := vt10) (v := false) (by kernel_rfl) (Bool.eq_false_iff.mpr c16) ?_
    refine seqS5 (a' := ⟨#[.agg #[iV b1.ID, iV b1.Was.X, iV b1.Was.Y, iV b1.Was.Z, iV b1.Here.X, iV b1.Here.Y, iV b1.Here.Z, iV b1.Rate], .pointer (some ⟨b4, 0, none⟩), .bool false, .pointer (some ⟨b4, 1, none⟩), .agg #[iV b1.Was.X, iV b1.Was.Y, iV b1.Was.Z], .bool false, .bool false, uV, uV, uV, .bool false], []⟩) (by kernel_rfl) ?_
    refine wpList_nil ?_
    refine hK9 _ _ ?_
    refine wp_ret ?_
    refine hret _ _ ?_
    refine ends_still (v := Value.bool false) (by kernel_rfl) (by kernel_rfl) ?_
    have HS24 := HS15.drop
    injection h with h
    subst h
    exact ⟨f12, rfl, L13, HS24⟩

end Go.Sp.W4
